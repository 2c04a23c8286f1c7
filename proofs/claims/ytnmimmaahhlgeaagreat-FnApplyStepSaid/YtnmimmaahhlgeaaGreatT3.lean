/- Part 3 of what the proof rests on: the executor and what it is worth, and the program's functions as it runs them. No condition. -/
import Derived.Test.YtnmimmaahhlgeaaGreatT2
import Derived.Test.YtnmimmaahhlgeaaGreatProg
import Derived.KernelRfl
set_option linter.unusedVariables false
set_option linter.unusedSimpArgs false
namespace Go.Av
structure RAW (wi:World) (root:Nat) (p:Pn) (F:List Nat) (H:PL) (w:World) (m:Mem) (φ:Pl):Prop where
 th:TH w m p root 0 F H
 nr:root ∉ F
 nd:F.Nodup
 all:∀ f∈root::F,wi.heap.size≤f∧f<w.heap.size∧mD φ f∧(∀ o,m f o=none)∧∃ (vs:List Value) (T:TypeId),w.heap[f]?=some (.cells vs.toArray T (0,0))∧∀ v∈vs,v.oneCell'=true
theorem kZ {w w':World} {f:Nat} (h:w'.heap[f]?=w.heap[f]?) (j:Nat):w'.cell? ⟨f,j,none⟩=w.cell? ⟨f,j,none⟩:=cell_of_heap h
theorem RAW.pX (wi:World) (root:Nat) (p:Pn) (F:List Nat) (H:PL):AHF (RAW wi root p F H):=by
 intro w m φ w' m' φ' ha h;have hs:∀ f∈root::F,w'.heap[f]?=w.heap[f]?:=fun f hf=>ha.block f (h.all f hf).2.1 (h.all f hf).2.2.1
 refine⟨h.th.frame ha.mle (fun j _ _=>kZ (hs root (by simp)) j) (fun f hf j=>kZ (hs f (by simp[hf])) j),h.nr,h.nd,fun f hf=>?_⟩;obtain⟨k1,k2,k3,k4,vs,T,k5,k6⟩:=h.all f hf;exact⟨k1,yU k2 ha.size,ha.range k2 k3,fun o=>(ha.mnew f k2 k3 o).trans (k4 o),vs,T,by rw[hs f hf];exact k5,k6⟩
structure ADP (wi:World) (root:Nat) (p:Pn) (F:List Nat) (H:PL) (bq:Nat) (us:List Value) (wa:World) (ma:Mem) (w:World) (m:Mem) (φ:Pl):Prop where
 th:TH wa ma p root 0 F H
 nr:root ∉ F
 nd:F.Nodup
 le:MLe ma m
 inF:bq∈root::F
 own:∃ n,φ 2=some (bq,n)
 row:∃ T,wa.heap[bq]?=some (.cells us.toArray T (0,0))
 bqn:wi.heap.size≤bq
 oth:∀ f∈root::F,f≠bq→wi.heap.size≤f∧f<w.heap.size∧mD φ f∧(∀ o,m f o=none)∧w.heap[f]?=wa.heap[f]?∧∃ (vs:List Value) (T:TypeId),wa.heap[f]?=some (.cells vs.toArray T (0,0))∧∀ v∈vs,v.oneCell'=true
theorem ADP.pX (wi:World) (root:Nat) (p:Pn) (F:List Nat) (H:PL) (bq:Nat) (us:List Value) (wa:World) (ma:Mem):AHF (ADP wi root p F H bq us wa ma):=by
 intro w m φ w' m' φ' ha h;refine⟨h.th,h.nr,h.nd,h.le.trans ha.mle,h.inF,?_,h.row,h.bqn,fun f hf hne=>?_⟩
 ·obtain⟨n,e⟩:=h.own;obtain⟨n',e',_⟩:=ha.ple _ _ _ e;exact⟨n',e'⟩
 ·obtain⟨k1,k2,k3,k4,k5,k6⟩:=h.oth f hf hne;exact⟨k1,yU k2 ha.size,ha.range k2 k3,fun o=>(ha.mnew f k2 k3 o).trans (k4 o),(ha.block f k2 k3).trans k5,k6⟩
theorem RO {us:List Value} {o:Nat} {v0 v1 v2 v3 v4:Value} (h0:us[o]?=some v0) (h1:us[o+1]?=some v1) (h2:us[o+2]?=some v2) (h3:us[o+3]?=some v3) (h4:us[o+4]?=some v4):us=us.take o++([v0,v1,v2,v3,v4]++us.drop (o+5)):=by
 have g:∀ {o:Nat} {v:Value},us[o]?=some v→us.drop o=v::us.drop (o+1):=by
  intro o v h;obtain⟨hl,rfl⟩:=zY.1 h;exact yA hl
 have:us.drop o=[v0,v1,v2,v3,v4]++us.drop (o+5):=by rw[g h0,g h1,g h2,g h3,g h4];rfl
 rw[← this,zC]
mutual
theorem TH.hole {w:World} {m:Mem} {x:Pn} {b o:Nat} {F:List Nat} {H:PL}:TH w m x b o F H→∀ q∈H,∃ v0 v1 v2 v3 v4,ICells m q.2.cells [v0,v1,v2,v3,v4]∧At5 w q.1.1 q.1.2 v0 v1 v2 v3 v4
 | .fresh h1 h2,q,hq=>by simp at hq;subst hq;exact⟨_,_,_,_,_,h1,h2⟩
 | .leaf _ _ _ _,q,hq=>by simp at hq
 | .node _ _ _ _ _ h6,q,hq=>THL.hole h6 q hq
theorem THL.hole {w:World} {m:Mem} {xs:List Pn} {b o:Nat} {F:List Nat} {H:PL}:THL w m xs b o F H→∀ q∈H,∃ v0 v1 v2 v3 v4,ICells m q.2.cells [v0,v1,v2,v3,v4]∧At5 w q.1.1 q.1.2 v0 v1 v2 v3 v4
 | .nil _ _,q,hq=>by simp at hq
 | .cons h1 h2,q,hq=>by
  rcases zT.1 hq with h|h
  ·exact TH.hole h1 q h
  ·exact THL.hole h2 q h
end
theorem AD0 {m:Mem} {φ:Pl}:∀ {cs:List IV} {vs:List Value},ICells m cs vs→RepC m φ (nE cs) vs
 | [],_, .nil=>.nil
 | c::cs,_, .cons a o b=>.cons (.i a) o (AD0 b)
section
variable {wi:World} {mi:Mem} {nt:Nat}
def mV (pre:List Value) (row:List AV) (post:List Value):List AV:=dX pre++(row++dX post)
theorem GR.adopt {ok:Nat→Prop} {root:Nat} {p:Pn} {F:List Nat} {H:PL} {env:Nat→AV} {st:Store} {a:Act} {w:World} {u bq oq:Nat} {y:Pn} (h:GR wi mi nt ok (RAW wi root p F H) env st a w) (hst:st 2=none) (hok:¬ ok 2) (hq:((bq,oq),y)∈H) (hu:env u=.i (.lit (.pointer (some ⟨bq,oq,none⟩)))) :
 ∃ pre post us ma,us.take oq=pre∧us.drop (oq+5)=post∧pre.length=oq∧us.length=oq+5+post.length∧(∀ v∈us,v.oneCell'=true) ∧
   GR wi mi nt (fun id=>ok id∨id=2) (ADP wi root p F H bq us w ma) (upd env u (.own 2 oq)) (upd st 2 (some (.box (mV pre (nE y.cells) post)))) a w:=by
 obtain⟨⟨m,φ,hi,henv,hadv,hk,hr⟩,h6,h7⟩:=h;obtain⟨v0,v1,v2,v3,v4,hc,h5⟩:=hr.th.hole _ hq;simp only at hc h5
 have hinF:bq∈root::F:=by
  rcases hr.th.holes _ hq with e|e
  ·simp at e;simp[e]
  ·simp at e;simp[e]
 obtain⟨k1,k2,k3,k4,us,T,k5,k6⟩:=hr.all bq hinF;have gc:∀ {o:Nat} {v:Value},w.cell? ⟨bq,o,none⟩=some v→us[o]?=some v:=fun h=>by rwa [bU k5]at h
 have hrow:=RO (gc h5.c0) (gc h5.c1) (gc h5.c2) (gc h5.c3) (gc h5.c4);have hl4:=(zY.1 (gc h5.c4)).1;refine⟨us.take oq,us.drop (oq+5),us,m,rfl,rfl,by rw[yK];omega,by rw[zC4];omega,k6,?_⟩
 have hφ2:φ 2=none:=by
  cases e:φ 2 with
  | none=>rfl
  | some q=>exact absurd (hk 2 (by rw[e];simp)) hok
 have hrep:RepC m (upd φ 2 (some (bq,one bq us.length))) (mV (us.take oq) (nE y.cells) (us.drop (oq+5))) us:=by
  have h1:=rZ (m:=m) (φ:=upd φ 2 (some (bq,one bq us.length))) (vs:=us.take oq) fun v hv=>k6 v (zI hv)
  have h2:=rZ (m:=m) (φ:=upd φ 2 (some (bq,one bq us.length))) (vs:=us.drop (oq+5)) fun v hv=>k6 v (yO hv)
  have h3:=KM h1 (KM (AD0 hc) h2);rw[← hrow]at h3;exact h3
 have hp:PLe φ (upd φ 2 (some (bq,one bq us.length))):=fun i r n e=>by
  refine⟨n,?_,rfl,fun _ h=>h⟩;have:i≠2:=fun h=>by rw[h,hφ2]at e;cases e
  simp[upd,this,e]
 refine⟨⟨m,upd φ 2 (some (bq,one bq us.length)),hi.adopt hst hφ2 k3 k4 k5 hrep,fun t=>?_,hadv.adopt k1,fun id hid=>?_,?_⟩,h6,h7⟩
 ·by_cases ht:t=u
  ·subst ht;have:=henv t;rw[hu]at this;simp only[upd,if_true];rw[this.dJ];exact .own (n:=one bq us.length) (by simp[upd])
  ·simp only[upd,ht,if_false];exact(henv t).mono (.refl _) hp
 ·by_cases e:id=2
  ·exact .inr e
  ·simp[upd,e]at hid;exact .inl (hk id hid)
 ·refine⟨hr.th,hr.nr,hr.nd, .refl _,hinF,⟨one bq us.length,by simp[upd]⟩,⟨T,k5⟩,k1,fun f hf hne=>?_⟩;obtain⟨q1,q2,q3,q4,q5⟩:=hr.all f hf;refine⟨q1,q2,fun i r n e ho=>?_,q4,rfl,q5⟩;by_cases e2:i=2
  ·subst e2;simp[upd]at e;obtain⟨rfl,rfl⟩:=e;exact hne ho
  ·simp[upd,e2]at e;exact q3 i r n e ho
def slA (n id k:Nat):AV:=if n=0 then .nils else .osl id k 0 n
def o8 (b:Nat):Nat→List Pn→PL
 | _,[]=>[]
 | o,x::l=>((b,o),x)::o8 b (o+5) l
theorem Inv.AZ6 {w:World} {m:Mem} {φ:Pl} {st:Store} {id b:Nat} {n:Ext} {blk blk':Blk} (hi:Inv w m φ st) (h:st id=some blk) (e:φ id=some (b,n)) (hb:BlkOk w m φ b n blk'):Inv w m φ (upd st id (some blk')):=by
 refine⟨hi.mem,?_,?_,hi.low⟩
 ·intro i bl hbl;by_cases hid:i=id
  ·subst hid;simp[upd]at hbl;subst hbl;exact⟨b,n,e,(eO hi e h).1,hb⟩
  ·simp[upd,hid]at hbl;exact hi.live i bl hbl
 ·intro i j r r' n1 n2 b1 b2 f e1 e2 p1 p2 o1 o2
  have g:∀ i b1,upd st id (some blk') i=some b1→∃ b2,st i=some b2:=fun i b1 h1=>by
   by_cases hid:i=id
   ·subst hid;exact⟨blk,h⟩
   ·simp[upd,hid]at h1;exact⟨b1,h1⟩
  obtain⟨x1,y1⟩:=g i b1 e1;obtain⟨x2,y2⟩:=g j b2 e2;exact hi.inj i j r r' n1 n2 x1 x2 f y1 y2 p1 p2 o1 o2
theorem AIQ {w:World} {m:Mem} {φ:Pl} {st:Store} {n id k:Nat} {v:Value} {es:List (List IV)} (hn:es.length=n) (hi:Inv w m φ st) (hr:Rep m φ (slA n id k) v) (hst:n≠0→st id=some (.arr k es)) :
 ∃ m1,IRep m1 (.isl es) v∧Inv w m1 φ (if n=0 then st else upd st id (some (.frz k es)))∧Adv w m φ w m1 φ:=by
 unfold slA at hr;by_cases h0:n=0
 ·simp only[h0,if_true]at hr ⊢;have:es=[]:=zW.1 (by omega);subst this
  cases hr
  exact⟨m, .isl0 _ _ (fun _=>rfl),hi, .refl _ _ _⟩
 ·simp only[h0,if_false]at hr ⊢;have hid:=hst h0
  have hfr:tT st (.osl id k 0 n)=some (.isl es,upd st id (some (.frz k es))):=by
   simp[tT,frz,BO,AC,hid,tst,window,bnd,jV,zZ,hn]
  exact kU hi hr hfr
theorem Q4 {w:World} {m:Mem} {b:Nat}:∀ {ks:List Pn} {o:Nat} {vs:List Value},ICells m (Pn.aB ks).flatten vs→(∀ j v,vs[j]?=some v→w.cell? ⟨b,o+j,none⟩=some v)→THL w m ks b o [] (o8 b o ks)
 | [],o,_,_,_=>.nil b o
 | k::ks,o,vs,h,hw=>by
  simp only[Pn.aB,yX]at h;have h1:=h.take 5;have h2:=h.drop 5;rw[List.take_left' (Pn.eG k)]at h1;rw[List.drop_left' (Pn.eG k)]at h2;have hl:=h1.length;rw[Pn.eG]at hl;have hlen:5≤vs.length:=by rw[yK]at hl;omega
  have hf:THL w m (k::ks) b o ([]++[]) ([((b,o),k)]++o8 b (o+5) ks):=by
   refine .cons ?_ (Q4 h2 fun j v hj=>?_)
   ·have e:vs.take 5=[vs[0],vs[1],vs[2],vs[3],vs[4]]:=by
     apply List.ext_getElem (by simp;omega);intro i l1 l2;simp at l1 l2
     rcases i with _|_|_|_|_|i
     ·simp
     ·simp
     ·simp
     ·simp
     ·simp
     ·omega
    rw[e]at h1;exact .fresh h1 ⟨hw 0 _ (by simp),hw 1 _ (by simp),hw 2 _ (by simp),hw 3 _ (by simp),hw 4 _ (by simp)⟩
   ·rw[yM]at hj;have:=hw (5+j) v hj
    rwa [← Nat.add_assoc]at this
  exact hf
theorem GR.AcO {ok:Nat→Prop} {root:Nat} {p:Pn} {F:List Nat} {H:PL} {env env':Nat→AV} {st st':Store} {a:Act} {w wa:World} {ma:Mem} {u bq oq idE idC idK:Nat} {pre post us:List Value} {k t:Int} {es:List Ex} {cs:List Int} {ks:List Pn}
 (h:GR wi mi nt ok (ADP wi root p F H bq us wa ma) env st a w) (h1:us.take oq=pre) (h2:us.drop (oq+5)=post) (h3:pre.length=oq) (h4:us.length=oq+5+post.length)
 (hq:((bq,oq),Pn.mk k t es cs ks)∈H) (hbox:st 2=some (.box (mV pre [.int k, .int t,slA es.length idE 5,slA cs.length idC 1,slA ks.length idK 5] post)))
 (hE:es.length≠0→st idE=some (.arr 5 (Ex.aB es))) (hC:cs.length≠0→st idC=some (.arr 1 (aG cs))) (hK:ks.length≠0→st idK=some (.arr 5 (Pn.aB ks)))
 (hd:2<idE∧2<idC∧2<idK∧idE≠idC∧idE≠idK∧idC≠idK)
 (hst:∀ i blk,st' i=some blk→i<2∧st i=some blk∧l5 blk) (he:∀ t,env' t=.junk∨(env' t=env t∧(env t=.own 2 oq∨oH st' (env t)))) :
 ∃ F' H' us' b' cap vE vC m2,(((bq,oq),Pn.mk k t es cs ks)::H').Perm (H++o8 b' 0 ks)∧us'=pre++([.int .i64 k, .int .i64 t,vE,vC,if ks.length=0 then .slice none 0 0 else .slice (some ⟨b',0,none⟩) ks.length cap]++post)∧(∀ v∈us',v.oneCell'=true)∧(∀ q∈H,q.1.1≠b') ∧
   GR wi mi nt (fun id=>id≤2) (ADP wi root p F' H' bq us' w m2) env' (upd st' 2 (some (.box (dX us')))) a w:=by
 obtain⟨⟨m,φ,hi,henv,hadv,hk,hr⟩,h6,h7⟩:=h;obtain⟨n2,e2⟩:=hr.own;obtain⟨hb2,hok2⟩:=eO hi e2 hbox;obtain⟨d1,d2,d3,d4,d5,d6⟩:=hd
 cases hok2 with
 | @box T _ vs hh hl hrc hm =>
  have hone:=hrc.one;obtain⟨vp,x,rfl,r1,r2⟩:=p8 hrc;obtain⟨vr,vq,rfl,r3,r4⟩:=p8 r2;obtain rfl:=(tL r1).symm;obtain rfl:=(tL r4).symm
  cases r3 with
  | cons a0 o0 r3 =>
  cases r3 with
  | cons a1 o1 r3 =>
  cases r3 with
  | @cons _ vE _ _ aE oE r3 =>
  cases r3 with
  | @cons _ vC _ _ aC oC r3 =>
  cases r3 with
  | @cons _ vK _ _ aK oK r3 =>
  cases r3
  obtain rfl:=a0.dJ;obtain rfl:=a1.dJ;obtain⟨m1,f1,i1,g1⟩:=AIQ (es:=Ex.aB es) (by simp) hi aE hE
  have s1:∀ i,i≠idE→(if es.length=0 then st else upd st idE (some (.frz 5 (Ex.aB es)))) i=st i:=fun i hne=>by
   split
   ·rfl
   ·simp[upd,hne]
  generalize (if es.length=0 then st else upd st idE (some (.frz 5 (Ex.aB es))))=st1 at i1 s1;obtain⟨m2,f2,i2,g2⟩:=AIQ (es:=aG cs) (by simp) i1 (aC.mono g1.mle (.refl _)) (fun h0=>by rw[s1 _ (by omega)];exact hC h0)
  have s2:∀ i,i≠idE→i≠idC→(if cs.length=0 then st1 else upd st1 idC (some (.frz 1 (aG cs)))) i=st i:=fun i hne hne2=>by
   split
   ·exact s1 i hne
   ·simp[upd,hne2,s1 i hne]
  generalize (if cs.length=0 then st1 else upd st1 idC (some (.frz 1 (aG cs))))=st2 at i2 s2;have hA:=(hadv.trans g1).trans g2
  have hm2:∀ o,m2 bq o=none:=by
   have hb:=s2 2 (by omega) (by omega);rw[hbox]at hb;obtain⟨_,hok⟩:=eO i2 e2 hb
   cases hok with|box _ _ _ q=>exact q
  have hlit:BlkOk w m2 φ bq n2 (.box (dX (pre++([.int .i64 k, .int .i64 t,vE,vC,vK]++post)))):=.box hh hl (rZ hone) hm2;have i3:=i2.AZ6 (by rw[s2 2 (by omega) (by omega)];exact hbox) e2 hlit;generalize hus:pre++([.int .i64 k, .int .i64 t,vE,vC,vK]++post)=us' at hh hl hone hlit i3
  have hst2:∀ i blk,upd st' 2 (some (.box (dX us'))) i=some blk→upd st2 2 (some (.box (dX us'))) i=some blk∧l5 blk:=by
   intro i blk hb;by_cases hid:i=2
   ·subst hid;simp[upd]at hb ⊢;refine⟨hb,?_⟩;subst hb;intro c hc;obtain⟨v,_,rfl⟩:=zG.1 hc;exact .inl ⟨v,rfl⟩
   ·simp[upd,hid]at hb ⊢;obtain⟨q1,q2,q3⟩:=hst i blk hb;exact⟨by rw[s2 i (by omega) (by omega)];exact q2,q3⟩
  have i4:=i3.cut hst2
  have hat:At5 w bq oq (.int .i64 k) (.int .i64 t) vE vC vK:=by
   have g:∀ (j:Nat) (v:Value),[Value.int .i64 k, .int .i64 t,vE,vC,vK][j]?=some v→w.cell? ⟨bq,oq+j,none⟩=some v:=by
    intro j v hj;have hj5:=(zY.1 hj).1;rw[bU hh,← hus,zN (by omega),h3,xM,zL hj5];exact hj
   exact⟨g 0 _ rfl,g 1 _ rfl,g 2 _ rfl,g 3 _ rfl,g 4 _ rfl⟩
  have hHlt:∀ q∈H,q.1.1∈root::F:=fun q hq=>by
   rcases hr.th.holes q hq with e|e
   ·simp[e]
   ·simp[e]
  have hlt:∀ f∈root::F,f<w.heap.size:=fun f hf=>by
   by_cases hne:f=bq
   ·subst hne;exact(yY.1 hh).1
   ·exact(hr.oth f hf hne).2.1
  have hmon:=hr.le.trans (g1.mle.trans g2.mle);have fE:IRep m2 (.isl (Ex.aB es)) vE:=f1.mono g2.mle
  obtain⟨b',cap,G,hvK,hTH,hG,hGn,hbn⟩:∃ b' cap G,vK=(if ks.length=0 then Value.slice none 0 0 else Value.slice (some ⟨b',0,none⟩) ks.length cap)∧TH w m2 (.mk k t es cs ks) bq oq G (o8 b' 0 ks) ∧
   (∀ f∈G,wi.heap.size≤f∧f<w.heap.size∧mD (CK (upd st' 2 (some (.box (dX us')))) φ) f∧(∀ o,m2 f o=none)∧(∃ (vs:List Value) (T:TypeId),w.heap[f]?=some (.cells vs.toArray T (0,0))∧∀ v∈vs,v.oneCell'=true)∧f≠bq∧f ∉ root::F)∧G.Nodup∧∀ q∈H,q.1.1≠b':=by
   by_cases h0:ks.length=0
   ·have hks:ks=[]:=zW.1 h0;subst hks;simp only[slA,yE,if_true]at aK
    cases aK
    exact⟨w.heap.size,0,[],rfl, .leaf hat fE f2 (fun _=>rfl),by simp,List.nodup_nil,fun q hq e=>by have:=hlt _ (hHlt q hq);omega⟩
   ·simp only[slA,h0,if_false]at aK
    cases aK with
    | @osl _ _ _ _ cap b' nK ao eK l1 l2 l3 l4 =>
     have hao:=l3 (by omega);subst hao;have hK2:st2 idK=some (.arr 5 (Pn.aB ks)):=by rw[s2 idK (by omega) (by omega)];exact hK h0
     obtain⟨hbK,hokK⟩:=eO i2 eK hK2
     cases hokK with
     | @arr TK _ _ vk q1 q2 q3 q4 q5 q6 q7 q8 q9 =>
      have hb'q:b'≠bq:=fun e=>by
       subst e;have:=hi.inj idK 2 b' b' nK n2 _ _ b' (hK h0) hbox eK e2 hbK.1 hb2.1;omega
      have hnF:b' ∉ root::F:=fun hm=>by
       exact(hr.oth b' hm hb'q).2.2.1 idK b' nK eK hbK.1
      refine⟨b',cap,[b'],by simp[h0],?_,?_,by simp,fun q hq e=>hnF (e ▸ hHlt q hq)⟩
      ·refine .node hat fE f2 (fun e=>h0 (by rw[e];rfl)) (by omega) ?_;rw[Pn.bC]at q5
       exact Q4 q5 fun j v hj=>by
        rw[zB,bU q1];rw[zD]at hj;split at hj
        ·exact hj
        ·cases hj
      ·intro f hf;simp at hf;subst hf;refine⟨LF hadv eK hbK.1,hbK.2 _ hbK.1,?_,q7,⟨vk,TK,q1,q9⟩,hb'q,hnF⟩;refine vX i3 hst2 (id:=idK) (blk:=.arr 5 (Pn.aB ks)) (by simp[upd,show idK≠2 by omega,hK2]) ?_ eK hbK.1;have:idK≠2:=by omega
       simp only[upd,this,if_false]
       cases hx:st' idK with
       | none=>rfl
       | some blk=>have:=(hst idK blk hx).1;omega
  obtain⟨T0,hrow0⟩:=hr.row
  have hsame:∀ f∈root::F,∀ j,(f≠bq∨j<oq∨oq+5≤j)→w.cell? ⟨f,j,none⟩=wa.cell? ⟨f,j,none⟩:=by
   intro f hf j hj;by_cases hne:f=bq
   ·subst hne;rw[bU hh,bU hrow0,← hus]
    rcases hj with hj|hj|hj
    ·exact absurd rfl hj
    ·rw[zL (by omega),← h1,zD];simp[hj]
    ·rw[zN (by omega),zN (by simp;omega),← h2,yM];simp only[zM,yE,h3];congr 1;omega
   ·exact kZ (hr.oth f hf hne).2.2.2.2.1 j
  obtain⟨F1,H1,k1,k2,k3⟩:=TH.fill hmon hTH hr.th hr.nr hr.nd hq hsame;have hF1:∀ f,f∈F1↔f∈F∨f∈G:=fun f=>by rw[k2.mem_iff,zT]
  refine⟨F1,H1,us',b',cap,vE,vC,m2,k3,by rw[← hus,hvK],hone,hbn,⟨⟨m2,CK (upd st' 2 (some (.box (dX us')))) φ,i4,fun x=>?_,hA.cut,fun id hid=>?_,?_⟩,h6,h7⟩⟩
  ·rcases he x with e|⟨e,e'|e'⟩
   ·rw[e];exact .junk _
   ·rw[e,e'];have hx:=henv x;rw[e']at hx;generalize a.tmps.getD x undef=yy at hx ⊢
    cases hx with
    | own e3=>exact .own (by rw[rF (by simp[upd])];exact e3)
   ·rw[e];refine oH.rep e' (fun i hi'=>?_) (henv x);refine rF ?_;by_cases hid:i=2
    ·subst hid;simp[upd]
    ·simpa [upd,hid]using hi'
  ·cases hx:CK (upd st' 2 (some (.box (dX us')))) φ id with
   | none=>exact absurd hx hid
   | some q =>
    have:=(eZ hx).2;by_cases hid2:id=2
    ·omega
    ·simp[upd,hid2]at this
     cases hy:st' id with
     | none=>exact absurd hy this
     | some blk=>have:=(hst id blk hy).1;omega
  ·refine⟨k1,fun hm=>?_,?_, .refl _,?_,⟨n2,by rw[rF (by simp[upd])];exact e2⟩,⟨T,hh⟩,hr.bqn,fun f hf hne=>?_⟩
   ·rcases(hF1 root).1 hm with h|h
    ·exact hr.nr h
    ·exact(hG root h).2.2.2.2.2.2 (by simp)
   ·rw[k2.nodup_iff];exact yS.2 ⟨hr.nd,hGn,fun x hx y hy e=>(hG y hy).2.2.2.2.2.2 (by rw[← e];simp[hx])⟩
   ·rcases zP.1 hr.inF with e|e
    ·simp[e]
    ·simp[(hF1 bq).2 (.inl e)]
   ·have hf':f∈root::F∨f∈G:=by
     rcases zP.1 hf with e|e
     ·exact .inl (by simp[e])
     ·rcases(hF1 f).1 e with e|e
      ·exact .inl (by simp[e])
      ·exact .inr e
    rcases hf' with hf'|hf'
    ·obtain⟨q1,q2,q3,q4,q5,vs,T',q6,q7⟩:=hr.oth f hf' hne;refine⟨q1,q2,q3.cut,fun o=>?_,rfl,vs,T',by rw[q5];exact q6,q7⟩;rw[(g1.trans g2).mnew f q2 q3 o];exact q4 o
    ·obtain⟨q1,q2,q3,q4,q5,_⟩:=hG f hf';exact⟨q1,q2,q3,q4,rfl,q5⟩
theorem GR.AD3 {ok:Nat→Prop} {root:Nat} {p:Pn} {F:List Nat} {H:PL} {env env':Nat→AV} {st st':Store} {a:Act} {w wa:World} {ma:Mem} {bq:Nat} {us:List Value}
 (h:GR wi mi nt ok (ADP wi root p F H bq us wa ma) env st a w) (hbox:st 2=some (.box (dX us)))
 (hst:∀ i blk,st' i=some blk→i≠2∧st i=some blk∧l5 blk) (he:∀ t,env' t=.junk∨(env' t=env t∧oH st' (env t))) :
 GR wi mi nt (fun id=>st' id≠none) (RAW wi root p F H) env' st' a w:=by
 obtain⟨⟨m,φ,hi,henv,hadv,hk,hr⟩,h6,h7⟩:=h;obtain⟨n2,e2⟩:=hr.own;obtain⟨hb2,hok2⟩:=eO hi e2 hbox;have hst2:∀ i blk,st' i=some blk→st i=some blk∧l5 blk:=fun i blk hb=>(hst i blk hb).2
 cases hok2 with
 | @box T _ vs hh hl hrc hm =>
  have hone:=hrc.one;obtain rfl:=(tL hrc).symm;obtain⟨T0,hrow0⟩:=hr.row
  have hcell:∀ f∈root::F,∀ j,w.cell? ⟨f,j,none⟩=wa.cell? ⟨f,j,none⟩:=by
   intro f hf j;by_cases hne:f=bq
   ·subst hne;rw[bU hh,bU hrow0]
   ·exact kZ (hr.oth f hf hne).2.2.2.2.1 j
  refine⟨⟨m,CK st' φ,hi.cut hst2,fun x=>?_,hadv.cut,fun id hid=>?_,?_⟩,h6,h7⟩
  ·rcases he x with e|⟨e,e'⟩
   ·rw[e];exact .junk _
   ·rw[e];exact e'.rep (fun i hi'=>rF hi') (henv x)
  ·cases hx:CK st' φ id with
   | none=>exact absurd hx hid
   | some q=>exact(eZ hx).2
  ·refine⟨hr.th.frame hr.le (fun j _ _=>hcell root (by simp) j) (fun f hf j=>hcell f (by simp[hf]) j),hr.nr,hr.nd,fun f hf=>?_⟩;by_cases hne:f=bq
   ·subst hne;refine⟨hr.bqn,(yY.1 hh).1,?_,hm,us,T,hh,hone⟩;refine vX hi hst2 hbox ?_ e2 hb2.1
    cases hx:st' 2 with
    | none=>rfl
    | some blk=>exact absurd rfl (hst 2 blk hx).1
   ·obtain⟨q1,q2,q3,q4,q5,vs',T',q6,q7⟩:=hr.oth f hf hne;exact⟨q1,q2,q3.cut,q4,vs',T',by rw[q5];exact q6,q7⟩
end
theorem KN {m:Mem} {φ:Pl}:∀ {cs:List IV} {vs:List Value},RepC m φ (nE cs) vs→ICells m cs vs
 | [],_, .nil=>.nil
 | c::cs,_, .cons a o b=>by
  cases a with
  | i a=>exact .cons a o (KN b)
section
variable {wi:World} {mi:Mem} {nt:Nat}
theorem GR.AfE {ok:Nat→Prop} {R:World→Mem→Pl→Prop} {p:Pn} {env:Nat→AV} {st st':Store} {a:Act} {w:World} {u id:Nat} (h:GR wi mi nt ok R env st a w) (hu:env u=.own id 0) (hbox:st id=some (.box (nE p.cells)))
 (hst:∀ i blk,st' i=some blk→i≠id∧st i=some blk∧l5 blk) :
 ∃ b3,∀ env',(∀ t,env' t=.junk∨(t=u∧env' t=.i (.lit (.pointer (some ⟨b3,0,none⟩))))∨(env' t=env t∧oH st' (env t)))→GR wi mi nt (fun i=>st' i≠none) (RAW wi b3 p [] [((b3,0),p)]) env' st' a w:=by
 obtain⟨⟨m,φ,hi,henv,hadv,hk,_⟩,h6,h7⟩:=h;have hr:=henv u;rw[hu]at hr;generalize hy:a.tmps.getD u undef=yy at hr
 cases hr with
 | @own _ _ b3 n3 e3 =>
  obtain⟨hb,hok⟩:=eO hi e3 hbox;have hst2:∀ i blk,st' i=some blk→st i=some blk∧l5 blk:=fun i blk hb=>(hst i blk hb).2
  cases hok with
  | @box T _ vs hh hl hrc hm =>
   have hc:=KN hrc;have hlen:=hc.length;rw[Pn.eG]at hlen
   obtain⟨v0,v1,v2,v3,v4,rfl⟩:∃ v0 v1 v2 v3 v4,vs=[v0,v1,v2,v3,v4]:=by
    match vs,hlen with
    | [v0,v1,v2,v3,v4],_=>exact⟨v0,v1,v2,v3,v4,rfl⟩
   refine⟨b3,fun env' he=>⟨⟨m,CK st' φ,hi.cut hst2,fun t=>?_,hadv.cut,fun i hi'=>?_,?_⟩,h6,h7⟩⟩
   ·rcases he t with e|⟨rfl,e⟩|⟨e,e'⟩
    ·rw[e];exact .junk _
    ·rw[e,hy];exact .i (.lit _)
    ·rw[e];exact e'.rep (fun i hi'=>rF hi') (henv t)
   ·cases hx:CK st' φ i with
    | none=>exact absurd hx hi'
    | some q=>exact(eZ hx).2
   ·refine⟨.fresh hc ⟨by rw[bU hh];rfl,by rw[bU hh];rfl,by rw[bU hh];rfl,by rw[bU hh];rfl,by rw[bU hh];rfl⟩,by simp,List.nodup_nil,fun f hf=>?_⟩;simp at hf;subst hf;refine⟨LF hadv e3 hb.1,hb.2 _ hb.1,?_,hm,_,T,hh,hrc.one⟩;refine vX hi hst2 hbox ?_ e3 hb.1
    cases hx:st' id with
    | none=>rfl
    | some blk=>exact absurd rfl (hst id blk hx).1
theorem GR.fin {ok:Nat→Prop} {root:Nat} {p:Pn} {F:List Nat} {env:Nat→AV} {st:Store} {a:Act} {w:World} (h:GR wi mi nt ok (RAW wi root p F []) env st a w) (hst:∀ i blk,st i=some blk→l5 blk) {u:Nat} (hu:env u=.i (.lit (.pointer (some ⟨root,0,none⟩)))) {env':Nat→AV} (he:∀ t,env' t=.junk∨(t=u∧env' t=.i (.iref p.cells))∨(env' t=env t∧oH st (env t))) :
 GR wi mi nt ok (fun _ _ _=>True) env' st a w:=by
 classical
 obtain⟨⟨m,φ,hi,henv,hadv,hk,hr⟩,h6,h7⟩:=h
 let m':Mem:=fun f o=>if f∈root::F then w.cell? ⟨f,o,none⟩else m f o
 have hin:∀ f,f∈root::F→∀ o,m' f o=w.cell? ⟨f,o,none⟩:=fun f hf o=>by show(if f∈root::F then _ else _)=_;rw[if_pos hf]
 have hout:∀ f,f ∉ root::F→∀ o,m' f o=m f o:=fun f hf o=>by show(if f∈root::F then _ else _)=_;rw[if_neg hf]
 have hle:MLe m m':=fun f o v e=>by
  by_cases hf:f∈root::F
  ·rw[(hr.all f hf).2.2.2.1 o]at e;cases e
  ·rw[hout f hf];exact e
 have hmem:oI w m':=fun f o v e=>by
  by_cases hf:f∈root::F
  ·rw[hin f hf]at e;exact e
  ·rw[hout f hf]at e;exact hi.mem f o v e
 have hat:IAt m' root 0 p.cells:=hr.th.iat hle (fun j _ _=>hin root (by simp) j) (fun f hf j=>hin f (by simp[hf]) j);refine⟨⟨m',φ,⟨hmem,fun i blk hb=>?_,hi.inj,hi.low⟩,fun t=>?_,⟨hadv.size,hadv.os,hadv.tape,hadv.output,hadv.block,hadv.mle.trans hle,fun f hf hfr o=>?_,hadv.ple,hadv.pnew⟩,hk,trivial⟩,h6,h7⟩
 ·obtain⟨b,n,q1,q2,q3⟩:=hi.live i blk hb;refine⟨b,n,q1,q2,q3.AHM (hst i blk hb) rfl fun o ho=>?_⟩;rw[hout b (fun hf=>(hr.all b hf).2.2.1 i b n q1 q2.1)];exact ho
 ·rcases he t with e|⟨rfl,e⟩|⟨e,e'⟩
  ·rw[e];exact .junk _
  ·have hx:=henv t;rw[hu]at hx;rw[e,hx.dJ];exact .i (.iref hat)
  ·rw[e];exact e'.rep (fun _ _=>rfl) (henv t)
 ·rw[hout f (fun hf'=>by have:=(hr.all f hf').1;omega)];exact hadv.mnew f hf hfr o
theorem RAW.keep {root:Nat} {p:Pn} {F:List Nat} {H:PL} {w:World} {m:Mem} {φ:Pl} (ids:List Nat) (h:RAW wi root p F H w m φ):RAW wi root p F H w m (gD ids φ):=by
 refine⟨h.th,h.nr,h.nd,fun f hf=>?_⟩;obtain⟨k1,k2,k3,k4,k5⟩:=h.all f hf;refine⟨k1,k2,fun id r n e=>?_,k4,k5⟩;unfold gD at e
 cases hx:ids[id]? with
 | none=>rw[hx]at e;cases e
 | some j=>rw[hx]at e;exact k3 j r n e
theorem GR.settle {ok:Nat→Prop} {R:World→Mem→Pl→Prop} (hR:∀ w m φ ids,R w m φ→R w m (gD ids φ)) {env:Nat→AV} {st:Store} {a:Act} {w:World} (G:List Nat) (h:GR wi mi nt ok R env st a w) :
 GR wi mi nt (fun id=>id<(Av.settle G 0 env st).st.length) R (aV (Av.settle G 0 env st).env) (bK (Av.settle G 0 env st).st) a w:=by
 obtain⟨⟨m,φ,hi,henv,hadv,hok,hK⟩,hsz,hdf⟩:=h;unfold Av.settle F9;generalize hids:kE st 0 (FV env G)=ids;have hd:ids.Nodup:=by rw[← hids];exact jQ _ _ _
 refine⟨⟨m,gD ids φ,hi.keep hd,?_,hadv.keep (fun id h=>absurd rfl h) (fun j hj=>absurd hj (zB5 j)),?_,hR _ _ _ ids hK⟩,hsz,hdf⟩
 ·intro t
  have key:∀ G:List Nat,Rep m (gD ids φ) (aV (qZ (jG ids) env G) t) (a.tmps.getD t undef):=by
   intro G
   induction G with
   | nil=>exact .junk _
   | cons u G ih =>
    simp only[qZ,aV];by_cases e:t=u
    ·subst e;simp only[if_true];exact(henv t).ren (pF ids φ)
    ·simp only[e,if_false];exact ih
  exact key G
 ·intro id hne;simp only[jM];unfold gD at hne
  cases hx:ids[id]? with
  | none=>rw[hx]at hne;exact absurd rfl hne
  | some i=>exact(zY.1 hx).1
theorem GR.envTo {ok:Nat→Prop} {R:World→Mem→Pl→Prop} {env env':Nat→AV} {st:Store} {a:Act} {w:World} (h:GR wi mi nt ok R env st a w) (he:∀ t,env' t=.junk∨env' t=env t):GR wi mi nt ok R env' st a w:=by
 refine h.turn fun m φ h1 h2 h3 h4 h5=>⟨m,φ,h1,fun t=>?_,h3,h4,h5⟩
 rcases he t with e|e
 ·rw[e];exact .junk _
 ·rw[e];exact h2 t
theorem GR.ok' {ok ok':Nat→Prop} {R:World→Mem→Pl→Prop} {env:Nat→AV} {st:Store} {a:Act} {w:World} (h:GR wi mi nt ok R env st a w) (he:∀ id,ok id→ok' id):GR wi mi nt ok' R env st a w :=
 h.turn fun m φ h1 h2 h3 h4 h5=>⟨m,φ,h1,h2,h3,fun id hi=>he id (h4 id hi),h5⟩
theorem GR.AaF {C:Ctx} (hS:SoundOk C) {G:List Nat} {c:Code} {S:AS} {a:Act} {w:World} {R:World→Mem→Pl→Prop} (hR:AHF R) {PP:AExit→AS→Prop} (hc:codeOk nt c=true) (hx:∃ e S',dD C G S.st.length c S=some (e,S')∧PP e S') (h:GR wi mi nt (fun id=>id<S.st.length) R (aV S.env) (bK S.st) a w) (hnr:dC c=true:=by rfl) :
 c.wp C.P (fun e' a' w'=>∃ e S',e'=nT e∧PP e S'∧GR wi mi nt (fun id=>id<S'.st.length) R (aV S'.env) (bK S'.st) a' w') a w:=by
 obtain⟨e,S',h1,h2⟩:=hx;refine wp_mono (GR.fF hS hR hc h1 h hnr) ?_;rintro e' a' w' ⟨rfl,hg⟩;exact⟨e,S',rfl,h2,hg⟩
end
@[simp] theorem I9 (a:List Value):(dX a).length=a.length:=by simp[dX]
theorem YA {α:Type}:∀ (a b:List α) (n:Nat),dropE (a.length+n) (a++b)=dropE n b
 | [],b,n=>by simp
 | x::a,b,n=>by
  rw[zM,show a.length+1+n=(a.length+n)+1 by omega];exact YA a b n
theorem P8 {α:Type}:∀ (a b:List α) (n:Nat) (xs:List α),splice (a++b) (a.length+n) xs=bnd (splice b n xs) fun l=>some (a++l)
 | [],b,n,xs=>by simp;cases splice b n xs<;>rfl
 | x::a,b,n,xs=>by
  rw[zM,show a.length+1+n=(a.length+n)+1 by omega];show bnd (splice (a++b) (a.length+n) xs) _=_;rw[P8 a b n xs]
  cases splice b n xs<;>rfl
theorem TU (pre post:List Value) (row:List AV) (j n:Nat):cut (mV pre row post) (pre.length+j) n=cut (row++dX post) j n:=by
 unfold cut mV;have:=YA (dX pre) (row++dX post) j;rw[I9]at this;rw[this]
theorem sV (pre post:List Value) (row:List AV) (j:Nat) (xs:List AV):splice (mV pre row post) (pre.length+j) xs=bnd (splice (row++dX post) j xs) fun l=>some (dX pre++l):=by
 unfold mV;have:=P8 (dX pre) (row++dX post) j xs;rw[I9]at this;exact this
theorem M9 (a:List Value):bD (dX a)=[]:=by
 induction a with
 | nil=>rfl
 | cons v a ih=>simpa [dX,bD,eT]using ih
theorem PK (r:Nat→Option Nat) (a:List Value):AQ r (dX a)=dX a:=by
 induction a with
 | nil=>rfl
 | cons v a ih=>simpa [dX,AQ,ren]using ih
theorem AG7 (a b:List AV):bD (a++b)=bD a++bD b:=by
 induction a with
 | nil=>rfl
 | cons c a ih=>simp[bD,ih]
theorem AON (r:Nat→Option Nat) (a b:List AV):AQ r (a++b)=AQ r a++AQ r b:=by
 induction a with
 | nil=>rfl
 | cons c a ih=>simp[AQ,ih]
theorem bM (pre post:List Value) (row:List AV):bD (mV pre row post)=bD row:=by
 simp[mV,AG7,M9]
theorem dG (r:Nat→Option Nat) (pre post:List Value) (row:List AV):AQ r (mV pre row post)=mV pre (AQ r row) post:=by
 simp[mV,AON,PK]
section
variable (pre post:List Value) (a0 a1 a2 a3 a4 x:AV)
theorem AdK:cut (mV pre [a0,a1,a2,a3,a4] post) (pre.length+2) 1=some [a2]:=by rw[TU];rfl
theorem AdJ:cut (mV pre [a0,a1,a2,a3,a4] post) (pre.length+3) 1=some [a3]:=by rw[TU];rfl
theorem AdI:cut (mV pre [a0,a1,a2,a3,a4] post) (pre.length+4) 1=some [a4]:=by rw[TU];rfl
theorem AF5:splice (mV pre [a0,a1,a2,a3,a4] post) (pre.length+2) [x]=some (mV pre [a0,a1,x,a3,a4] post):=by rw[sV];rfl
theorem AO7:splice (mV pre [a0,a1,a2,a3,a4] post) (pre.length+3) [x]=some (mV pre [a0,a1,a2,x,a4] post):=by rw[sV];rfl
theorem VH:splice (mV pre [a0,a1,a2,a3,a4] post) (pre.length+4) [x]=some (mV pre [a0,a1,a2,a3,x] post):=by rw[sV];cases post<;>rfl
theorem AX1:D9 1 (dropE (pre.length+2) (mV pre [a0,a1,a2,a3,a4] post))=some [a2]:=AdK pre post a0 a1 a2 a3 a4
theorem AbD:D9 1 (dropE (pre.length+3) (mV pre [a0,a1,a2,a3,a4] post))=some [a3]:=AdJ pre post a0 a1 a2 a3 a4
theorem AEI:D9 1 (dropE (pre.length+4) (mV pre [a0,a1,a2,a3,a4] post))=some [a4]:=AdI pre post a0 a1 a2 a3 a4
end
mutual
theorem TH.AeE {w:World} {m m':Mem} (hm:MLe m m') {x:Pn} {b o:Nat} {F:List Nat} {H:PL}:TH w m x b o F H→(∀ j,o≤j→j<o+5→m' b j=w.cell? ⟨b,j,none⟩)→(∀ f∈F,∀ j,m' f j=w.cell? ⟨f,j,none⟩)→IAt m' b o x.cells
 | .fresh h1 h2,hb,hF=>by
  refine IAt.mk o (h1.mono hm) fun j v hj=>?_
  rcases j with _|_|_|_|_|j
  ·simp at hj;subst hj;exact(hb _ (by omega) (by omega)).trans h2.c0
  ·simp at hj;subst hj;exact(hb _ (by omega) (by omega)).trans h2.c1
  ·simp at hj;subst hj;exact(hb _ (by omega) (by omega)).trans h2.c2
  ·simp at hj;subst hj;exact(hb _ (by omega) (by omega)).trans h2.c3
  ·simp at hj;subst hj;exact(hb _ (by omega) (by omega)).trans h2.c4
  ·simp at hj
 | .leaf h1 h2 h3 h4,hb,hF=>by
  rw[Pn.bJ];have o2:(∀ es v,IRep m (.isl es) v→v.oneCell'=true):=fun es v h=>by cases h<;>rfl
  exact .cons ((hb _ (by omega) (by omega)).trans h1.c0) (.lit _) rfl (.cons ((hb _ (by omega) (by omega)).trans h1.c1) (.lit _) rfl (.cons ((hb _ (by omega) (by omega)).trans h1.c2) (h2.mono hm) (o2 _ _ h2) (.cons ((hb _ (by omega) (by omega)).trans h1.c3) (h3.mono hm) (o2 _ _ h3) (.cons ((hb _ (by omega) (by omega)).trans h1.c4) (.isl0 _ _ h4) rfl (.nil _ _)))))
 | .node h1 h2 h3 h4 h5 h6,hb,hF=>by
  rename_i ks b' cap vE vC F;rw[Pn.bJ];have o2:(∀ es v,IRep m (.isl es) v→v.oneCell'=true):=fun es v h=>by cases h<;>rfl
  have he:=THL.Ad3 hm h6 (fun j _ _=>hF b' (by simp) j) (fun f hf=>hF f (by simp[hf]));have hl:(Pn.aB ks).length=ks.length:=by simp
  have hn:Pn.aB ks≠[]:=fun e=>by rw[e]at hl;simp at hl;exact h4 (zW.1 hl.symm)
  have hk:IRep m' (.isl (Pn.aB ks)) (.slice (some ⟨b',0,none⟩) ks.length cap):=by
   have:=IRep.isl (cap:=cap) hn he (by omega)
   rwa [hl]at this
  exact .cons ((hb _ (by omega) (by omega)).trans h1.c0) (.lit _) rfl (.cons ((hb _ (by omega) (by omega)).trans h1.c1) (.lit _) rfl (.cons ((hb _ (by omega) (by omega)).trans h1.c2) (h2.mono hm) (o2 _ _ h2) (.cons ((hb _ (by omega) (by omega)).trans h1.c3) (h3.mono hm) (o2 _ _ h3) (.cons ((hb _ (by omega) (by omega)).trans h1.c4) hk rfl (.nil _ _)))))
theorem THL.Ad3 {w:World} {m m':Mem} (hm:MLe m m') {xs:List Pn} {b o:Nat} {F:List Nat} {H:PL}:THL w m xs b o F H→(∀ j,o≤j→j<o+5*xs.length→m' b j=w.cell? ⟨b,j,none⟩)→(∀ f∈F,∀ j,m' f j=w.cell? ⟨f,j,none⟩)→IElems m' b o 5 (Pn.aB xs)
 | .nil b o,hb,hF=>by simp only[Pn.aB];exact .nil b o 5
 | .cons h1 h2,hb,hF=>by
  simp only[Pn.aB];exact .cons (TH.AeE hm h1 (fun j l1 l2=>hb j l1 (by simp only[zM];omega)) (fun f hf=>hF f (by simp[hf]))) (Pn.eG _) (THL.Ad3 hm h2 (fun j l1 l2=>hb j (by omega) (by simp only[zM];omega)) (fun f hf=>hF f (by simp[hf])))
end
theorem THL.nth {w:World} {m:Mem} {b:Nat}:∀ {xs:List Pn} {o:Nat} {F:List Nat} {i:Nat} {x:Pn},THL w m xs b o F []→xs[i]?=some x →
 ∃ Fa Fi Fz,F=Fa++(Fi++Fz)∧TH w m x b (o+5*i) Fi []∧∀ {w':World} {m':Mem} {y:Pn} {G:List Nat} {HY:PL},MLe m m'→(∀ j,o≤j→j<o+5*xs.length→(j<o+5*i∨o+5*i+5≤j)→w'.cell? ⟨b,j,none⟩=w.cell? ⟨b,j,none⟩) →
   (∀ f∈Fa++Fz,∀ j,w'.cell? ⟨f,j,none⟩=w.cell? ⟨f,j,none⟩)→TH w' m' y b (o+5*i) G HY→THL w' m' (xs.set i y) b o (Fa++(G++Fz)) HY:=by
 intro xs
 induction xs with
 | nil=>intro o F i x _ h;simp at h
 | cons a xs ih =>
  intro o F i x h hx;generalize hH:([]:PL)=H at h
  cases h with
  | @cons _ _ _ _ F1 F2 H1 H2 h1 h2 =>
   obtain⟨rfl,rfl⟩:=List.append_eq_nil_iff.1 hH.symm
   cases i with
   | zero =>
    simp at hx;subst hx;refine⟨[],F1,F2,by simp,by simpa using h1,fun {w' m' y G HY} hm hw hF hy=>?_⟩;have k2:=THL.frame hm (fun j l1 l2=>hw j (by omega) (by simp only[zM];omega) (.inr (by omega))) (fun f hf=>hF f (by simp[hf])) h2;have:=THL.cons hy k2;simpa using this
   | succ i =>
    obtain⟨Fa,Fi,Fz,e,h3,h4⟩:=ih h2 (by simpa using hx);subst e;refine⟨F1++Fa,Fi,Fz,by simp,by rw[show o+5*(i+1)=o+5+5*i by omega];exact h3,fun {w' m' y G HY} hm hw hF hy=>?_⟩;rw[show o+5*(i+1)=o+5+5*i by omega]at hy;have k1:=TH.frame hm (fun j l1 l2=>hw j l1 (by simp only[zM];omega) (.inl (by omega))) (fun f hf=>hF f (by simp[hf])) h1;have k2:=h4 hm (fun j l1 l2 l3=>hw j (by omega) (by simp only[zM];omega) (by omega)) (fun f hf=>hF f (by rcases zT.1 hf with h|h<;>simp[h])) hy;have:=THL.cons k1 k2;simpa using this
theorem AOQ {path:List Int} {x y z:Pn} {i:Nat} (h:Pn.at path x=some y):Pn.put (path++[(i:Int)]) x z=Pn.put path x (.mk y.kind y.table y.exprs y.cols (y.kids.set i z)):=by
 induction path generalizing x with
 | nil =>
  simp only[Pn.at,Option.some.injEq]at h;subst h
  cases hk:x.kids[i]? with
  | none =>
   have:x.kids.length≤i:=by simpa using hk
   simp[Pn.put,hk,List.set_eq_of_length_le this,Pn.eta]
  | some k=>simp[Pn.put,hk]
 | cons j path ih =>
  simp only[Pn.at]at h;split at h
  ·rename_i h0
   cases hk:x.kids[j.toNat]? with
   | none=>rw[hk]at h;cases h
   | some k =>
    rw[hk]at h;have:=ih h;simp[Pn.put,hk,this]
  ·cases h
structure AtP (w:World) (m:Mem) (x:Pn) (b o:Nat) (F:List Nat) (path:List Int) (y:Pn) (bq oq:Nat) (Fa Fy Fz:List Nat):Prop where
 eq:F=Fa++(Fy++Fz)
 inb:bq∈b::Fa
 nr:b ∉ F
 nd:F.Nodup
 is:Pn.at path x=some y
 th:TH w m y bq oq Fy []
 fill:∀ {w':World} {m':Mem} {y':Pn} {G:List Nat} {HY:PL},MLe m m'→(∀ f∈b::(Fa++Fz),∀ j,(f≠bq∨j<oq∨oq+5≤j)→w'.cell? ⟨f,j,none⟩=w.cell? ⟨f,j,none⟩)→TH w' m' y' bq oq G HY→TH w' m' (Pn.put path x y') b o (Fa++(G++Fz)) HY
theorem AtP.start {w:World} {m:Mem} {x:Pn} {b o:Nat} {F:List Nat} (h:TH w m x b o F []) (hr:b ∉ F) (hn:F.Nodup):AtP w m x b o F [] x b o [] F [] :=
 ⟨by simp,by simp,hr,hn,rfl,h,fun _ _ hy=>by simpa [Pn.put]using hy⟩
theorem AtP.mem {w:World} {m:Mem} {x:Pn} {b o:Nat} {F:List Nat} {path:List Int} {y:Pn} {bq oq:Nat} {Fa Fy Fz:List Nat} (h:AtP w m x b o F path y bq oq Fa Fy Fz):bq∈b::F:=by
 rw[h.eq]
 rcases zP.1 h.inb with e|e
 ·simp[e]
 ·simp[e]
theorem AtP.frame {w w':World} {m m':Mem} {x:Pn} {b o:Nat} {F:List Nat} {path:List Int} {y:Pn} {bq oq:Nat} {Fa Fy Fz:List Nat} (h:AtP w m x b o F path y bq oq Fa Fy Fz) (hm:MLe m m') (hF:∀ f∈b::F,∀ j,w'.cell? ⟨f,j,none⟩=w.cell? ⟨f,j,none⟩):AtP w' m' x b o F path y bq oq Fa Fy Fz:=by
 refine⟨h.eq,h.inb,h.nr,h.nd,h.is,h.th.frame hm (fun j _ _=>hF bq h.mem j) (fun f hf j=>hF f (by rw[h.eq];simp[hf]) j),fun hm' hw hy=>h.fill (hm.trans hm') (fun f hf j hj=>?_) hy⟩;rw[hw f hf j hj];refine hF f ?_ j;rw[h.eq]
 rcases zP.1 hf with e|e
 ·simp[e]
 ·rcases zT.1 e with e|e<;>simp[e]
theorem AtP.step {w:World} {m:Mem} {x:Pn} {b o:Nat} {F:List Nat} {path:List Int} {y z:Pn} {bq oq:Nat} {Fa Fy Fz:List Nat} {i:Nat} (h:AtP w m x b o F path y bq oq Fa Fy Fz) (hz:y.kids[i]?=some z) :
 ∃ b' cap,w.cell? ⟨bq,oq+4,none⟩=some (.slice (some ⟨b',0,none⟩) y.kids.length cap)∧y.kids.length≤cap∧∃ Fa' Fy' Fz',AtP w m x b o F (path++[(i:Int)]) z b' (5*i) Fa' Fy' Fz':=by
 have ht:=h.th;have hFq:=h.eq;generalize hH:([]:PL)=H at ht
 cases ht with
 | fresh=>cases hH
 | leaf h1 h2 h3 h4=>simp[Pn.kids]at hz
 | @node k t es cs ks _ _ b' cap vE vC F1 _ h1 h2 h3 h4 h5 h6 =>
  subst hH;have hz:ks[i]?=some z:=hz;obtain⟨Ga,Gi,Gz,e,t1,t2⟩:=h6.nth hz;subst e;have hnd:=h.nd;rw[hFq]at hnd;have hnr:=h.nr;rw[hFq]at hnr
  have hne:bq≠b':=by
   intro e
   rcases zP.1 h.inb with e'|e'
   ·exact hnr (by rw[← e',e];simp)
   ·rw[yS]at hnd;exact hnd.2.2 _ e' b' (by simp) e
  refine⟨b',cap,h1.c4,h5,Fa++(b'::Ga),Gi,Gz++Fz,by rw[hFq];simp,by simp,h.nr,h.nd,?_,by simpa using t1,fun {w' m' y' G HY} hm hw hy=>?_⟩
  ·rw[wI path x _ [(i:Int)] h.is];simp[Pn.at,Pn.kids,hz]
  ·rw[AOQ h.is]
   have hK:THL w' m' (ks.set i y') b' 0 (Ga++(G++Gz)) HY:=by
    refine t2 hm (fun j _ _ hj=>hw b' (by simp) j (.inr (by omega))) (fun f hf j=>hw f (by rcases zT.1 hf with e|e<;>simp[e]) j (.inl ?_)) (by simpa using hy);intro e;subst e;have hb:=(yS.1 hnd).2.1;simp only[yR,yV]at hb;exact hb.1 (by rcases zT.1 hf with e|e<;>simp[e])
   have hlen:(ks.set i y').length=ks.length:=by simp
   have hn:ks.set i y'≠[]:=fun e=>by rw[e]at hlen;simp at hlen;exact h4 (zW.1 hlen.symm)
   have hbq:bq∈b::((Fa++b'::Ga)++(Gz++Fz)):=by
    rcases zP.1 h.inb with e'|e'
    ·simp[e']
    ·simp[e']
   have hA:=h1.frame (w':=w') (fun j l1 l2=>hw bq hbq j (.inl hne));rw[← hlen]at hA
   have hY:TH w' m' (.mk k t es cs (ks.set i y')) bq oq (b'::(Ga++(G++Gz))) HY :=
    .node hA (h2.mono hm) (h3.mono hm) hn (by rw[hlen];exact h5) hK
   have:=h.fill hm (fun f hf j hj=>hw f (by
    rcases zP.1 hf with e|e
    ·simp[e]
    ·rcases zT.1 e with e|e<;>simp[e]) j (by
    by_cases e:f=b'
    ·subst e;exfalso
     rcases zP.1 hf with e|e
     ·exact hnr (by rw[← e];simp)
     ·rcases zT.1 e with e|e
      ·exact(yS.1 hnd).2.2 _ e f (by simp) rfl
      ·have hb:=(yS.1 hnd).2.1;simp only[yR,yV]at hb;exact hb.1 (by simp[e])
    ·exact .inl e)) hY
   simpa [Pn.kind,Pn.table,Pn.exprs,Pn.cols,Pn.kids]using this
def mM:Blk→Prop
 | .box cs=>∀ c∈cs,(∃ v,c=.i v)∨c=.nils
 | .loop _ _ _=>False
 | _=>True
theorem RepC.tree {m:Mem} {φ φ':Pl}:∀ {cs:List AV} {vs:List Value},(∀ c∈cs,(∃ v,c=.i v)∨c=.nils)→RepC m φ cs vs→RepC m φ' cs vs
 | [],_,_, .nil=>.nil
 | c::cs,_,h, .cons a o r=>by
  have hr:=RepC.tree (m:=m) (φ':=φ') (fun d hd=>h d (by simp[hd])) r
  rcases h c (by simp)with ⟨v,rfl⟩|rfl
  ·cases a with|i a=>exact .cons (.i a) o hr
  ·cases a;exact .cons .nils o hr
theorem BlkOk.tree {w:World} {m:Mem} {φ φ':Pl} {b:Nat} {n:Ext} {blk:Blk} (hl:mM blk) (h:BlkOk w m φ b n blk):BlkOk w m φ' b n blk:=by
 cases h with
 | box h1 h2 h3 h4=>exact .box h1 h2 (h3.tree hl) h4
 | arr h1 h2 h3 h4 h5 h6 h7 h8 h9=>exact .arr h1 h2 h3 h4 h5 h6 h7 h8 h9
 | frz h1 h2=>exact .frz h1 h2
 | fbox h1=>exact .fbox h1
 | tre h1 h2 h3 h4 h5 h6 h7 h8 h9 h10=>exact .tre h1 h2 h3 h4 h5 h6 h7 h8 h9 h10
 | loop=>cases hl
theorem Inv.AdH {w:World} {m:Mem} {φ:Pl} {st st':Store} (hi:Inv w m φ st) (hst:∀ i blk,st' i=some blk→st i=some blk∧mM blk):Inv w m (CK st' φ) st':=by
 refine⟨hi.mem,?_,?_,fun i b n f e ho=>hi.low i b n f (eZ e).1 ho⟩
 ·intro i blk hb;obtain⟨h1,h2⟩:=hst i blk hb;obtain⟨b,n,q1,q2,q3⟩:=hi.live i blk h1;exact⟨b,n,by rw[rF (by rw[hb];simp)];exact q1,q2,q3.tree h2⟩
 ·intro i j b bx n n2 b1 b2 f h1 h2 h3 h4 o1 o2;exact hi.inj i j b bx n n2 b1 b2 f (hst i b1 h1).1 (hst j b2 h2).1 (eZ h3).1 (eZ h4).1 o1 o2
theorem EI {w:World} {m:Mem} {φ:Pl} {st st':Store} {id b f:Nat} {n:Ext} {blk:Blk} (hi:Inv w m φ st) (hst:∀ i blk,st' i=some blk→st i=some blk) (hid:st id=some blk) (hn:st' id=none) (e:φ id=some (b,n)) (ho:n.own f):mD (CK st' φ) f:=by
 intro i r n' e' ho';obtain⟨h1,h2⟩:=eZ e'
 cases hb:st' i with
 | none=>exact h2 hb
 | some blk' =>
  have:=hi.inj i id r b n' n blk' blk f (hst i blk' hb) hid h1 e ho' ho;rw[this,hn]at hb;cases hb
def qV (st':Store):AV→Prop
 | .i _=>True
 | .own id _=>st' id≠none
 | .osl id _ _ _=>st' id≠none
 | .nils=>True
 | _=>False
theorem qV.rep {m:Mem} {φ φ':Pl} {st':Store} {v:AV} {x:Value} (h:qV st' v) (he:∀ i,st' i≠none→φ' i=φ i) (hr:Rep m φ v x):Rep m φ' v x:=by
 unfold qV at h;split at h
 ·cases hr with|i k=>exact .i k
 ·cases hr with
  | own e=>exact .own (by rw[he _ h];exact e)
 ·cases hr with
  | osl e a b c d=>exact .osl (by rw[he _ h];exact e) a b c d
 ·cases hr;exact .nils
 ·cases h
theorem Inv.AZZ {w w':World} {m m':Mem} {φ:Pl} {st:Store} (hi:Inv w m φ st) (ha:Adv w m (fun _=>none) w' m' (fun _=>none)) (hm:oI w' m'):Inv w' m' φ st∧Adv w m φ w' m' φ:=by
 have hb:∀ f,f<w.heap.size→w'.heap[f]?=w.heap[f]?:=fun f hf=>ha.block f hf fun _ _ _ e=>by cases e
 have hn:∀ f,f<w.heap.size→∀ o,m' f o=m f o:=fun f hf=>ha.mnew f hf fun _ _ _ e=>by cases e
 refine⟨⟨hm,fun id blk e=>?_,hi.inj,fun id b n f e ho=>yU (hi.low id b n f e ho) ha.size⟩,⟨ha.size,ha.os,ha.tape,ha.output,fun b hb' _=>hb b hb',ha.mle,fun b hb' _=>hn b hb', .refl _,fun _ _ _ _ e ho=>.inr (mD.not e ho)⟩⟩;obtain⟨b,n,k1,k2,k3⟩:=hi.live id blk e;exact⟨b,n,k1,⟨k2.1,fun f hf=>yU (k2.2 f hf) ha.size⟩,k3.mono k2.1 (fun f hf=>hb f (k2.2 f hf)) ha.mle (.refl _) fun f hf=>hn f (k2.2 f hf)⟩
structure CPY (wi:World) (p:Pn) (F:List Nat) (v0 v1 v2 v3 v4:Value) (w:World) (m:Mem) (φ:Pl):Prop where
 th:∀ {w':World} {m':Mem} {b o:Nat},MLe m m'→(∀ f∈F,∀ j,w'.cell? ⟨f,j,none⟩=w.cell? ⟨f,j,none⟩)→At5 w' b o v0 v1 v2 v3 v4→TH w' m' p b o F []
 cells:∀ {m':Mem},MLe m m'→(∀ f∈F,∀ j,m' f j=w.cell? ⟨f,j,none⟩)→ICells m' p.cells [v0,v1,v2,v3,v4]
 nd:F.Nodup
 all:∀ f∈F,wi.heap.size≤f∧f<w.heap.size∧mD φ f∧(∀ o,m f o=none)∧∃ (vs:List Value) (T:TypeId),w.heap[f]?=some (.cells vs.toArray T (0,0))∧∀ v∈vs,v.oneCell'=true
theorem CPY.pX (wi:World) (p:Pn) (F:List Nat) (v0 v1 v2 v3 v4:Value):AHF (CPY wi p F v0 v1 v2 v3 v4):=by
 intro w m φ w' m' φ' ha h;have hs:∀ f∈F,w'.heap[f]?=w.heap[f]?:=fun f hf=>ha.block f (h.all f hf).2.1 (h.all f hf).2.2.1
 refine⟨fun hm hw h5=>h.th (ha.mle.trans hm) (fun f hf j=>(hw f hf j).trans (kZ (hs f hf) j)) h5,fun hm hw=>h.cells (ha.mle.trans hm) fun f hf j=>(hw f hf j).trans (kZ (hs f hf) j),h.nd,fun f hf=>?_⟩;obtain⟨k1,k2,k3,k4,vs,T,k5,k6⟩:=h.all f hf;exact⟨k1,yU k2 ha.size,ha.range k2 k3,fun o=>(ha.mnew f k2 k3 o).trans (k4 o),vs,T,by rw[hs f hf];exact k5,k6⟩
theorem TH.cells {w:World} {m:Mem} {x:Pn} {b o:Nat} {F:List Nat} (h:TH w m x b o F []):∃ v0 v1 v2 v3 v4,At5 w b o v0 v1 v2 v3 v4∧(∀ v∈[v0,v1,v2,v3,v4],v.oneCell'=true)∧(∃ ao cap,v4=.slice ao x.kids.length cap)∧(∀ {w':World} {m':Mem} {b' o':Nat},MLe m m'→(∀ f∈F,∀ j,w'.cell? ⟨f,j,none⟩=w.cell? ⟨f,j,none⟩)→At5 w' b' o' v0 v1 v2 v3 v4→TH w' m' x b' o' F []) ∧
 ∀ {m':Mem},MLe m m'→(∀ f∈F,∀ j,m' f j=w.cell? ⟨f,j,none⟩)→ICells m' x.cells [v0,v1,v2,v3,v4]:=by
 have o2:∀ {m:Mem} es v,IRep m (.isl es) v→v.oneCell'=true:=fun es v h=>by cases h<;>rfl
 generalize hH:([]:PL)=H at h
 cases h with
 | fresh=>cases hH
 | leaf h1 h2 h3 h4 =>
  refine⟨_,_,_,_,_,h1,(by intro v hv;simp only[zP,zD8,or_false]at hv;rcases hv with rfl|rfl|rfl|rfl|rfl<;>first|rfl|exact o2 _ _ h2|exact o2 _ _ h3),⟨_,_,rfl⟩,fun hm _ h5=>.leaf h5 (h2.mono hm) (h3.mono hm) h4,fun hm _=>?_⟩;rw[Pn.bJ];exact .cons (.lit _) rfl (.cons (.lit _) rfl (.cons (h2.mono hm) (o2 _ _ h2) (.cons (h3.mono hm) (o2 _ _ h3) (.cons (.isl0 _ _ h4) rfl .nil))))
 | @node k t es cs ks _ _ b' cap vE vC F1 _ h1 h2 h3 h4 h5 h6 =>
  subst hH;refine⟨_,_,_,_,_,h1,(by intro v hv;simp only[zP,zD8,or_false]at hv;rcases hv with rfl|rfl|rfl|rfl|rfl<;>first|rfl|exact o2 _ _ h2|exact o2 _ _ h3),⟨_,_,rfl⟩,fun hm hF k5=>.node k5 (h2.mono hm) (h3.mono hm) h4 h5 (h6.frame hm (fun j _ _=>hF _ (by simp) j) fun f hf=>hF f (by simp[hf])),fun hm hF=>?_⟩;rw[Pn.bJ];have he:=THL.Ad3 hm h6 (fun j _ _=>hF b' (by simp) j) (fun f hf=>hF f (by simp[hf]));have hl:(Pn.aB ks).length=ks.length:=by simp
  have hn:Pn.aB ks≠[]:=fun e=>by rw[e]at hl;simp at hl;exact h4 (zW.1 hl.symm)
  have hk:=IRep.isl (cap:=cap) hn he (by omega);rw[hl]at hk;exact .cons (.lit _) rfl (.cons (.lit _) rfl (.cons (h2.mono hm) (o2 _ _ h2) (.cons (h3.mono hm) (o2 _ _ h3) (.cons hk rfl .nil))))
structure RAT (wi:World) (root:Nat) (p:Pn) (F:List Nat) (path:List Int) (y:Pn) (bq oq:Nat) (Fa Fy Fz:List Nat) (w:World) (m:Mem) (φ:Pl):Prop where
 raw:RAW wi root p F [] w m φ
 pos:AtP w m p root 0 F path y bq oq Fa Fy Fz
theorem RAT.pX (wi:World) (root:Nat) (p:Pn) (F:List Nat) (path:List Int) (y:Pn) (bq oq:Nat) (Fa Fy Fz:List Nat):AHF (RAT wi root p F path y bq oq Fa Fy Fz):=by
 intro w m φ w' m' φ' ha h;exact⟨RAW.pX wi root p F [] w m φ w' m' φ' ha h.raw,h.pos.frame ha.mle fun f hf j=>kZ (ha.block f (h.raw.all f hf).2.1 (h.raw.all f hf).2.2.1) j⟩
structure ADK (wi:World) (root:Nat) (p:Pn) (F:List Nat) (path:List Int) (y:Pn) (bq oq:Nat) (Fa Fy Fz:List Nat) (k:Nat) (wa:World) (ma:Mem) (w:World) (m:Mem) (φ:Pl):Prop where
 pos:AtP wa ma p root 0 F path y bq oq Fa Fy Fz
 le:MLe ma m
 own:∃ n,φ k=some (bq,n)
 bqn:wi.heap.size≤bq
 oth:∀ f∈root::F,f≠bq→wi.heap.size≤f∧f<w.heap.size∧mD φ f∧(∀ o,m f o=none)∧w.heap[f]?=wa.heap[f]?∧∃ (vs:List Value) (T:TypeId),wa.heap[f]?=some (.cells vs.toArray T (0,0))∧∀ v∈vs,v.oneCell'=true
theorem ADK.pX (wi:World) (root:Nat) (p:Pn) (F:List Nat) (path:List Int) (y:Pn) (bq oq:Nat) (Fa Fy Fz:List Nat) (k:Nat) (wa:World) (ma:Mem):AHF (ADK wi root p F path y bq oq Fa Fy Fz k wa ma):=by
 intro w m φ w' m' φ' ha h;refine⟨h.pos,h.le.trans ha.mle,?_,h.bqn,fun f hf hne=>?_⟩
 ·obtain⟨n,e⟩:=h.own;obtain⟨n',e',_⟩:=ha.ple _ _ _ e;exact⟨n',e'⟩
 ·obtain⟨k1,k2,k3,k4,k5,k6⟩:=h.oth f hf hne;exact⟨k1,yU k2 ha.size,ha.range k2 k3,fun o=>(ha.mnew f k2 k3 o).trans (k4 o),(ha.block f k2 k3).trans k5,k6⟩
def UG (wi:World) (mi:Mem) (p:Pn) (e:Ending) (w:World):Prop :=
 ∃ v0 v1 v2 v3 v4 F m,e=.returned (.agg #[v0,v1,v2,v3,v4])∧(∀ v∈[v0,v1,v2,v3,v4],v.oneCell'=true)∧oI w m∧Adv wi mi (fun _=>none) w m (fun _=>none)∧CPY wi p F v0 v1 v2 v3 v4 w m (fun _=>none)
theorem UG.tree {wi:World} {mi:Mem} {p:Pn} {e:Ending} {w:World} (h:UG wi mi p e w):bY wi mi (fun _=>none) (.i (.agg p.cells)) [] e w:=by
 classical
 obtain⟨v0,v1,v2,v3,v4,F,m,rfl,hone,hm,ha,hc⟩:=h
 let m':Mem:=fun f o=>if f∈F then w.cell? ⟨f,o,none⟩else m f o
 have hin:∀ f,f∈F→∀ o,m' f o=w.cell? ⟨f,o,none⟩:=fun f hf o=>by show(if f∈F then _ else _)=_;rw[if_pos hf]
 have hout:∀ f,f ∉ F→∀ o,m' f o=m f o:=fun f hf o=>by show(if f∈F then _ else _)=_;rw[if_neg hf]
 have hle:MLe m m':=fun f o v e=>by
  by_cases hf:f∈F
  ·rw[(hc.all f hf).2.2.2.1 o]at e;cases e
  ·rw[hout f hf];exact e
 have hmem:oI w m':=fun f o v e=>by
  by_cases hf:f∈F
  ·rw[hin f hf]at e;exact e
  ·rw[hout f hf]at e;exact hm f o v e
 refine⟨_,m',fun _=>none,rfl, .i (.agg (hc.cells hle hin)),⟨hmem,fun id blk e=>by simp[bK]at e,fun id id' b b' n n' blk blk' f e=>by simp[bK]at e,fun _ _ _ _ e=>by cases e⟩,⟨ha.size,ha.os,ha.tape,ha.output,ha.block,ha.mle.trans hle,fun f hf hfr o=>?_, .refl _,fun _ _ _ _ e=>by cases e⟩,fun id h=>absurd rfl h⟩;rw[hout f (fun hf'=>by have:=(hc.all f hf').1;omega)];exact ha.mnew f hf hfr o
section
variable {C:Ctx} {wi:World} {mi:Mem} {nt:Nat}
theorem GR.ops (hS:SoundOk C) {ops:Array Oper} {Q:Exit→Act→World→Prop} {base:Nat} {js:List Nat} {R:World→Mem→Pl→Prop} (hR:AHF R) (hs:ops.all (nC nt)=true) {os:List Oper} {i:Nat} {R0 R1:RS} {a:Act} {w:World} (hl:∀ j,j<os.length→os[j]?=ops[i+j]?) (hx:eD C (aH C) ops.toList false base os i R0=some R1)
 (h:GR wi mi nt (J8 base fun j=>j<i) R R0.env R0.st a w) (hQ:∀ a' w',GR wi mi nt (J8 base fun j=>j<i+os.length) R R1.env R1.st a' w'→wpOpsIn (FR none) 0 C.P ops Q js a' w'):wpOpsIn (FR none) 0 C.P ops Q (List.range' i os.length++js) a w:=by
 obtain⟨⟨m,φ,h1,h2,h3,h4,h5⟩,h6,h7⟩:=h;refine nY hS.ctx (bH hS) (fun o ho=>xD.1 hs o ho) os i R0 R1 a w hl hx ⟨⟨m,φ,h1,h2, .refl _ _ _,h4, .nil _ _ _⟩,h6,h7⟩ fun a' w' k=>hQ a' w' ?_
 obtain⟨⟨m',φ',k1,k2,k3,k4,_⟩,k5,k6⟩:=k;exact⟨⟨m',φ',k1,k2,h3.trans k3,k4,hR _ _ _ _ _ _ k3 h5⟩,k5,k6⟩
theorem GR.AN3 (hS:SoundOk C) {ops:Array Oper} {Q:Exit→Act→World→Prop} {base:Nat} {js:List Nat} {R:World→Mem→Pl→Prop} (hR:AHF R) (i k:Nat) (hk:decide (i+k≤ops.toList.length)=true) (hs:ops.all (nC nt)=true) {R0 R1:RS} {a:Act} {w:World} (hx:eD C (aH C) ops.toList false base ((ops.toList.drop i).take k) i R0=some R1)
 (h:GR wi mi nt (J8 base fun j=>j<i) R R0.env R0.st a w) (hQ:∀ a' w',GR wi mi nt (J8 base fun j=>j<i+k) R R1.env R1.st a' w'→wpOpsIn (FR none) 0 C.P ops Q js a' w'):wpOpsIn (FR none) 0 C.P ops Q (List.range' i k++js) a w:=by
 have hk:=zO hk;have hl:((ops.toList.drop i).take k).length=k:=by rw[yK,zC4];omega
 have:=GR.ops (js:=js) hS hR hs (os:=(ops.toList.drop i).take k) (i:=i) (fun j hj=>by
  rw[hl]at hj
  rw[zD,if_pos hj,yM,zB4]) hx h (by rw[hl];exact hQ)
 rwa [hl]at this
theorem OJ {P:Program} {ops:Array Oper} {Q:Exit→Act→World→Prop} {K:Act→World→Prop} {i d:Nat} {g:FuncId} {args:Array Operand} {ts:Array TypeId} {a:Act} {w:World} {fn:Func} {o:Oper} (ho:ops[i]?=some o) (hop:o.op=.call ⟨.value (.func g),args,ts⟩) (hd:o.dst=some d) (hg:o.guard=none)
 (hf:P.funcs[g]?=some fn) (hn:fn.name≠ "runtime.NumGoroutine") (hb:fn.body.isSome=true) {vs:List Value} (hargs:args.toList.map a.eval=vs) (hc:Calls P g vs.toArray w fun e w'=>∃ y,e=.returned y∧K (a.put (some d) y) w'):wpOpIn (FR none) 0 P ops Q i K a w:=by
 obtain⟨dst,op,ty,pos,after,guard⟩:=o;simp only at hop hd hg;subst hop hd hg;have hmap:args.map a.eval=vs.toArray:=by apply Array.ext';simp[hargs]
 rw[← hmap]at hc;unfold wpOpIn;rw[ho];simp only[Region.wanted,if_true];refine⟨fun _ _=>trivial,?_⟩;rw[Oper.semAt_eq _ _ _ (fun c e=>by cases e)];have hbody:fn.body≠none:=by intro h;rw[h]at hb;cases hb
 have hrun:(execOp a.eval ⟨some d, .call ⟨.value (.func g),args,ts⟩,ty,pos,after,none⟩).run P w=.ok (.enter g (args.map a.eval)) w:=by
  unfold execOp;simp[resolve,Deferred.ofValue,Act.eval,invoke,callFunc,hf,hn,hbody]
 rw[hrun];rw[Oper.uponIn_enter];refine⟨fun h=>(by cases h),ABH (hc.mono ?_)⟩;rintro e w' ⟨y,rfl,k⟩;exact k
theorem GR.put {ok:Nat→Prop} {R:World→Mem→Pl→Prop} {env:Nat→AV} {st:Store} {a:Act} {w:World} {d:Nat} {x:AV} {v:Value} (hd:d<nt) (h:GR wi mi nt ok R env st a w) (hr:∀ m φ,R w m φ→Rep m φ x v):GR wi mi nt ok R (upd env d x) st (a.put (some d) v) w:=by
 obtain⟨⟨m,φ,hi,henv,hadv,hok,hK⟩,hsz,hdf⟩:=h;exact⟨⟨m,φ,hi,o6 (dst:=some d) henv hsz (by simpa [OB]using hd) (hr m φ hK),hadv,hok,hK⟩,by rw[nZ];exact hsz,by rw[iI];exact hdf⟩
theorem GR.AfF {ok:Nat→Prop} {wx:World} {p:Pn} {F:List Nat} {v0 v1 v2 v3 v4:Value} {env:Nat→AV} {st st':Store} {a:Act} {w:World} {u id:Nat} (h:GR wi mi nt ok (CPY wx p F v0 v1 v2 v3 v4) env st a w) (hwx:wi.heap.size≤wx.heap.size) (hu:env u=.own id 0) (hbox:st id=some (.box (dX [v0,v1,v2,v3,v4])))
 (hst:∀ i blk,st' i=some blk→i≠id∧st i=some blk∧mM blk) :
 ∃ b3,∀ env',(∀ t,env' t=.junk∨(t=u∧env' t=.i (.lit (.pointer (some ⟨b3,0,none⟩))))∨(env' t=env t∧qV st' (env t)))→GR wi mi nt (fun i=>st' i≠none) (RAW wi b3 p F []) env' st' a w:=by
 obtain⟨⟨m,φ,hi,henv,hadv,hk,hc⟩,h6,h7⟩:=h;have hr:=henv u;rw[hu]at hr;generalize hy:a.tmps.getD u undef=yy at hr
 cases hr with
 | @own _ _ b3 n3 e3 =>
  obtain⟨hb,hok⟩:=eO hi e3 hbox;have hst2:∀ i blk,st' i=some blk→st i=some blk∧mM blk:=fun i blk hb=>(hst i blk hb).2
  cases hok with
  | @box T _ vs hh hl hrc hm =>
   obtain rfl:=(tL hrc).symm;have hnF:b3 ∉ F:=fun hf=>(hc.all b3 hf).2.2.1 id b3 n3 e3 hb.1
   refine⟨b3,fun env' he=>⟨⟨m,CK st' φ,hi.AdH hst2,fun t=>?_,hadv.cut,fun i hi'=>?_,?_⟩,h6,h7⟩⟩
   ·rcases he t with e|⟨rfl,e⟩|⟨e,e'⟩
    ·rw[e];exact .junk _
    ·rw[e,hy];exact .i (.lit _)
    ·rw[e];exact e'.rep (fun i hi'=>rF hi') (henv t)
   ·cases hx:CK st' φ i with
    | none=>exact absurd hx hi'
    | some q=>exact(eZ hx).2
   ·refine⟨hc.th (.refl _) (fun _ _ _=>rfl) ⟨by rw[bU hh];rfl,by rw[bU hh];rfl,by rw[bU hh];rfl,by rw[bU hh];rfl,by rw[bU hh];rfl⟩,hnF,hc.nd,fun f hf=>?_⟩
    rcases zP.1 hf with rfl|hf
    ·refine⟨LF hadv e3 hb.1,hb.2 _ hb.1,?_,hm,_,T,hh,hrc.one⟩;refine EI hi (fun i blk h=>(hst2 i blk h).1) hbox ?_ e3 hb.1
     cases hx:st' id with
     | none=>rfl
     | some blk=>exact absurd rfl (hst id blk hx).1
    ·obtain⟨q1,q2,q3,q4,q5⟩:=hc.all f hf;exact⟨Nat.le_trans hwx q1,q2,q3.cut,q4,q5⟩
theorem GR.AaY {ok:Nat→Prop} {root:Nat} {p:Pn} {F:List Nat} {env:Nat→AV} {st:Store} {a:Act} {w:World} {u k:Nat} (h:GR wi mi nt ok (RAW wi root p F []) env st a w) (hu:env u=.i (.lit (.pointer (some ⟨root,0,none⟩)))) (hk:st k=none) (hok:¬ ok k) :
 ∃ v0 v1 v2 v3 v4 post,(∀ v∈[v0,v1,v2,v3,v4],v.oneCell'=true)∧∀ env',(∀ t,env' t=.junk∨(t=u∧env' t=.own k 0)∨env' t=env t) →
   GR wi mi nt (fun id=>ok id∨id=k) (CPY wi p F v0 v1 v2 v3 v4) env' (upd st k (some (.box (dX [v0,v1,v2,v3,v4]++dX post)))) a w:=by
 obtain⟨⟨m,φ,hi,henv,hadv,hid,hr⟩,h6,h7⟩:=h;obtain⟨k1,k2,k3,k4,us,T,k5,k6⟩:=hr.all root (by simp);obtain⟨v0,v1,v2,v3,v4,h5,_,_,hth,hce⟩:=hr.th.cells;have gc:∀ {o:Nat} {v:Value},w.cell? ⟨root,o,none⟩=some v→us[o]?=some v:=fun h=>by rwa [bU k5]at h
 have hrow:=RO (gc h5.c0) (gc h5.c1) (gc h5.c2) (gc h5.c3) (gc h5.c4);simp only[zF0,xW,zB]at hrow
 have hφk:φ k=none:=by
  cases e:φ k with
  | none=>rfl
  | some q=>exact absurd (hid k (by rw[e];simp)) hok
 refine⟨v0,v1,v2,v3,v4,us.drop 5,fun v hv=>k6 v (by rw[hrow];exact yD _ hv),fun env' he=>?_⟩
 have hrep:RepC m (upd φ k (some (root,one root us.length))) (dX [v0,v1,v2,v3,v4]++dX (us.drop 5)) us:=by
  have h1:=rZ (m:=m) (φ:=upd φ k (some (root,one root us.length))) (vs:=us) k6
  have:dX us=dX [v0,v1,v2,v3,v4]++dX (us.drop 5):=by
   conv=>lhs;rw[hrow]
   simp[dX]
  rwa [this]at h1
 have hp:PLe φ (upd φ k (some (root,one root us.length))):=fun i r n e=>by
  refine⟨n,?_,rfl,fun _ h=>h⟩;have:i≠k:=fun h=>by rw[h,hφk]at e;cases e
  simp[upd,this,e]
 refine⟨⟨m,upd φ k (some (root,one root us.length)),hi.adopt hk hφk k3 k4 k5 hrep,fun t=>?_,hadv.adopt k1,fun id hne=>?_,?_⟩,h6,h7⟩
 ·rcases he t with e|⟨rfl,e⟩|e
  ·rw[e];exact .junk _
  ·have:=henv t;rw[hu]at this;rw[e,this.dJ];exact .own (n:=one root us.length) (by simp[upd])
  ·rw[e];exact(henv t).mono (.refl _) hp
 ·by_cases e:id=k
  ·exact .inr e
  ·simp[upd,e]at hne;exact .inl (hid id hne)
 ·refine⟨hth,hce,hr.nd,fun f hf=>?_⟩;obtain⟨q1,q2,q3,q4,q5⟩:=hr.all f (by simp[hf]);refine⟨q1,q2,fun i r n e ho=>?_,q4,q5⟩;by_cases e2:i=k
  ·subst e2;simp[upd]at e;obtain⟨rfl,rfl⟩:=e;have:f=root:=ho;exact hr.nr (this ▸ hf)
  ·simp[upd,e2]at e;exact q3 i r n e ho
theorem GR.AaX {ok:Nat→Prop} {root:Nat} {p:Pn} {F:List Nat} {path:List Int} {y:Pn} {bq oq:Nat} {Fa Fy Fz:List Nat} {env:Nat→AV} {st st':Store} {a:Act} {w:World} {u k:Nat} (h:GR wi mi nt ok (RAT wi root p F path y bq oq Fa Fy Fz) env st a w) (hu:env u=.i (.lit (.pointer (some ⟨bq,oq,none⟩))))
 (hst:∀ i blk,st' i=some blk→st i=some blk∧mM blk) (hk:st' k=none) :
 ∃ pre row post ma,row.length=5∧pre.length=oq∧∀ env',(∀ t,env' t=.junk∨(t=u∧env' t=.own k oq)∨(env' t=env t∧qV st' (env t))) →
   GR wi mi nt (fun id=>st' id≠none∨id=k) (fun w' m' φ'=>ADK wi root p F path y bq oq Fa Fy Fz k w ma w' m' φ'∧(∃ T,w.heap[bq]?=some (.cells (pre++(row++post)).toArray T (0,0)))) env' (upd st' k (some (.box (mV pre (dX row) post)))) a w:=by
 obtain⟨⟨m,φ,hi,henv,hadv,hok,hr⟩,h6,h7⟩:=h;have hinF:=hr.pos.mem;obtain⟨k1,k2,k3,k4,us,T,k5,k6⟩:=hr.raw.all bq hinF;obtain⟨v0,v1,v2,v3,v4,h5,_,_,_,_⟩:=hr.pos.th.cells;have gc:∀ {o:Nat} {v:Value},w.cell? ⟨bq,o,none⟩=some v→us[o]?=some v:=fun h=>by rwa [bU k5]at h
 have hrow:=RO (gc h5.c0) (gc h5.c1) (gc h5.c2) (gc h5.c3) (gc h5.c4);have hl4:=(zY.1 (gc h5.c4)).1;have hi2:=hi.AdH hst;have hφk:CK st' φ k=none:=by unfold CK;rw[hk]
 have hfr:mD (CK st' φ) bq:=k3.cut;refine⟨us.take oq,[v0,v1,v2,v3,v4],us.drop (oq+5),m,rfl,by rw[yK];omega,fun env' he=>?_⟩
 have hrep:RepC m (upd (CK st' φ) k (some (bq,one bq us.length))) (mV (us.take oq) (dX [v0,v1,v2,v3,v4]) (us.drop (oq+5))) us:=by
  have h1:=rZ (m:=m) (φ:=upd (CK st' φ) k (some (bq,one bq us.length))) (vs:=us) k6
  have:dX us=mV (us.take oq) (dX [v0,v1,v2,v3,v4]) (us.drop (oq+5)):=by
   conv=>lhs;rw[hrow]
   simp[mV,dX]
  rwa [this]at h1
 have hp:PLe (CK st' φ) (upd (CK st' φ) k (some (bq,one bq us.length))):=fun i r n e=>by
  refine⟨n,?_,rfl,fun _ h=>h⟩;have:i≠k:=fun h=>by rw[h,hφk]at e;cases e
  simp[upd,this,e]
 refine⟨⟨m,upd (CK st' φ) k (some (bq,one bq us.length)),hi2.adopt hk hφk hfr k4 k5 hrep,fun t=>?_,(Adv.cut hadv).adopt k1,fun id hid=>?_,?_,?_⟩,h6,h7⟩
 ·rcases he t with e|⟨rfl,e⟩|⟨e,e'⟩
  ·rw[e];exact .junk _
  ·have:=henv t;rw[hu]at this;rw[e,this.dJ];exact .own (n:=one bq us.length) (by simp[upd])
  ·rw[e];exact(e'.rep (fun i hi'=>rF hi') (henv t)).mono (.refl _) hp
 ·by_cases e:id=k
  ·exact .inr e
  ·simp[upd,e]at hid
   cases hx:CK st' φ id with
   | none=>exact absurd hx hid
   | some q=>exact .inl (eZ hx).2
 ·refine⟨hr.pos, .refl _,⟨one bq us.length,by simp[upd]⟩,k1,fun f hf hne=>?_⟩;obtain⟨q1,q2,q3,q4,q5⟩:=hr.raw.all f hf;refine⟨q1,q2,fun i r n e ho=>?_,q4,rfl,q5⟩;by_cases e2:i=k
  ·subst e2;simp[upd]at e;obtain⟨rfl,rfl⟩:=e;exact hne ho
  ·simp[upd,e2]at e;exact q3 i r n (eZ e).1 ho
 ·exact⟨T,by rw[← hrow];exact k5⟩
theorem GR.Ad8 {ok:Nat→Prop} {root:Nat} {p q:Pn} {F:List Nat} {path:List Int} {y:Pn} {bq oq:Nat} {Fa Fy Fz:List Nat} {env env':Nat→AV} {st st':Store} {a:Act} {w wa:World} {ma:Mem} {k:Nat} {pre row post:List Value}
 (h:GR wi mi nt ok (fun w' m' φ'=>ADK wi root p F path y bq oq Fa Fy Fz k wa ma w' m' φ'∧(∃ T,wa.heap[bq]?=some (.cells (pre++(row++post)).toArray T (0,0)))) env st a w) (hrl:row.length=5) (hpl:pre.length=oq) (hbox:st k=some (.box (mV pre (nE q.cells) post)))
 (hst:∀ i blk,st' i=some blk→i≠k∧st i=some blk∧mM blk) (he:∀ t,env' t=.junk∨(env' t=env t∧qV st' (env t))) :
 GR wi mi nt (fun id=>st' id≠none) (RAW wi root (Pn.put path p q) (Fa++([]++Fz)) [((bq,oq),q)]) env' st' a w:=by
 obtain⟨⟨m,φ,hi,henv,hadv,hk,hr,T0,hrow0⟩,h6,h7⟩:=h;obtain⟨n2,e2⟩:=hr.own;obtain⟨hb2,hok2⟩:=eO hi e2 hbox;have hst2:∀ i blk,st' i=some blk→st i=some blk∧mM blk:=fun i blk hb=>(hst i blk hb).2
 cases hok2 with
 | @box T _ vs hh hl hrc hm =>
  have hone:=hrc.one;obtain⟨vp,x,rfl,r1,r2⟩:=p8 hrc;obtain⟨vr,vq,rfl,r3,r4⟩:=p8 r2;obtain rfl:=(tL r1).symm;obtain rfl:=(tL r4).symm;have hc:=KN r3;have hlen:=hc.length;rw[Pn.eG]at hlen
  obtain⟨v0,v1,v2,v3,v4,rfl⟩:∃ v0 v1 v2 v3 v4,vr=[v0,v1,v2,v3,v4]:=by
   match vr,hlen with
   | [v0,v1,v2,v3,v4],_=>exact⟨v0,v1,v2,v3,v4,rfl⟩
  have hcell:∀ f∈root::F,f≠bq→∀ j,w.cell? ⟨f,j,none⟩=wa.cell? ⟨f,j,none⟩:=fun f hf hne j=>kZ (hr.oth f hf hne).2.2.2.2.1 j
  have sub:∀ f∈root::(Fa++([]++Fz)),f∈root::F:=fun f hf=>by
   rw[hr.pos.eq]
   rcases zP.1 hf with e|e
   ·simp[e]
   ·rcases zT.1 e with e|e
    ·simp[e]
    ·simp at e;simp[e]
  have g:∀ (i:Nat),i<5→(pre++([v0,v1,v2,v3,v4]++post))[oq+i]?=[v0,v1,v2,v3,v4][i]?:=fun i hi=>by
   rw[zN (by omega),zL (by simp;omega),hpl,xM]
  have far:∀ (r:List Value),r.length=5→∀ j,oq+5≤j→(pre++(r++post))[j]?=post[j-oq-5]?:=fun r hr j hj=>by
   rw[zN (by omega),zN (by omega),hr,hpl]
  have hth:TH w m (Pn.put path p q) root 0 (Fa++([]++Fz)) [((bq,oq),q)]:=by
   refine hr.pos.fill hr.le (fun f hf j hj=>?_) (.fresh hc ⟨?_,?_,?_,?_,?_⟩)
   ·by_cases hne:f=bq
    ·subst hne;rw[bU hh,bU hrow0]
     rcases hj with hj|hj|hj
     ·exact absurd rfl hj
     ·rw[zL (by omega),zL (by omega)]
     ·rw[far _ rfl j hj,far _ hrl j hj]
    ·refine hcell f ?_ hne j;rw[hr.pos.eq]
     rcases zP.1 hf with e|e
     ·simp[e]
     ·rcases zT.1 e with e|e<;>simp[e]
   ·rw[bU hh];exact g 0 (by omega)
   ·rw[bU hh];exact g 1 (by omega)
   ·rw[bU hh];exact g 2 (by omega)
   ·rw[bU hh];exact g 3 (by omega)
   ·rw[bU hh];exact g 4 (by omega)
  refine⟨⟨m,CK st' φ,hi.AdH hst2,fun x=>?_,hadv.cut,fun id hid=>?_,?_⟩,h6,h7⟩
  ·rcases he x with e|⟨e,e'⟩
   ·rw[e];exact .junk _
   ·rw[e];exact e'.rep (fun i hi'=>rF hi') (henv x)
  ·cases hx:CK st' φ id with
   | none=>exact absurd hx hid
   | some q=>exact(eZ hx).2
  ·have hnd:=hr.pos.nd;rw[hr.pos.eq]at hnd;refine⟨hth,fun hm'=>?_,?_,fun f hf=>?_⟩
   ·have:=sub root (by simp);refine hr.pos.nr ?_;rw[hr.pos.eq]
    rcases zT.1 hm' with e|e
    ·simp[e]
    ·simp at e;simp[e]
   ·rw[xW];rw[yS]at hnd ⊢;refine⟨hnd.1,(yS.1 hnd.2.1).2.1,fun x hx z hz=>hnd.2.2 x hx z (by simp[hz])⟩
   ·have hf':=sub f hf;by_cases hne:f=bq
    ·subst hne;refine⟨hr.bqn,(yY.1 hh).1,?_,hm,_,T,hh,hone⟩;refine EI hi (fun i blk h=>(hst2 i blk h).1) hbox ?_ e2 hb2.1
     cases hx:st' k with
     | none=>rfl
     | some blk=>exact absurd rfl (hst k blk hx).1
    ·obtain⟨q1,q2,q3,q4,q5,vs',T',q6,q7⟩:=hr.oth f hf' hne;exact⟨q1,q2,q3.cut,q4,vs',T',by rw[q5];exact q6,q7⟩
theorem GR.AnI {ok:Nat→Prop} {root:Nat} {p:Pn} {F:List Nat} {H:PL} {env:Nat→AV} {st:Store} {a:Act} {w:World} (h:GR wi mi nt ok (RAW wi root p F H) env st a w) {u:Nat} (hu:env u=.i (.lit (.pointer (some ⟨root,0,none⟩)))) {env':Nat→AV} (he:∀ t,env' t=.junk∨(t=u∧env' t=.i (.iref p.cells))∨env' t=env t) :
 GR wi mi nt ok (fun _ _ _=>True) env' st a w:=by
 classical
 obtain⟨⟨m,φ,hi,henv,hadv,hk,hr⟩,h6,h7⟩:=h
 let m':Mem:=fun f o=>if f∈root::F then w.cell? ⟨f,o,none⟩else m f o
 have hin:∀ f,f∈root::F→∀ o,m' f o=w.cell? ⟨f,o,none⟩:=fun f hf o=>by show(if f∈root::F then _ else _)=_;rw[if_pos hf]
 have hout:∀ f,f ∉ root::F→∀ o,m' f o=m f o:=fun f hf o=>by show(if f∈root::F then _ else _)=_;rw[if_neg hf]
 have hle:MLe m m':=fun f o v e=>by
  by_cases hf:f∈root::F
  ·rw[(hr.all f hf).2.2.2.1 o]at e;cases e
  ·rw[hout f hf];exact e
 have hmem:oI w m':=fun f o v e=>by
  by_cases hf:f∈root::F
  ·rw[hin f hf]at e;exact e
  ·rw[hout f hf]at e;exact hi.mem f o v e
 have hat:IAt m' root 0 p.cells:=hr.th.AeE hle (fun j _ _=>hin root (by simp) j) (fun f hf j=>hin f (by simp[hf]) j);refine⟨⟨m',φ,⟨hmem,fun i blk hb=>?_,hi.inj,hi.low⟩,fun t=>?_,⟨hadv.size,hadv.os,hadv.tape,hadv.output,hadv.block,hadv.mle.trans hle,fun f hf hfr o=>?_,hadv.ple,hadv.pnew⟩,hk,trivial⟩,h6,h7⟩
 ·obtain⟨b,n,q1,q2,q3⟩:=hi.live i blk hb;exact⟨b,n,q1,q2,q3.mono q2.1 (fun _ _=>rfl) hle (.refl _) fun f hf o=>hout f (fun hf'=>(hr.all f hf').2.2.1 i b n q1 hf) o⟩
 ·rcases he t with e|⟨rfl,e⟩|e
  ·rw[e];exact .junk _
  ·have hx:=henv t;rw[hu]at hx;rw[e,hx.dJ];exact .i (.iref hat)
  ·rw[e];exact(henv t).mono hle (.refl _)
 ·rw[hout f (fun hf'=>by have:=(hr.all f hf').1;omega)];exact hadv.mnew f hf hfr o
end
theorem EH:∀ {l m:List Int},aG l=aG m→l=m:=by
 intro l
 induction l with
 | nil=>intro m h;cases m with
  | nil=>rfl
  | cons b m=>simp[aG]at h
 | cons a l ih=>intro m h;cases m with
  | nil=>simp[aG]at h
  | cons b m =>
   simp only[aG,List.cons.injEq]at h;rw[show a=b by simpa using h.1,ih h.2]
theorem Ex.AGV:∀ (a b:Ex),a.cells=b.cells→a=b:=by
 intro a
 induction a using Ex.ind with
 | h k c v ks ih =>
  intro b h;obtain⟨k',c',v',ks'⟩:=b
  have key:∀ {l m:List Ex},(∀ a∈l,∀ b,a.cells=b.cells→a=b)→Ex.aB l=Ex.aB m→l=m:=by
   intro l
   induction l with
   | nil=>intro m _ h;cases m with
    | nil=>rfl
    | cons b m=>simp[Ex.aB]at h
   | cons a l ihl=>intro m hi h;cases m with
    | nil=>simp[Ex.aB]at h
    | cons b m =>
     simp only[Ex.aB,List.cons.injEq]at h;rw[hi a (by simp) b h.1,ihl (fun x hx=>hi x (by simp[hx])) h.2]
  rw[Ex.aA,Ex.aA]at h;simp only[List.cons.injEq,IV.lit.injEq,Value.int.injEq,Value.bool.injEq,IV.isl.injEq,true_and,and_true]at h;obtain⟨h1,h2,h3,h4,h5⟩:=h;have h5:=key ih h5;obtain⟨b1,n1⟩:=v;obtain⟨b2,n2⟩:=v';simp only[Ex.kind,Ex.col,Ex.val,Ex.kids]at h1 h2 h3 h4 h5;subst h1 h2 h3 h4 h5;rfl
theorem Ex.ABG:∀ {l m:List Ex},Ex.aB l=Ex.aB m→l=m:=by
 intro l
 induction l with
 | nil=>intro m h;cases m with
  | nil=>rfl
  | cons b m=>simp[Ex.aB]at h
 | cons a l ihl=>intro m h;cases m with
  | nil=>simp[Ex.aB]at h
  | cons b m =>
   simp only[Ex.aB,List.cons.injEq]at h;rw[Ex.AGV a b h.1,ihl h.2]
theorem Pn.AM2:∀ (a b:Pn),a.cells=b.cells→a=b:=by
 intro a
 induction a using Pn.ind with
 | h k t es cs ks ih =>
  intro b h;obtain⟨k',t',es',cs',ks'⟩:=b
  have key:∀ {l m:List Pn},(∀ a∈l,∀ b,a.cells=b.cells→a=b)→Pn.aB l=Pn.aB m→l=m:=by
   intro l
   induction l with
   | nil=>intro m _ h;cases m with
    | nil=>rfl
    | cons b m=>simp[Pn.aB]at h
   | cons a l ihl=>intro m hi h;cases m with
    | nil=>simp[Pn.aB]at h
    | cons b m =>
     simp only[Pn.aB,List.cons.injEq]at h;rw[hi a (by simp) b h.1,ihl (fun x hx=>hi x (by simp[hx])) h.2]
  rw[Pn.bJ,Pn.bJ]at h;simp only[List.cons.injEq,IV.lit.injEq,Value.int.injEq,IV.isl.injEq,true_and,and_true]at h;obtain⟨h1,h2,h3,h4,h5⟩:=h;rw[h1,h2,Ex.ABG h3,EH h4,key ih h5]
def apO (p:Pn) (ws:List Int) (r:Int) (path:List Int):Option Pn:=if p.width ws=0 then none else apI ws r path p
def apR:Option Pn→AV×StL
 | some q=>(.tup [.i (.agg q.cells), .bool true],[])
 | none=>(.tup [.i (.agg Pn.zero.cells), .bool false],[])
def ApA (args:List AV) (x:Pn×List Int×Int×List Int):Prop:=args=[.i (.agg x.1.cells), .i (.isl (aG x.2.1)), .i (.agg [.int x.2.2.1, .isl (aG x.2.2.2)])]
noncomputable def EQ:List AV→StL→Option (AV×StL)
 | args,[]=>open Classical in if h:∃ x,ApA args x then some (apR (apO h.choose.1 h.choose.2.1 h.choose.2.2.1 h.choose.2.2.2))else none
 | _,_=>none
theorem ApA.inj {args:List AV} {x y:Pn×List Int×Int×List Int} (hx:ApA args x) (hy:ApA args y):x=y:=by
 unfold ApA at hx hy;rw[hx]at hy;simp only[List.cons.injEq,AV.i.injEq,IV.agg.injEq,IV.isl.injEq,IV.lit.injEq,Value.int.injEq,true_and,and_true]at hy;obtain⟨h1,h2,h3,h4⟩:=hy;obtain⟨a,b,c,d⟩:=x;obtain⟨a',b',c',d'⟩:=y;simp only at h1 h2 h3 h4;rw[Pn.AM2 _ _ h1,EH h2,h3,EH h4]
theorem AMO (p:Pn) (ws:List Int) (r:Int) (path:List Int):EQ [.i (.agg p.cells), .i (.isl (aG ws)), .i (.agg [.int r, .isl (aG path)])] []=some (apR (apO p ws r path)):=by
 have h:∃ x,ApA [.i (.agg p.cells), .i (.isl (aG ws)), .i (.agg [.int r, .isl (aG path)])] x:=⟨(p,ws,r,path),rfl⟩
 unfold EQ;simp only;rw[dif_pos h];have:=h.choose_spec.inj (y:=(p,ws,r,path)) rfl;rw[this]
theorem ABO {args:List AV} {st:StL} {q:AV×StL} (h:EQ args st=some q):∃ p ws r path,args=[.i (.agg (Pn.cells p)), .i (.isl (aG ws)), .i (.agg [.int r, .isl (aG path)])]∧st=[]∧q=apR (apO p ws r path):=by
 unfold EQ at h;split at h
 ·split at h
  ·rename_i hx;injection h with h;exact⟨_,_,_,_,hx.choose_spec,rfl,h.symm⟩
  ·cases h
 ·cases h
noncomputable def AY8 (C:Ctx) (G:List Nat) (na:Nat) (b:Code) (S:AS):XR:=dD C G na b S
@[simp] theorem AXH {C:Ctx} {G:List Nat} {na:Nat} (a b:Code) (S:AS):dD C G na (.seq a b) S=AF8 (dD C G na a S) (AY8 C G na b):=ALE a b
@[simp] theorem AbE {C:Ctx} {G:List Nat} {na:Nat} (b:Code) (e:List (Nat×AV)) (st:StL):AY8 C G na b ⟨e,st⟩=dD C G na b ⟨e,st⟩:=(rfl)
def ALV (C:Ctx) (call:eU) (all:List Oper) (draw:Bool) (base:Nat) (os:List Oper) (i:Nat) (env:Nat→AV) (dst:Option Tmp) (log:List (Nat×List Nat×Bool)) (p:AV×Store):Option RS:=eD C call all draw base os i ⟨CJ env dst p.1,p.2,log⟩
@[simp] theorem Ac2 {C:Ctx} {call:eU} (all:List Oper) (draw:Bool) (base:Nat) (os:List Oper) (i:Nat) (env:Nat→AV) (dst:Option Tmp) (log:List (Nat×List Nat×Bool)) (v:AV) (st:Store):ALV C call all draw base os i env dst log (v,st)=eD C call all draw base os i ⟨CJ env dst v,st,log⟩:=(rfl)
attribute [simp] AB4 Y3 AGM AB5 AGJ ALF AGL AI2
@[simp] theorem AWU (k:Nat):gX k []=true:=(rfl)
@[simp] theorem ASZ (k:Nat) (e:List IV) (es:List (List IV)):gX k (e::es)=(e.length == k && gX k es):=(rfl)
@[simp] theorem AS0:kP (.slice none 0 0)=.nils:=(rfl)
@[simp] theorem AXA:FK (.slice none 0 0)=.nils:=(rfl)
@[simp] theorem AS1 (b:Bool):kP (.bool b)=.i (.lit (.bool b)):=(rfl)
@[simp] theorem AXB (b:Bool):FK (.bool b)=.i (.lit (.bool b)):=(rfl)
@[simp] theorem ASO (b:Bool):cellsOf (.i (.lit (.bool b)))=some [.i (.lit (.bool b))]:=(rfl)
@[simp] theorem AUS (k:IntKind) (n:Int):kP (.int k n)=.i (.lit (.int k n)):=(rfl)
@[simp] theorem AZM (k:IntKind) (n:Int):FK (.int k n)=.i (.lit (.int k n)):=(rfl)
@[simp] theorem AWA (k:IntKind) (n:Int):cellsOf (.i (.lit (.int k n)))=some [.i (.lit (.int k n))]:=(rfl)
@[simp] theorem AN4 (s:ByteArray):kP (.string s)=.i (.lit (.string s)):=(rfl)
@[simp] theorem AS2 (s:ByteArray):FK (.string s)=.i (.lit (.string s)):=(rfl)
@[simp] theorem ANA (s:ByteArray):cellsOf (.i (.lit (.string s)))=some [.i (.lit (.string s))]:=(rfl)
@[simp] theorem AKI (a:Option Addr):kP (.pointer a)=.i (.lit (.pointer a)):=(rfl)
@[simp] theorem AP7 (a:Option Addr):FK (.pointer a)=.i (.lit (.pointer a)):=(rfl)
@[simp] theorem AM3 (a:Option Addr):cellsOf (.i (.lit (.pointer a)))=some [.i (.lit (.pointer a))]:=(rfl)
@[simp] theorem AUR (r:Option Nat):kP (.map r)=.i (.lit (.map r)):=(rfl)
@[simp] theorem AZL (r:Option Nat):FK (.map r)=.i (.lit (.map r)):=(rfl)
@[simp] theorem AW8 (r:Option Nat):cellsOf (.i (.lit (.map r)))=some [.i (.lit (.map r))]:=(rfl)
@[simp] theorem AKJ :kP (.nilFunc)=.i (.lit (.nilFunc)):=(rfl)
@[simp] theorem AP8 :FK (.nilFunc)=.i (.lit (.nilFunc)):=(rfl)
@[simp] theorem AM4 :cellsOf (.i (.lit (.nilFunc)))=some [.i (.lit (.nilFunc))]:=(rfl)
@[simp] theorem AHO :kP (.nilIface)=.i (.lit (.nilIface)):=(rfl)
@[simp] theorem AN6 :FK (.nilIface)=.i (.lit (.nilIface)):=(rfl)
@[simp] theorem AHR :cellsOf (.i (.lit (.nilIface)))=some [.i (.lit (.nilIface))]:=(rfl)
@[simp] theorem AP6 (a:Array Value):kP (.tuple a)=.i (.lit (.tuple a)):=(rfl)
@[simp] theorem AUU (a:Array Value):FK (.tuple a)=.i (.lit (.tuple a)):=(rfl)
@[simp] theorem AZN (cs:Array Value):FK (.agg cs)=X6 (fC cs.toList):=(rfl)
attribute [simp] fC.eq_1 fC.eq_2 cellsOf.eq_3 cellsOf.eq_4
@[simp] theorem ASM :cellsOf .nils=some [.nils]:=(rfl)
@[simp] theorem AW6 (i o:Nat):cellsOf (.own i o)=some [(.own i o)]:=(rfl)
@[simp] theorem ASL (i k j o:Nat):cellsOf (.ownE i k j o)=some [(.ownE i k j o)]:=(rfl)
@[simp] theorem AW7 (i k o l:Nat):cellsOf (.osl i k o l)=some [(.osl i k o l)]:=(rfl)
@[simp] theorem AXO (f:Fn) (cs:List AV):cellsOf (.fn f cs)=some [(.fn f cs)]:=(rfl)
@[simp] theorem AQD (a:Option Addr) (l c:Nat):cellsOf (.i (.lit (.slice a l c)))=some [(.i (.lit (.slice a l c)))]:=(rfl)
@[simp] theorem AW9 (es:List (List IV)):cellsOf (.i (.isl es))=some [(.i (.isl es))]:=(rfl)
@[simp] theorem ASN (cs:List IV):cellsOf (.i (.iref cs))=some [(.i (.iref cs))]:=(rfl)
@[simp] theorem AXM  (x:Option (List IV)):TY .nils x=none:=by cases x<;>rfl
@[simp] theorem Aa2 (st:Store) :tT st .nils=bnd (frz st BO .nils) fun p=>some (p.1,jV st p.2):=(rfl)
@[simp] theorem AWM (st:Store) :jW st .nils=bnd (tT st .nils) fun p=>some (.i p.1,p.2):=(rfl)
@[simp] theorem AaD (i o:Nat) (x:Option (List IV)):TY (.own i o) x=none:=by cases x<;>rfl
@[simp] theorem AbX (st:Store) (i o:Nat):tT st (.own i o)=bnd (frz st BO (.own i o)) fun p=>some (p.1,jV st p.2):=(rfl)
@[simp] theorem AXS (st:Store) (i o:Nat):jW st (.own i o)=bnd (tT st (.own i o)) fun p=>some (.i p.1,p.2):=(rfl)
@[simp] theorem AaE (i k o l:Nat) (x:Option (List IV)):TY (.osl i k o l) x=none:=by cases x<;>rfl
@[simp] theorem AbY (st:Store) (i k o l:Nat):tT st (.osl i k o l)=bnd (frz st BO (.osl i k o l)) fun p=>some (p.1,jV st p.2):=(rfl)
@[simp] theorem AXT (st:Store) (i k o l:Nat):jW st (.osl i k o l)=bnd (tT st (.osl i k o l)) fun p=>some (.i p.1,p.2):=(rfl)
@[simp] theorem Ac4 (f:Fn) (cs:List AV) (x:Option (List IV)):TY (.fn f cs) x=none:=by cases x<;>rfl
@[simp] theorem AbZ (st:Store) (cs:List AV):tT st (.agg cs)=bnd (frz st BO (.agg cs)) fun p=>some (p.1,jV st p.2):=(rfl)
@[simp] theorem AXU (st:Store) (cs:List AV):jW st (.agg cs)=bnd (tT st (.agg cs)) fun p=>some (.i p.1,p.2):=(rfl)
@[simp] theorem AdX (v:IV) (l:List IV):TY (.i v) (some l)=some (v::l):=(rfl)
@[simp] theorem Ac3 (v:IV):TY (.i v) none=none:=(rfl)
@[simp] theorem AeF (st:Store) (v:IV):tT st (.i v)=some (v,st):=(rfl)
@[simp] theorem Ac7 (st:Store) (v:IV):jW st (.i v)=some (.i v,st):=(rfl)
@[simp] theorem AaT (st:Store) (f:Fn) (cs:List AV):jW st (.fn f cs)=some (.fn f cs,st):=(rfl)
@[simp] theorem AXV:EW (some .strct)=some true:=(rfl)
@[simp] theorem AXW (e:TypeId):EW (some (.slice e))=some false:=(rfl)
@[simp] theorem Ac8 (k:IntKind):EW (some (.int k))=some false:=(rfl)
@[simp] theorem AWP:EW (some .string)=some false:=(rfl)
@[simp] theorem AaW:EW (some .bool)=some false:=(rfl)
@[simp] theorem AXX:EW (some .other)=some false:=(rfl)
@[simp] theorem AXY (n:Nat) (e:TypeId):EW (some (.array n e))=some true:=(rfl)
@[simp] theorem AVD:fK .add=false:=(rfl)
@[simp] theorem AV0:fK .sub=false:=(rfl)
@[simp] theorem AV6:fK .mul=false:=(rfl)
@[simp] theorem AV4:fK .quo=false:=(rfl)
@[simp] theorem AV3:fK .rem=false:=(rfl)
@[simp] theorem AVC:fK .and=false:=(rfl)
@[simp] theorem AXF:fK .or=false:=(rfl)
@[simp] theorem AUZ:fK .xor=false:=(rfl)
@[simp] theorem AN7:fK .andNot=false:=(rfl)
@[simp] theorem AVB:fK .eql=false:=(rfl)
@[simp] theorem AV5:fK .neq=false:=(rfl)
@[simp] theorem AV7:fK .lss=false:=(rfl)
@[simp] theorem AV8:fK .leq=false:=(rfl)
@[simp] theorem AV9:fK .gtr=false:=(rfl)
@[simp] theorem AVA:fK .geq=false:=(rfl)
@[simp] theorem AV2:fK .shl=true:=(rfl)
@[simp] theorem AV1:fK .shr=true:=(rfl)
@[simp] theorem AbI:PI []=.tup []:=(rfl)
@[simp] theorem AbH (v:AV):PI [v]=v:=(rfl)
@[simp] theorem AbG (a b:AV) (l:List AV):PI (a::b::l)=.tup (a::b::l):=(rfl)
attribute [simp] vO.eq_1 vO.eq_2 fH.eq_1 fH.eq_2 fH.eq_3
section
variable (C:Ctx) (call:eU) (env:Nat→AV) (st:Store) (nb:Nat)
@[simp] theorem ATH (x:Operand):dQ C call (.move x) env st nb=some (ev env x,st):=(rfl)
@[simp] theorem AO0 (x:Operand):dQ C call (.assign x) env st nb=some (ev env x,st):=(rfl)
@[simp] theorem ATG (c a b:Operand):dQ C call (.pick c a b) env st nb=bnd (AJW (ev env a) (ev env b) (ev env c)) fun v=>some (v,st):=(rfl)
@[simp] theorem ARN (t:TypeId):dQ C call (.alloc t) env st nb=bnd (zeroOf C.P t) fun z=>some (.own nb 0,upd st nb (some (.box (fC z)))):=(rfl)
@[simp] theorem AX3 (t:TypeId) (x:Operand):dQ C call (.box t x) env st nb=bnd (cellsOf (ev env x)) fun cs=>some (.own nb 0,upd st nb (some (.box cs))):=(rfl)
@[simp] theorem ARK (t:TypeId) (ps:Array (Nat×Operand)):dQ C call (.build t ps) env st nb=bnd (EW (bN C.P t)) fun g=>tst g (bnd (zeroOf C.P t) fun z=>bnd (partsOf env ps.toList) fun ps=>bnd (TF (KU C.P t) (fC z) ps) fun cs=>some (X6 cs,st)):=(rfl)
@[simp] theorem AET (t:TypeId) (n:Nat) (ps:Array (Nat×Operand)):dQ C call (.buildSlice t n ps) env st nb=bnd (BR (bN C.P t)) fun e=>bnd (partsOf env ps.toList) fun ps=>qE C e n st nb ps:=(rfl)
@[simp] theorem ATI (t:TypeId) (a:Operand):dQ C call (.load t a) env st nb=bnd (LW C t (ev env a) st) fun v=>some (v,st):=(rfl)
@[simp] theorem ARF (t:TypeId) (a x:Operand):dQ C call (.store t a x) env st nb=bnd (GV C t (ev env a) (ev env x) st) fun st1=>some (.i (.lit undef),st1):=(rfl)
@[simp] theorem AII (x:Operand):dQ C call (.nilCheck x) env st nb=bnd (AOZ (ev env x)) fun v=>some (v,st):=(rfl)
@[simp] theorem ARL (op:BinOp) (t:TypeId) (x y:Operand) (u:TypeId):dQ C call (.binOp op t x y u) env st nb=bnd (AQL C op t (ev env x) (ev env y)) fun v=>some (.i v,st):=(rfl)
@[simp] theorem ATF (op:UnOp) (t:TypeId) (x:Operand):dQ C call (.unOp op t x) env st nb=bnd (unA op (ev env x)) fun v=>some (.i v,st):=(rfl)
@[simp] theorem AN0 (s d:TypeId) (x:Operand):dQ C call (.convert s d x) env st nb=bnd (AGT (bN C.P s) (bN C.P d) (ev env x)) fun v=>some (v,st):=(rfl)
@[simp] theorem AHJ (t:TypeId) (l c:Operand):dQ C call (.makeSlice t l c) env st nb=AAG C t st nb (ev env l) (ev env c):=(rfl)
@[simp] theorem ARG (t:TypeId) (x:Operand) (lo hi:Option Operand):dQ C call (.slice t x lo hi none) env st nb=bnd (GY C t (evO env lo) (evO env hi) (ev env x)) fun v=>some (v,st):=(rfl)
@[simp] theorem AHL (s:TypeId) (x:Operand) (f:Nat):dQ C call (.fieldAddr s x f) env st nb=bnd (gG C.P s f) fun p=>bnd (jU C.P p.1) fun n=>tst (decide (0<n)) (bnd (kV p.2 (ev env x)) fun v=>some (v,st)):=(rfl)
@[simp] theorem ARI (s:TypeId) (x:Operand) (f:Nat):dQ C call (.field s x f) env st nb=bnd (gG C.P s f) fun p=>bnd (jU C.P p.1) fun n=>bnd (EW (bN C.P p.1)) fun g=>bnd (QK p.2 n g (ev env x)) fun v=>some (v,st):=(rfl)
@[simp] theorem AHK (t:TypeId) (x i:Operand):dQ C call (.indexAddr t x i) env st nb=bnd (oM C (ev env x) (ev env i) (bN C.P t)) fun v=>some (v,st):=(rfl)
@[simp] theorem ARH (t:TypeId) (x i:Operand):dQ C call (.index t x i) env st nb=bnd (QB C (ev env i) (bN C.P t) (ev env x)) fun v=>some (v,st):=(rfl)
@[simp] theorem AMZ (x:Operand) (j:Nat):dQ C call (.extract x j) env st nb=bnd (EJ j (ev env x)) fun v=>some (v,st):=(rfl)
@[simp] theorem AIJ (f:Fn) (fs cs:Array Operand):dQ C call (.makeFunc f fs cs) env st nb=tst fs.toList.isEmpty (bnd (AP0 (evL env cs.toList) f) fun v=>some (v,st)):=(rfl)
@[simp] theorem AX9 (cs:List AV) (g:FuncId):AP0 cs (.func g)=some (.fn (.func g) cs):=(rfl)
@[simp] theorem AN1 (b:Builtin) (as1:Array Operand) (ts:Array TypeId):dQ C call (.call ⟨.builtin b,as1,ts⟩) env st nb=jT C st nb b ts.toList (evL env as1.toList):=(rfl)
@[simp] theorem ARJ (f:Operand) (as1:Array Operand) (ts:Array TypeId):dQ C call (.call ⟨.value f,as1,ts⟩) env st nb=NU C call (evL env as1.toList) st nb (ev env f):=(rfl)
@[simp] theorem ATA (x:Operand):bQ env (.move x)=([],true):=(rfl)
@[simp] theorem ANQ (x:Operand):bQ env (.assign x)=([],true):=(rfl)
@[simp] theorem AT9 (c a b:Operand):bQ env (.pick c a b)=([],true):=(rfl)
@[simp] theorem ARA (t:TypeId):bQ env (.alloc t)=([],true):=(rfl)
@[simp] theorem AX0 (t:TypeId) (x:Operand):bQ env (.box t x)=([],true):=(rfl)
@[simp] theorem AR8 (t:TypeId) (ps:Array (Nat×Operand)):bQ env (.build t ps)=([],true):=(rfl)
@[simp] theorem AI5 (x:Operand):bQ env (.nilCheck x)=([],true):=(rfl)
@[simp] theorem AR9 (op:BinOp) (t:TypeId) (x y:Operand) (u:TypeId):bQ env (.binOp op t x y u)=([],true):=(rfl)
@[simp] theorem AT8 (op:UnOp) (t:TypeId) (x:Operand):bQ env (.unOp op t x)=([],true):=(rfl)
@[simp] theorem AMY (s d:TypeId) (x:Operand):bQ env (.convert s d x)=([],true):=(rfl)
@[simp] theorem AHG (t:TypeId) (l c:Operand):bQ env (.makeSlice t l c)=([],true):=(rfl)
@[simp] theorem AR5 (t:TypeId) (x:Operand) (lo hi:Option Operand):bQ env (.slice t x lo hi none)=([],true):=(rfl)
@[simp] theorem AHI (s:TypeId) (x:Operand) (f:Nat):bQ env (.fieldAddr s x f)=([],true):=(rfl)
@[simp] theorem AR7 (s:TypeId) (x:Operand) (f:Nat):bQ env (.field s x f)=([],true):=(rfl)
@[simp] theorem AHH (t:TypeId) (x i:Operand):bQ env (.indexAddr t x i)=([],true):=(rfl)
@[simp] theorem AR6 (t:TypeId) (x i:Operand):bQ env (.index t x i)=([],true):=(rfl)
@[simp] theorem AMX (x:Operand) (j:Nat):bQ env (.extract x j)=([],true):=(rfl)
@[simp] theorem AI6 (f:Fn) (fs cs:Array Operand):bQ env (.makeFunc f fs cs)=([],true):=(rfl)
attribute [simp] bQ.eq_1 bQ.eq_2 bQ.eq_3 bQ.eq_4 bQ.eq_5 bQ.eq_6
@[simp] theorem AWZ (as1:Array Operand) (ts:Array TypeId):bQ env (.call ⟨.builtin .len,as1,ts⟩)=([],true):=(rfl)
@[simp] theorem AWX (as1:Array Operand) (ts:Array TypeId):bQ env (.call ⟨.builtin .min,as1,ts⟩)=([],true):=(rfl)
@[simp] theorem AWY (as1:Array Operand) (ts:Array TypeId):bQ env (.call ⟨.builtin .max,as1,ts⟩)=([],true):=(rfl)
@[simp] theorem AbF (args:List AV) (g:FuncId) (cs:List AV):NU C call args st nb (.fn (.func g) cs)=if g=1000000007 then none else gY call (C.ownArgs g) g (args++cs) st nb:=(rfl)
@[simp] theorem AYD (args:List AV) (id:Nat):NU C call args st nb (.fn (.yield 0) [.own id 0])=gY call true uF (.fn (.yield 0) [.own id 0]::args) st nb:=(rfl)
variable (all:List Oper) (base i:Nat) (log:List (Nat×List Nat×Bool)) (dst:Option Tmp) (op:Op) (ty:TypeId) (pos:String) (after:Array Edge) (os:List Oper)
@[simp] theorem AZ7 (t:Tmp) (v:AV):CJ env (some t) v=upd env t v:=(rfl)
@[simp] theorem AZ8 (v:AV):CJ env none v=env:=(rfl)
@[simp] theorem AX5 (draw:Bool) (R:RS):eD C call all draw base [] i R=some R:=(rfl)
@[simp] theorem AYX:eD C call all false base (⟨dst,op,ty,pos,after,none⟩::os) i ⟨env,st,log⟩ =
 bnd (dQ C call op env st (base+8*i)) (ALV C call all false base os (i+1) env dst []):=(rfl)
@[simp] theorem AYW (g:Nat×Bool):eD C call all false base (⟨dst,op,ty,pos,after,some g⟩::os) i ⟨env,st,log⟩ =
 bnd (UT env g.2 ((all[g.1]?).bind (·.dst))) fun b=>if b=true then bnd (dQ C call op env st (base+8*i)) (ALV C call all false base os (i+1) env dst [])
  else eD C call all false base os (i+1) ⟨CJ env dst (.i (.lit undef)),st,log⟩:=(rfl)
@[simp] theorem AYV:eD C call all true base (⟨dst,op,ty,pos,after,none⟩::os) i ⟨env,st,log⟩ =
 tst (AaH base all ⟨dst,op,ty,pos,after,none⟩ st (bQ env op).1 (GM st (bQ env op)).1 (bQ env op).2 log)
  (bnd (dQ C call op env st (base+8*i)) (ALV C call all true base os (i+1) env dst (NL i (bQ env op).2 log (GM st (bQ env op)).1))):=(rfl)
@[simp] theorem AYU (g:Nat×Bool):eD C call all true base (⟨dst,op,ty,pos,after,some g⟩::os) i ⟨env,st,log⟩ =
 bnd (UT env g.2 ((all[g.1]?).bind (·.dst))) fun b=>if b=true then
  tst (AaH base all ⟨dst,op,ty,pos,after,some g⟩ st (bQ env op).1 (GM st (bQ env op)).1 (bQ env op).2 log)
   (bnd (dQ C call op env st (base+8*i)) (ALV C call all true base os (i+1) env dst (NL i (bQ env op).2 log (GM st (bQ env op)).1)))
  else eD C call all true base os (i+1) ⟨CJ env dst (.i (.lit undef)),st,log⟩:=(rfl)
end
attribute [simp] aV.eq_1 aV.eq_2
attribute [simp] bK.eq_1 bK.eq_2 bK.eq_3
attribute [simp] ANE.eq_1 ANE.eq_2
attribute [simp] AWO.eq_1 AWO.eq_2
attribute [simp] X6.eq_1
attribute [simp] nE.eq_1 nE.eq_2
attribute [simp] tJ.eq_1 tJ.eq_2
attribute [simp] jO.eq_1 jO.eq_2
attribute [simp] dropE.eq_1 dropE.eq_2 dropE.eq_3
attribute [simp] D9.eq_1 D9.eq_2 D9.eq_3
attribute [simp] cut.eq_1
attribute [simp] splice.eq_1 splice.eq_2 splice.eq_3 splice.eq_4 splice.eq_5
attribute [simp] BR.eq_1
attribute [simp] AC.eq_1 AC.eq_2
attribute [simp] frz.eq_1 frz.eq_2 frz.eq_3 frz.eq_4 frz.eq_5 frz.eq_6
attribute [simp] II.eq_1 II.eq_2 II.eq_3
attribute [simp] QF.eq_1 QF.eq_2 QF.eq_3
attribute [simp] BO.eq_1
attribute [simp] jV.eq_1 jV.eq_2
attribute [simp] pG.eq_1 pG.eq_2
attribute [simp] eT.eq_1 eT.eq_2 eT.eq_3 eT.eq_4 eT.eq_5 eT.eq_6 eT.eq_7 eT.eq_8 eT.eq_9
attribute [simp] bD.eq_1 bD.eq_2
attribute [simp] kT.eq_1 kT.eq_2 kT.eq_3 kT.eq_4 kT.eq_5 kT.eq_6 kT.eq_7
attribute [simp] ren.eq_1 ren.eq_2 ren.eq_3 ren.eq_4 ren.eq_5 ren.eq_6 ren.eq_7 ren.eq_8 ren.eq_9
attribute [simp] AQ.eq_1 AQ.eq_2
attribute [simp] NZ.eq_1 NZ.eq_2 NZ.eq_3 NZ.eq_4 NZ.eq_5 NZ.eq_6 NZ.eq_7
attribute [simp] mF.eq_1 mF.eq_2
attribute [simp] jG.eq_1
attribute [simp] O8.eq_1 O8.eq_2
attribute [simp] reach.eq_1 reach.eq_2 reach.eq_3
attribute [simp] MK.eq_1
attribute [simp] tO.eq_1 tO.eq_2
attribute [simp] upto.eq_1 upto.eq_2
attribute [simp] kE.eq_1
attribute [simp] mX.eq_1 mX.eq_2
attribute [simp] ev.eq_1 ev.eq_2 ev.eq_3 ev.eq_4
attribute [simp] evL.eq_1 evL.eq_2
attribute [simp] evO.eq_1 evO.eq_2
attribute [simp] UK.eq_1 UK.eq_2 UK.eq_3 UK.eq_4 UK.eq_5 UK.eq_6 UK.eq_7 UK.eq_8 UK.eq_9 UK.eq_10 UK.eq_11 UK.eq_12 UK.eq_13 UK.eq_14 UK.eq_15
attribute [simp] shI.eq_1 shI.eq_2
attribute [simp] ANC.eq_1 ANC.eq_2 ANC.eq_3 ANC.eq_4 ANC.eq_5 ANC.eq_6 ANC.eq_7
attribute [simp] AaR.eq_1 AaR.eq_2
attribute [simp] AaP.eq_1 AaP.eq_2
attribute [simp] AWI.eq_1 AWI.eq_2
attribute [simp] AQL.eq_1 AQL.eq_2 AQL.eq_3 AQL.eq_4 AQL.eq_5 AUL.eq_1 AUL.eq_2 AUL.eq_3 AUL.eq_4 AaQ.eq_1 AaQ.eq_2
attribute [simp] unA.eq_1 unA.eq_2
attribute [simp] o9.eq_1
attribute [simp] lJ.eq_1 lJ.eq_2
attribute [simp] rD.eq_1 rD.eq_2
attribute [simp] dY.eq_1 dY.eq_2 dY.eq_3 dY.eq_4
attribute [simp] IU.eq_1 IU.eq_2
attribute [simp] wM.eq_1
attribute [simp] YZ.eq_1 YZ.eq_2
attribute [simp] AWN.eq_1
attribute [simp] pK.eq_1
attribute [simp] N7.eq_1 N7.eq_2
attribute [simp] ABB.eq_1
attribute [simp] AS3.eq_1 AS3.eq_2 AS3.eq_3 AS3.eq_4 AS3.eq_5
attribute [simp] GY.eq_1 GY.eq_2 GY.eq_3 GY.eq_4
attribute [simp] TF.eq_1 TF.eq_2
attribute [simp] partsOf.eq_1 partsOf.eq_2
attribute [simp] WS.eq_1 WS.eq_2
attribute [simp] KU.eq_1
attribute [simp] qW.eq_1 qW.eq_2 qW.eq_3
attribute [simp] nX.eq_1 nX.eq_2
attribute [simp] fO.eq_1 fO.eq_2
attribute [simp] AGU.eq_1 AGU.eq_2
attribute [simp] NQ.eq_1 NQ.eq_2
attribute [simp] ARS.eq_1 ARS.eq_2
attribute [simp] O7.eq_1 O7.eq_2
attribute [simp] O6.eq_1 O6.eq_2
attribute [simp] loadAt.eq_1 loadAt.eq_2 loadAt.eq_3
attribute [simp] LW.eq_1
attribute [simp] uG.eq_1
attribute [simp] rT.eq_1
attribute [simp] storeAt.eq_1 storeAt.eq_2
attribute [simp] GV.eq_1
attribute [simp] iL.eq_1 iL.eq_2
attribute [simp] wJ.eq_1 wJ.eq_2
attribute [simp] lF.eq_1 lF.eq_2 lF.eq_3
attribute [simp] qU.eq_1 qU.eq_2 qU.eq_3
attribute [simp] wZ.eq_1
attribute [simp] lT.eq_1
attribute [simp] gY.eq_1
attribute [simp] uJ.eq_1 uJ.eq_2
attribute [simp] jT.eq_1 jT.eq_2 jT.eq_3 jT.eq_4 jT.eq_5
attribute [simp] AGT.eq_1 AGT.eq_2
attribute [simp] AJW.eq_1
attribute [simp] AOZ.eq_1 AOZ.eq_2 AOZ.eq_3 AOZ.eq_4 AOZ.eq_5
attribute [simp] AAG.eq_1
attribute [simp] kV.eq_1 kV.eq_2 kV.eq_3 kV.eq_4
attribute [simp] QK.eq_1 QK.eq_2
attribute [simp] M6.eq_1 M6.eq_2 M6.eq_3
attribute [simp] AAP.eq_1
attribute [simp] oM.eq_1 oM.eq_2
attribute [simp] QB.eq_1 QB.eq_2
attribute [simp] EJ.eq_1
attribute [simp] qE.eq_1
attribute [simp] ABS.eq_1 ABS.eq_2
attribute [simp] UT.eq_1 UT.eq_2
attribute [simp] CY.eq_1 CY.eq_2
attribute [simp] iJ.eq_1 iJ.eq_2
attribute [simp] GM.eq_1
attribute [simp] allIn.eq_1 allIn.eq_2
attribute [simp] AAE.eq_1 AAE.eq_2
attribute [simp] AaH.eq_1
attribute [simp] AP5.eq_1 AP5.eq_2
attribute [simp] tK.eq_1 tK.eq_2
attribute [simp] AKW.eq_1
attribute [simp] fG.eq_1 fG.eq_2
attribute [simp] CZ.eq_1
attribute [simp] HV.eq_1 HV.eq_2
attribute [simp] AFZ.eq_1 AFZ.eq_2
attribute [simp] NL.eq_1 NL.eq_2
attribute [simp] qZ.eq_1 qZ.eq_2
attribute [simp] FV.eq_1 FV.eq_2
attribute [simp] F9.eq_1
attribute [simp] settle.eq_1
attribute [simp] AE0.eq_1 DV.eq_1 DV.eq_2 wR.eq_1 wR.eq_2 WA.eq_1 qX.eq_1 AMA.eq_1 RG.eq_1 MI.eq_1 AC7.eq_1 qI.eq_1 qI.eq_2 VQ.eq_1 DU.eq_1 ZF.eq_1 OG.eq_1 setSt.eq_1 setSt.eq_2 setSt.eq_3
@[simp] theorem AX2 (k:Nat):RG (.exit k)=.over (.exit k):=(rfl)
@[simp] theorem AVH (k:Nat):MI (.exit k)=false:=(rfl)
@[simp] theorem AXG:MI .ret=false:=(rfl)
@[simp] theorem AYC:RG .ret=.over .ret:=(rfl)
@[simp] theorem Ac1 (vs:List AV):ZF [] vs=[]:=(rfl)
@[simp] theorem AaO (vs:List AV) (E:List (Nat×AV)):OG [] vs E=E:=(rfl)
attribute [simp] AF8.eq_1 AF8.eq_2 AF8.eq_3 AF8.eq_4
attribute [simp] NE.eq_1 NE.eq_2 NE.eq_3 NE.eq_4
attribute [simp] ABE.eq_1
attribute [simp] ALO.eq_1 ALO.eq_2
attribute [simp] AC8.eq_1 AC8.eq_2
attribute [simp] KI.eq_1 KI.eq_2
attribute [simp] vV.eq_1 vV.eq_2
attribute [simp] AC9.eq_1 AC9.eq_2
attribute [simp] AY.eq_1 AY.eq_2
attribute [simp] AAD.eq_1
attribute [simp] finish.eq_1
attribute [simp] AGN.eq_1 AGN.eq_2 AGN.eq_3 AGN.eq_4
attribute [simp] uN.eq_1 uN.eq_2 uN.eq_3
attribute [simp] MV.eq_1 MV.eq_2
attribute [simp] enter.eq_1
attribute [simp] DI.eq_1 DI.eq_2
attribute [simp] ACA.eq_1 ACA.eq_2
attribute [simp] pO.eq_1 pO.eq_2 pO.eq_3 pO.eq_4 pO.eq_5
attribute [simp] uM.eq_1 uM.eq_2
attribute [simp] NF.eq_1 NF.eq_2
attribute [simp] AN5.eq_1 AN5.eq_2 AN5.eq_3 AN5.eq_4
attribute [simp] IZ.eq_1 IZ.eq_2
attribute [simp] ANF.eq_1 ANF.eq_2
attribute [simp] ZG.eq_1 ZG.eq_2 ZG.eq_3
attribute [simp] R7.eq_1 R7.eq_2
attribute [simp] OV.eq_1
attribute [simp] jY.eq_1 jY.eq_2
attribute [simp] storeT.eq_1 storeT.eq_2
@[simp] theorem AU5 (st:Store) (v:AV):KJ st [v]=some ([v],st):=(rfl)
@[simp] theorem AU6 (st:Store):KJ st []=some ([],st):=(rfl)
@[simp] theorem AU4 (st:Store) (a b:AV) (r:List AV):KJ st (a::b::r)=AY st (a::b::r):=(rfl)
@[simp] theorem AZV (st:Store) (cs:List AV):FN st (.agg cs)=bnd (tT st (.agg cs)) fun p=>some (.i p.1,p.2):=(rfl)
@[simp] theorem AXD (st:Store) :FN st .nils=some (.nils,st):=(rfl)
@[simp] theorem AZT (st:Store) (i o:Nat):FN st (.own i o)=some ((.own i o),st):=(rfl)
@[simp] theorem AXC (st:Store) (i k j o:Nat):FN st (.ownE i k j o)=some ((.ownE i k j o),st):=(rfl)
@[simp] theorem AZU (st:Store) (i k o l:Nat):FN st (.osl i k o l)=some ((.osl i k o l),st):=(rfl)
@[simp] theorem AbT (st:Store) (f:Fn) (cs:List AV):FN st (.fn f cs)=some ((.fn f cs),st):=(rfl)
@[simp] theorem Ad0 (st:Store) (v:IV):FN st (.i v)=some ((.i v),st):=(rfl)
@[simp] theorem AZS (st:Store) (cs:List AV):FN st (.tup cs)=some ((.tup cs),st):=(rfl)
@[simp] theorem AXE (st:Store) :FN st .junk=some (.junk,st):=(rfl)
@[simp] theorem Ab8 (all:List Oper) (after:List Edge) (j:Nat):iM all 3 after j=if CZ after j=true then true else after.any fun e=>Region.binds .any e && iM all 2 (A9 all e.on) j:=(rfl)
@[simp] theorem Ab9 (all:List Oper) (after:List Edge) (j:Nat):iM all 2 after j=if CZ after j=true then true else after.any fun e=>Region.binds .any e && iM all 1 (A9 all e.on) j:=(rfl)
@[simp] theorem AbA (all:List Oper) (after:List Edge) (j:Nat):iM all 1 after j=if CZ after j=true then true else after.any fun e=>Region.binds .any e && iM all 0 (A9 all e.on) j:=(rfl)
@[simp] theorem AbB (all:List Oper) (after:List Edge) (j:Nat):iM all 0 after j=CZ after j:=(rfl)
attribute [simp] A9.eq_1
attribute [simp] undef
attribute [simp] wide
end Go.Av
namespace Go.Proofs.YtnmimmaahhlgeaaGreat
open Go Go.Av
def GS:FuncId→List Nat
 | 3=>[0,2,3,4,5,6,7,8,9,10,13,43,50,63,85]
 | 4=>[0,2,3,4,5,6,7,8,9,11,12,15,45]
 | 5=>[0,2,3,4,5,6,7,9,10,11,12,13,14,15,18,32,69]
 | 6=>[0,2,3]
 | 7=>[0,1,2,4,6,7,15]
 | 8=>[0,1,2,4,9]
 | 9=>[0,1,2,3,5,6,7,8,9,10,11,15,21,36]
 | 10=>[0,2,3,4,9]
 | 11=>[0,1,2,4,5,6,8]
 | 12=>[0,1,2,4,9]
 | 13=>[0,2,3]
 | 14=>[0,1,2,4,5,10]
 | 15=>[0,1,2,3,4]
 | 16=>[0,1,2,4,5,6,7,8,9,13,18,25]
 | 17=>[0,2,3,4,5,6,7]
 | 18=>[0,1,2,3,5,6,7,17]
 | 19=>[0,1,2,3,4,5,42,47,61]
 | 20=>[0,2,3,4,5,6,17]
 | 21=>[0,2,5]
 | 22=>[0,1,4,5,6,7,8,9,10,25]
 | 23=>[0,1,2,4,7]
 | 24=>[0,2,3,4,9,17]
 | 25=>[0,1,2,4,5,6,16]
 | 26=>[0,1,2,4,7]
 | 27=>[0,1,4,6,9,10,11,12,13,26]
 | 28=>[0,1,2,3,8,9,10,11,12,19,37]
 | 29=>[0,2,3,4,5,6,7,14,38,39,40,76,77,78]
 | 30=>[0,1,2,4,5,8,29,30,38,44,62,72]
 | 31=>[0,1,4,5,10,14,26]
 | 32=>[0,1,4,5,6,9,10,12]
 | 33=>[0,1,2,4,6,7,8,19]
 | 34=>[0,1,2,3,5,6,7,8,9,10,19,30,40]
 | 35=>[0,1,4,5,10,14,26]
 | 36=>[0,1,4,5,10,14,25]
 | 37=>[0,2,3,4,10]
 | 38=>[0,1,4,5,10,11,17,23,33]
 | 39=>[0,1,4,5,6,11]
 | 40=>[0,1,4,5,6,24,36]
 | 41=>[0,1,2,6,7,13,14,20,25,36,41]
 | 42=>[0,2,3,4,6,14,15,16,17,18,23]
 | 43=>[0,1,2,6,7,8,9,10,11,16,17,18,38,39,58,64,75,89,100,106]
 | 44=>[0,2,3,7,15]
 | 45=>[0,1,2,3,6,7,8,9,23,28,41,47,48,55,61,70,74,82,106,114,122,126,131,144]
 | 46=>[0,1,2,3,8,47]
 | 47=>[0,2,4,12,13,14,15,16,21]
 | 48=>[0,1,2,6,7,8,9,10,31,60,87,92,106,118,119,120,137]
 | 49=>[0,4,5,6,7,8,16]
 | 50=>[0,4,5,6,21]
 | 51=>[0,1,4,5,6,7,8,16,38]
 | 52=>[0,1,4,5,6,7,8,9,10,18,34]
 | 53=>[0,4,5,6,7,8,16]
 | 54=>[0,1,4,5,6,7,8,9,10,15,37,38,39]
 | 55=>[0,1,4,5,6,7,8,9,10,11,19,36,49]
 | 56=>[0,4,5,6,7,8,16]
 | 57=>[0,4,5,30]
 | 58=>[0,1,4,5,6,7,8,9,17]
 | 59=>[0,1,4,5,6,7,8,9,10,11,26,50,51,52,71]
 | 60=>[0,2,3,6]
 | 61=>[0,2,3,4,5,6,13,37,38,39]
 | 62=>[0,2,3,6]
 | 63=>[0,2,3,6]
 | 64=>[0,1,4,5,6,11,16]
 | 65=>[0,1,2,3,4,5,6,12,21]
 | 66=>[0,1,2,4,5,6,7,8,14,21]
 | 67=>[0,1,2,3,4,5,6,8,9,10,11,12,13,19,26,42,51]
 | 68=>[0,1,2,3,4]
 | 69=>[0,1,2,3,4,12,31]
 | 70=>[0,1,2,4,5,6,7,8,9,10,11,18,40,46,66]
 | 71=>[0,1,4,5,10,14,25]
 | 72=>[0,1,2,3,4]
 | 73=>[0,1,2]
 | 74=>[0,1,2,4,8]
 | 75=>[0,2,3,4,9]
 | 76=>[0,1,2,4,5,6,10,22]
 | 77=>[0,1,2,3,6,7,8,9,10,11,12,13,14,24,71,99,120]
 | 78=>[0,1,2,3,5,6,7,10]
 | 79=>[0,1,2,3,4]
 | 80=>[0,1,4,5,6,18]
 | 81=>[0,1,4]
 | 82=>[0,1,4,5,10,11,17,24]
 | 83=>[0,1,2,6,7,8,15]
 | 84=>[0,2]
 | 85=>[0,1,4,5,10,11,14,18]
 | 86=>[0,1,2,3,4,14,16,17,18,19,32,45]
 | 87=>[0,1,2]
 | 88=>[0,1,2,3,4]
 | 89=>[0,1,2,3,4]
 | 90=>[0,1,2,3,4,5,6]
 | 91=>[0,2,3,5,6,8,9,10,11,12,20,25,26,27,28]
 | 92=>[0,1,2]
 | 93=>[0,1,2,3,4]
 | 94=>[0,1,2,4,5,6,7,8,11]
 | 95=>[0,1,2,6]
 | 96=>[0,1,2,3,4,6,7,9,12,14,16]
 | 97=>[0,1,2,4]
 | 98=>[0,1,4,5,9,18,21]
 | 99=>[0,1,4,5,9,35]
 | 100=>[0,2,3,7,15]
 | 101=>[0,1,4,5,6,16,29]
 | 102=>[0,2]
 | 103=>[0,2,3,4,5,7,10,13,15]
 | 104=>[0,1,2,6,7,8,13,14,21,22,26,27,35,46,47,48,59,65]
 | 105=>[0,1,4,5,6,22]
 | 106=>[0,1,2,3,4]
 | 107=>[0,1,2,3,4]
 | 108=>[0,2,3,4,9,19,20,21]
 | 109=>[0,1,2,3,5,6,7,8]
 | 110=>[0,1,3,4]
 | 111=>[0,1,3]
 | 112=>[0,1,2,4,7]
 | 113=>[0,2]
 | 114=>[0,1,2,3,6,7,8,10,14,18,19,20,26,27,28,29,38]
 | 115=>[0,1,2,3,4,6,7,8,9,14,20,21,22,30,42]
 | 116=>[0,1,4,5,6,7,8,13,24]
 | 117=>[0,1,2,4]
 | 118=>[0,1,2,4,6,7,14,18,29]
 | 119=>[0,1,4]
 | 120=>[0,2,3,4,8]
 | 121=>[0,1,4,5,6,11]
 | 122=>[0,1,2]
 | 123=>[0,1,2,3,8,9,11,12,14,28,35,40,41,42,58]
 | 124=>[0,1,2,4,5,6,7,8,9,11,20,24,42]
 | 125=>[0,1,2,3,6,7,8,9,10,11,12,13,14,26,42,62,81,112,150,169,190,212]
 | 126=>[0,1,4,5,6,10]
 | 127=>[0,1,2,4,5,6,9,27]
 | 128=>[0,1,2,3,4,5,19,37]
 | 129=>[0,1,4,5,6,7,8,9,10,11,12,31,44,45,54,62,77,88,110,122,128,146,151,154]
 | 130=>[0,1,2,3,4]
 | 131=>[0,1,4]
 | 132=>[0,1,2,6,7,8,9,10,18,21,37]
 | 133=>[0,2,3,7,8,11]
 | 134=>[0,1,4,5,6,10]
 | 135=>[0,2,4,8,9,10,11,12,17]
 | 136=>[0,1,4]
 | 137=>[0,1,4,5,6,7,8,14]
 | 138=>[0,1,2,5,7,8,9,10,27]
 | 139=>[0,1,2,3,6]
 | 140=>[0,1,4,5,9,10,19,35,36,42]
 | 141=>[0,1,2,4,6,7,15,16,17,18,25,26,27,44]
 | 142=>[0,1,2,3,5,7,8,10,11,19,20,21,22,29,30,31,32,49,53,62,68,78]
 | 143=>[0]
 | 144=>[0,1,4,6,16]
 | 145=>[0,1,3,4,5,6,7,8,23,27]
 | 146=>[0,1,2,5,11,12,13,14,32]
 | 147=>[0,1,2,3,4,5,6,7,8,9,10,18,19,20,21,37]
 | 148=>[0,1,4,5,7,8,9,10,11]
 | 149=>[0,2]
 | 150=>[0,2,3,6]
 | 151=>[0,1,4]
 | 152=>[0,1,2,3,6,7,24,29,41,43,44,57]
 | 153=>[0,1,2]
 | 154=>[0,1,2,3,4,5,9]
 | 155=>[0,1,4,5,7,10,11,12,13,14,24]
 | 156=>[0,1,2,4]
 | 157=>[0,1,4,5,6,12,39,40,41]
 | 158=>[0,1,3,8]
 | 159=>[0,1,4,5,6,10,11,20,37,38,50,54,59]
 | 160=>[0,2,3,4,9,10,11]
 | 161=>[0,1,2,6,7,27,32,33,34,46]
 | 162=>[0,1,3,8]
 | 163=>[0,1,2,3,6]
 | 164=>[0,2,4]
 | 165=>[0,2,4]
 | 166=>[0,2,3]
 | 167=>[0,1,2,4,5,6,7,8,16,32,34,35,43,51,59]
 | 168=>[0,1,2,4,6,7,18]
 | 169=>[0,1,2,3,6,7]
 | 170=>[0,1,2,3,6]
 | 171=>[0,1,4,5,6,11]
 | 172=>[0,1,2,3,4,16]
 | 173=>[0,1,2,6,7,8,9,20,32,33,34,39,46,59,66]
 | 174=>[0,1,2]
 | 175=>[0,2,5]
 | 176=>[0,2,3,4,7,10]
 | 177=>[0,1,2,4]
 | 178=>[0,1,2,6,7,8,9,10,11,12,13,14,21,31,38]
 | 179=>[0,1,2,3,4,5,12,15]
 | 180=>[0,2,4]
 | 181=>[0,2,3]
 | 182=>[0,1,2,4,5,6,7,16,25,33,34,42,50,58]
 | 183=>[0,2,3,6]
 | 184=>[0,1,2,5]
 | 185=>[0,1]
 | 186=>[0,1,2,3,4,10,11,12,13,14,15,16,17,18,19,20,25,32,39,56,75,80,97,125]
 | 188=>[0,1,2,6,7,8,28,62,90,95,96,97,109]
 | 189=>[0,1,2,3,6]
 | 190=>[0,1,2,6,7,9,11,17,19,20,21,22,26,27,28,29,46,54,66]
 | 191=>[0,1,4,5,12]
 | 192=>[0,2,5]
 | 193=>[0,1,3,4,5,8,17]
 | 194=>[0,1,2,4,5,6,7,9,10,17,29,30,42,46,49,66,76,84,89]
 | 195=>[0,1,4,5,6,7,8,12,18,26]
 | 196=>[0,1,4,5,6,11,12,13,16,19]
 | 197=>[0,2,3,7]
 | 198=>[0,1,2,6,7,8,9,13,30,35,54]
 | 199=>[0,1,2,3,8,9,14,34]
 | 200=>[0,1,2,3,8,9,10,11,12,21,33]
 | 201=>[0,1,2,8,9,10,11,12,17,35,45]
 | 202=>[0,1,2,3,8,9,10,11,12,13,14,34,36,55,57,60]
 | 203=>[0,1,2,8,9,15]
 | 204=>[0,1,2,3,8,9,10,11,12,16,36,41,45,65,69,84,104,109,124]
 | 205=>[0,1,2,3,4,10,11,12,47,65,70]
 | 206=>[0,1,2,3,4,10,11,12,13,47,66,71,120,139,144]
 | 209=>[0,2,3,4,7,10]
 | 210=>[0,2,3,5,9,10,11,12,19]
 | 211=>[0,1,4,5,6,18,32]
 | 212=>[0,1,2,3,6]
 | 213=>[0,1,2,6,7,8,9,11,15,29]
 | 214=>[0,2]
 | 215=>[0,1,2,3,4,10,11,12,13,14,15,16,17,18,19,20,21,22,23,24,28,33,50,58,80,85,103,110,140,151,171,185,199,213]
 | 216=>[0,1,2,3,4,10,11,18,40,58]
 | 217=>[0,2]
 | 219=>[0,1,2,3,8]
 | 220=>[0,1,2,3,4,5,12]
 | 221=>[0,2,3,4,7]
 | 222=>[0,1,2,3,4,10,11,20,23]
 | 223=>[0,1,2,3,4,10,11,22]
 | 224=>[0,1,2,3,10,13]
 | 240=>[]
 | _=>[]
def bX:FuncId→Bool
 | 20=>true
 | 33=>true
 | 37=>true
 | 38=>true
 | 39=>true
 | 40=>true
 | 41=>true
 | 43=>true
 | 61=>true
 | 75=>true
 | 80=>true
 | 81=>true
 | 82=>true
 | 83=>true
 | 85=>true
 | 94=>true
 | 111=>true
 | 112=>true
 | 122=>true
 | 129=>true
 | 131=>true
 | 132=>true
 | 133=>true
 | 134=>true
 | 137=>true
 | 138=>true
 | 141=>true
 | 142=>true
 | 145=>true
 | 146=>true
 | 150=>true
 | 151=>true
 | 158=>true
 | 162=>true
 | 168=>true
 | 173=>true
 | 175=>true
 | 184=>true
 | 185=>true
 | 198=>true
 | 199=>true
 | 215=>true
 | 222=>true
 | 224=>true
 | _=>false
def keepR:FuncId→Bool
 | 21=>true
 | 134=>true
 | 85=>true
 | 83=>true
 | 41=>true
 | 37=>true
 | 39=>true
 | 38=>true
 | 82=>true
 | 60=>true
 | 63=>true
 | 62=>true
 | 126=>true
 | 128=>true
 | 168=>true
 | 72=>true
 | 88=>true
 | 89=>true
 | 90=>true
 | 93=>true
 | 92=>true
 | 87=>true
 | 144=>true
 | 148=>true
 | 183=>true
 | 116=>true
 | 84=>true
 | _=>false
def MU:TypeId→Bool
 | 87=>true
 | 88=>true
 | _=>false
@[simp] theorem kR5:keepR 5=false:=(rfl)
@[simp] theorem gS5:GS 5=[0,2,3,4,5,6,7,9,10,11,12,13,14,15,18,32,69]:=(rfl)
@[simp] theorem oA9:bX 9=false:=(rfl)
@[simp] theorem kR9:keepR 9=false:=(rfl)
@[simp] theorem gS9:GS 9=[0,1,2,3,5,6,7,8,9,10,11,15,21,36]:=(rfl)
@[simp] theorem AqT:bX 10=false:=(rfl)
@[simp] theorem AsV:keepR 10=false:=(rfl)
@[simp] theorem AvB:GS 10=[0,2,3,4,9]:=(rfl)
@[simp] theorem AqS:bX 11=false:=(rfl)
@[simp] theorem AsU:keepR 11=false:=(rfl)
@[simp] theorem AvA:GS 11=[0,1,2,4,5,6,8]:=(rfl)
@[simp] theorem AqR:bX 14=false:=(rfl)
@[simp] theorem AsT:keepR 14=false:=(rfl)
@[simp] theorem Av9:GS 14=[0,1,2,4,5,10]:=(rfl)
@[simp] theorem AqQ:bX 15=false:=(rfl)
@[simp] theorem AsS:keepR 15=false:=(rfl)
@[simp] theorem Av8:GS 15=[0,1,2,3,4]:=(rfl)
@[simp] theorem AqP:bX 17=false:=(rfl)
@[simp] theorem AsR:keepR 17=false:=(rfl)
@[simp] theorem Av7:GS 17=[0,2,3,4,5,6,7]:=(rfl)
@[simp] theorem AqO:bX 18=false:=(rfl)
@[simp] theorem AsQ:keepR 18=false:=(rfl)
@[simp] theorem Av6:GS 18=[0,1,2,3,5,6,7,17]:=(rfl)
@[simp] theorem AqN:bX 19=false:=(rfl)
@[simp] theorem AsP:keepR 19=false:=(rfl)
@[simp] theorem Av5:GS 19=[0,1,2,3,4,5,42,47,61]:=(rfl)
@[simp] theorem AqM:bX 20=true:=(rfl)
@[simp] theorem AsO:keepR 20=false:=(rfl)
@[simp] theorem Av4:GS 20=[0,2,3,4,5,6,17]:=(rfl)
@[simp] theorem AqL:bX 21=false:=(rfl)
@[simp] theorem AsN:keepR 21=true:=(rfl)
@[simp] theorem Av3:GS 21=[0,2,5]:=(rfl)
@[simp] theorem AqK:bX 22=false:=(rfl)
@[simp] theorem AsM:keepR 22=false:=(rfl)
@[simp] theorem Av2:GS 22=[0,1,4,5,6,7,8,9,10,25]:=(rfl)
@[simp] theorem AqJ:bX 23=false:=(rfl)
@[simp] theorem AsL:keepR 23=false:=(rfl)
@[simp] theorem Av1:GS 23=[0,1,2,4,7]:=(rfl)
@[simp] theorem AqI:bX 24=false:=(rfl)
@[simp] theorem AsK:keepR 24=false:=(rfl)
@[simp] theorem Av0:GS 24=[0,2,3,4,9,17]:=(rfl)
@[simp] theorem AqH:bX 26=false:=(rfl)
@[simp] theorem AsJ:keepR 26=false:=(rfl)
@[simp] theorem AuZ:GS 26=[0,1,2,4,7]:=(rfl)
@[simp] theorem AqG:bX 27=false:=(rfl)
@[simp] theorem AsI:keepR 27=false:=(rfl)
@[simp] theorem AuY:GS 27=[0,1,4,6,9,10,11,12,13,26]:=(rfl)
@[simp] theorem AqF:bX 28=false:=(rfl)
@[simp] theorem AsH:keepR 28=false:=(rfl)
@[simp] theorem AuX:GS 28=[0,1,2,3,8,9,10,11,12,19,37]:=(rfl)
@[simp] theorem AqE:bX 29=false:=(rfl)
@[simp] theorem AuW:GS 29=[0,2,3,4,5,6,7,14,38,39,40,76,77,78]:=(rfl)
@[simp] theorem AqD:bX 31=false:=(rfl)
@[simp] theorem AsG:keepR 31=false:=(rfl)
@[simp] theorem AuV:GS 31=[0,1,4,5,10,14,26]:=(rfl)
@[simp] theorem AqC:bX 33=true:=(rfl)
@[simp] theorem AsF:keepR 33=false:=(rfl)
@[simp] theorem AuU:GS 33=[0,1,2,4,6,7,8,19]:=(rfl)
@[simp] theorem AqB:bX 34=false:=(rfl)
@[simp] theorem AsE:keepR 34=false:=(rfl)
@[simp] theorem AuT:GS 34=[0,1,2,3,5,6,7,8,9,10,19,30,40]:=(rfl)
@[simp] theorem AqA:bX 35=false:=(rfl)
@[simp] theorem AsD:keepR 35=false:=(rfl)
@[simp] theorem AuS:GS 35=[0,1,4,5,10,14,26]:=(rfl)
@[simp] theorem Aq9:bX 36=false:=(rfl)
@[simp] theorem AsC:keepR 36=false:=(rfl)
@[simp] theorem AuR:GS 36=[0,1,4,5,10,14,25]:=(rfl)
@[simp] theorem Aq8:bX 37=true:=(rfl)
@[simp] theorem AsB:keepR 37=true:=(rfl)
@[simp] theorem AuQ:GS 37=[0,2,3,4,10]:=(rfl)
@[simp] theorem Aq7:bX 38=true:=(rfl)
@[simp] theorem AsA:keepR 38=true:=(rfl)
@[simp] theorem AuP:GS 38=[0,1,4,5,10,11,17,23,33]:=(rfl)
@[simp] theorem Aq6:bX 39=true:=(rfl)
@[simp] theorem As9:keepR 39=true:=(rfl)
@[simp] theorem AuO:GS 39=[0,1,4,5,6,11]:=(rfl)
@[simp] theorem Aq5:bX 40=true:=(rfl)
@[simp] theorem As8:keepR 40=false:=(rfl)
@[simp] theorem AuN:GS 40=[0,1,4,5,6,24,36]:=(rfl)
@[simp] theorem Aq4:bX 41=true:=(rfl)
@[simp] theorem As7:keepR 41=true:=(rfl)
@[simp] theorem AuM:GS 41=[0,1,2,6,7,13,14,20,25,36,41]:=(rfl)
@[simp] theorem Aq3:bX 42=false:=(rfl)
@[simp] theorem As6:keepR 42=false:=(rfl)
@[simp] theorem AuL:GS 42=[0,2,3,4,6,14,15,16,17,18,23]:=(rfl)
@[simp] theorem Aq2:bX 43=true:=(rfl)
@[simp] theorem As5:keepR 43=false:=(rfl)
@[simp] theorem AuK:GS 43=[0,1,2,6,7,8,9,10,11,16,17,18,38,39,58,64,75,89,100,106]:=(rfl)
@[simp] theorem Aq1:bX 44=false:=(rfl)
@[simp] theorem As4:keepR 44=false:=(rfl)
@[simp] theorem AuJ:GS 44=[0,2,3,7,15]:=(rfl)
@[simp] theorem Aq0:bX 45=false:=(rfl)
@[simp] theorem As3:keepR 45=false:=(rfl)
@[simp] theorem AuI:GS 45=[0,1,2,3,6,7,8,9,23,28,41,47,48,55,61,70,74,82,106,114,122,126,131,144]:=(rfl)
@[simp] theorem ApZ:bX 46=false:=(rfl)
@[simp] theorem As2:keepR 46=false:=(rfl)
@[simp] theorem AuH:GS 46=[0,1,2,3,8,47]:=(rfl)
@[simp] theorem ApY:bX 47=false:=(rfl)
@[simp] theorem As1:keepR 47=false:=(rfl)
@[simp] theorem AuG:GS 47=[0,2,4,12,13,14,15,16,21]:=(rfl)
@[simp] theorem ApX:bX 48=false:=(rfl)
@[simp] theorem As0:keepR 48=false:=(rfl)
@[simp] theorem AuF:GS 48=[0,1,2,6,7,8,9,10,31,60,87,92,106,118,119,120,137]:=(rfl)
@[simp] theorem ApW:bX 49=false:=(rfl)
@[simp] theorem ArZ:keepR 49=false:=(rfl)
@[simp] theorem AuE:GS 49=[0,4,5,6,7,8,16]:=(rfl)
@[simp] theorem ApV:bX 50=false:=(rfl)
@[simp] theorem ArY:keepR 50=false:=(rfl)
@[simp] theorem AuD:GS 50=[0,4,5,6,21]:=(rfl)
@[simp] theorem ApU:bX 51=false:=(rfl)
@[simp] theorem ArX:keepR 51=false:=(rfl)
@[simp] theorem AuC:GS 51=[0,1,4,5,6,7,8,16,38]:=(rfl)
@[simp] theorem ApT:bX 52=false:=(rfl)
@[simp] theorem ArW:keepR 52=false:=(rfl)
@[simp] theorem AuB:GS 52=[0,1,4,5,6,7,8,9,10,18,34]:=(rfl)
@[simp] theorem ApS:bX 53=false:=(rfl)
@[simp] theorem ArV:keepR 53=false:=(rfl)
@[simp] theorem AuA:GS 53=[0,4,5,6,7,8,16]:=(rfl)
@[simp] theorem ApR:bX 54=false:=(rfl)
@[simp] theorem ArU:keepR 54=false:=(rfl)
@[simp] theorem Au9:GS 54=[0,1,4,5,6,7,8,9,10,15,37,38,39]:=(rfl)
@[simp] theorem ApQ:bX 55=false:=(rfl)
@[simp] theorem ArT:keepR 55=false:=(rfl)
@[simp] theorem Au8:GS 55=[0,1,4,5,6,7,8,9,10,11,19,36,49]:=(rfl)
@[simp] theorem ApP:bX 56=false:=(rfl)
@[simp] theorem ArS:keepR 56=false:=(rfl)
@[simp] theorem Au7:GS 56=[0,4,5,6,7,8,16]:=(rfl)
@[simp] theorem ApO:bX 57=false:=(rfl)
@[simp] theorem ArR:keepR 57=false:=(rfl)
@[simp] theorem Au6:GS 57=[0,4,5,30]:=(rfl)
@[simp] theorem ApN:bX 58=false:=(rfl)
@[simp] theorem ArQ:keepR 58=false:=(rfl)
@[simp] theorem Au5:GS 58=[0,1,4,5,6,7,8,9,17]:=(rfl)
@[simp] theorem ApM:bX 59=false:=(rfl)
@[simp] theorem ArP:keepR 59=false:=(rfl)
@[simp] theorem Au4:GS 59=[0,1,4,5,6,7,8,9,10,11,26,50,51,52,71]:=(rfl)
@[simp] theorem ApL:bX 60=false:=(rfl)
@[simp] theorem ArO:keepR 60=true:=(rfl)
@[simp] theorem Au3:GS 60=[0,2,3,6]:=(rfl)
@[simp] theorem ApK:bX 61=true:=(rfl)
@[simp] theorem Au2:GS 61=[0,2,3,4,5,6,13,37,38,39]:=(rfl)
@[simp] theorem ApJ:bX 62=false:=(rfl)
@[simp] theorem ArN:keepR 62=true:=(rfl)
@[simp] theorem Au1:GS 62=[0,2,3,6]:=(rfl)
@[simp] theorem ApI:bX 63=false:=(rfl)
@[simp] theorem ArM:keepR 63=true:=(rfl)
@[simp] theorem Au0:GS 63=[0,2,3,6]:=(rfl)
@[simp] theorem ApH:bX 64=false:=(rfl)
@[simp] theorem ArL:keepR 64=false:=(rfl)
@[simp] theorem AtZ:GS 64=[0,1,4,5,6,11,16]:=(rfl)
@[simp] theorem ApG:bX 71=false:=(rfl)
@[simp] theorem ArK:keepR 71=false:=(rfl)
@[simp] theorem AtY:GS 71=[0,1,4,5,10,14,25]:=(rfl)
@[simp] theorem ApF:bX 74=false:=(rfl)
@[simp] theorem ArJ:keepR 74=false:=(rfl)
@[simp] theorem AtX:GS 74=[0,1,2,4,8]:=(rfl)
@[simp] theorem ApE:bX 75=true:=(rfl)
@[simp] theorem ArI:keepR 75=false:=(rfl)
@[simp] theorem AtW:GS 75=[0,2,3,4,9]:=(rfl)
@[simp] theorem ApD:bX 76=false:=(rfl)
@[simp] theorem ArH:keepR 76=false:=(rfl)
@[simp] theorem AtV:GS 76=[0,1,2,4,5,6,10,22]:=(rfl)
@[simp] theorem ApC:bX 77=false:=(rfl)
@[simp] theorem ArG:keepR 77=false:=(rfl)
@[simp] theorem AtU:GS 77=[0,1,2,3,6,7,8,9,10,11,12,13,14,24,71,99,120]:=(rfl)
@[simp] theorem ApB:bX 78=false:=(rfl)
@[simp] theorem ArF:keepR 78=false:=(rfl)
@[simp] theorem AtT:GS 78=[0,1,2,3,5,6,7,10]:=(rfl)
@[simp] theorem Ap9:bX 79=false:=(rfl)
@[simp] theorem ArE:keepR 79=false:=(rfl)
@[simp] theorem AtS:GS 79=[0,1,2,3,4]:=(rfl)
@[simp] theorem Ap8:bX 80=true:=(rfl)
@[simp] theorem ArD:keepR 80=false:=(rfl)
@[simp] theorem AtQ:GS 80=[0,1,4,5,6,18]:=(rfl)
@[simp] theorem Ap7:bX 81=true:=(rfl)
@[simp] theorem ArC:keepR 81=false:=(rfl)
@[simp] theorem AtO:GS 81=[0,1,4]:=(rfl)
@[simp] theorem Ap6:bX 82=true:=(rfl)
@[simp] theorem ArB:keepR 82=true:=(rfl)
@[simp] theorem AtN:GS 82=[0,1,4,5,10,11,17,24]:=(rfl)
@[simp] theorem Ap5:bX 83=true:=(rfl)
@[simp] theorem ArA:keepR 83=true:=(rfl)
@[simp] theorem AtM:GS 83=[0,1,2,6,7,8,15]:=(rfl)
@[simp] theorem Ap4:bX 84=false:=(rfl)
@[simp] theorem Ar9:keepR 84=true:=(rfl)
@[simp] theorem AtL:GS 84=[0,2]:=(rfl)
@[simp] theorem Ap3:bX 85=true:=(rfl)
@[simp] theorem Ar8:keepR 85=true:=(rfl)
@[simp] theorem AtJ:GS 85=[0,1,4,5,10,11,14,18]:=(rfl)
@[simp] theorem Ap2:bX 86=false:=(rfl)
@[simp] theorem Ar7:keepR 86=false:=(rfl)
@[simp] theorem AtI:GS 86=[0,1,2,3,4,14,16,17,18,19,32,45]:=(rfl)
@[simp] theorem Ap1:bX 87=false:=(rfl)
@[simp] theorem Ar6:keepR 87=true:=(rfl)
@[simp] theorem AtH:GS 87=[0,1,2]:=(rfl)
@[simp] theorem Ap0:bX 88=false:=(rfl)
@[simp] theorem Ar5:keepR 88=true:=(rfl)
@[simp] theorem AtG:GS 88=[0,1,2,3,4]:=(rfl)
@[simp] theorem AoZ:bX 89=false:=(rfl)
@[simp] theorem Ar4:keepR 89=true:=(rfl)
@[simp] theorem AtF:GS 89=[0,1,2,3,4]:=(rfl)
@[simp] theorem AoY:bX 90=false:=(rfl)
@[simp] theorem Ar3:keepR 90=true:=(rfl)
@[simp] theorem AtE:GS 90=[0,1,2,3,4,5,6]:=(rfl)
@[simp] theorem AoX:bX 91=false:=(rfl)
@[simp] theorem Ar2:keepR 91=false:=(rfl)
@[simp] theorem AtC:GS 91=[0,2,3,5,6,8,9,10,11,12,20,25,26,27,28]:=(rfl)
@[simp] theorem AoW:bX 92=false:=(rfl)
@[simp] theorem Ar1:keepR 92=true:=(rfl)
@[simp] theorem AtB:GS 92=[0,1,2]:=(rfl)
@[simp] theorem AoV:bX 93=false:=(rfl)
@[simp] theorem Ar0:keepR 93=true:=(rfl)
@[simp] theorem AtA:GS 93=[0,1,2,3,4]:=(rfl)
@[simp] theorem AoU:bX 94=true:=(rfl)
@[simp] theorem AqZ:keepR 94=false:=(rfl)
@[simp] theorem At9:GS 94=[0,1,2,4,5,6,7,8,11]:=(rfl)
@[simp] theorem AoT:bX 95=false:=(rfl)
@[simp] theorem AqY:keepR 95=false:=(rfl)
@[simp] theorem At8:GS 95=[0,1,2,6]:=(rfl)
@[simp] theorem AoS:bX 96=false:=(rfl)
@[simp] theorem AqX:keepR 96=false:=(rfl)
@[simp] theorem At7:GS 96=[0,1,2,3,4,6,7,9,12,14,16]:=(rfl)
@[simp] theorem AoR:bX 97=false:=(rfl)
@[simp] theorem AqW:keepR 97=false:=(rfl)
@[simp] theorem At6:GS 97=[0,1,2,4]:=(rfl)
@[simp] theorem AoQ:bX 98=false:=(rfl)
@[simp] theorem AqV:keepR 98=false:=(rfl)
@[simp] theorem At4:GS 98=[0,1,4,5,9,18,21]:=(rfl)
@[simp] theorem AoP:bX 99=false:=(rfl)
@[simp] theorem AqU:keepR 99=false:=(rfl)
@[simp] theorem At3:GS 99=[0,1,4,5,9,35]:=(rfl)
@[simp] theorem AhZ:bX 100=false:=(rfl)
@[simp] theorem AkO:keepR 100=false:=(rfl)
@[simp] theorem AnH:GS 100=[0,2,3,7,15]:=(rfl)
@[simp] theorem AhY:bX 101=false:=(rfl)
@[simp] theorem AkN:keepR 101=false:=(rfl)
@[simp] theorem AnG:GS 101=[0,1,4,5,6,16,29]:=(rfl)
@[simp] theorem AhX:bX 102=false:=(rfl)
@[simp] theorem AkM:keepR 102=false:=(rfl)
@[simp] theorem AnF:GS 102=[0,2]:=(rfl)
@[simp] theorem AhW:bX 103=false:=(rfl)
@[simp] theorem AkL:keepR 103=false:=(rfl)
@[simp] theorem AnE:GS 103=[0,2,3,4,5,7,10,13,15]:=(rfl)
@[simp] theorem AhV:bX 104=false:=(rfl)
@[simp] theorem AkK:keepR 104=false:=(rfl)
@[simp] theorem AnD:GS 104=[0,1,2,6,7,8,13,14,21,22,26,27,35,46,47,48,59,65]:=(rfl)
@[simp] theorem AhU:bX 105=false:=(rfl)
@[simp] theorem AkJ:keepR 105=false:=(rfl)
@[simp] theorem AnC:GS 105=[0,1,4,5,6,22]:=(rfl)
@[simp] theorem AhT:bX 106=false:=(rfl)
@[simp] theorem AkI:keepR 106=false:=(rfl)
@[simp] theorem AnB:GS 106=[0,1,2,3,4]:=(rfl)
@[simp] theorem AhS:bX 107=false:=(rfl)
@[simp] theorem AkH:keepR 107=false:=(rfl)
@[simp] theorem AnA:GS 107=[0,1,2,3,4]:=(rfl)
@[simp] theorem AhR:bX 108=false:=(rfl)
@[simp] theorem AkG:keepR 108=false:=(rfl)
@[simp] theorem An9:GS 108=[0,2,3,4,9,19,20,21]:=(rfl)
@[simp] theorem AhQ:bX 109=false:=(rfl)
@[simp] theorem AkF:keepR 109=false:=(rfl)
@[simp] theorem An8:GS 109=[0,1,2,3,5,6,7,8]:=(rfl)
@[simp] theorem AhP:bX 110=false:=(rfl)
@[simp] theorem AkE:keepR 110=false:=(rfl)
@[simp] theorem An7:GS 110=[0,1,3,4]:=(rfl)
@[simp] theorem AhO:bX 111=true:=(rfl)
@[simp] theorem AkD:keepR 111=false:=(rfl)
@[simp] theorem An6:GS 111=[0,1,3]:=(rfl)
@[simp] theorem AhN:bX 112=true:=(rfl)
@[simp] theorem AkC:keepR 112=false:=(rfl)
@[simp] theorem An5:GS 112=[0,1,2,4,7]:=(rfl)
@[simp] theorem AhM:bX 113=false:=(rfl)
@[simp] theorem AkB:keepR 113=false:=(rfl)
@[simp] theorem An4:GS 113=[0,2]:=(rfl)
@[simp] theorem AhL:bX 114=false:=(rfl)
@[simp] theorem AkA:keepR 114=false:=(rfl)
@[simp] theorem An3:GS 114=[0,1,2,3,6,7,8,10,14,18,19,20,26,27,28,29,38]:=(rfl)
@[simp] theorem AhK:bX 115=false:=(rfl)
@[simp] theorem Ak9:keepR 115=false:=(rfl)
@[simp] theorem An2:GS 115=[0,1,2,3,4,6,7,8,9,14,20,21,22,30,42]:=(rfl)
@[simp] theorem AhJ:bX 116=false:=(rfl)
@[simp] theorem Ak8:keepR 116=true:=(rfl)
@[simp] theorem An1:GS 116=[0,1,4,5,6,7,8,13,24]:=(rfl)
@[simp] theorem AhI:bX 124=false:=(rfl)
@[simp] theorem Ak7:keepR 124=false:=(rfl)
@[simp] theorem An0:GS 124=[0,1,2,4,5,6,7,8,9,11,20,24,42]:=(rfl)
@[simp] theorem AhH:bX 125=false:=(rfl)
@[simp] theorem Ak6:keepR 125=false:=(rfl)
@[simp] theorem AmZ:GS 125=[0,1,2,3,6,7,8,9,10,11,12,13,14,26,42,62,81,112,150,169,190,212]:=(rfl)
@[simp] theorem AhG:bX 126=false:=(rfl)
@[simp] theorem Ak5:keepR 126=true:=(rfl)
@[simp] theorem AmY:GS 126=[0,1,4,5,6,10]:=(rfl)
@[simp] theorem AhF:bX 127=false:=(rfl)
@[simp] theorem Ak4:keepR 127=false:=(rfl)
@[simp] theorem AmX:GS 127=[0,1,2,4,5,6,9,27]:=(rfl)
@[simp] theorem AhE:bX 128=false:=(rfl)
@[simp] theorem Ak3:keepR 128=true:=(rfl)
@[simp] theorem AmW:GS 128=[0,1,2,3,4,5,19,37]:=(rfl)
@[simp] theorem AhD:bX 129=true:=(rfl)
@[simp] theorem Ak2:keepR 129=false:=(rfl)
@[simp] theorem AmV:GS 129=[0,1,4,5,6,7,8,9,10,11,12,31,44,45,54,62,77,88,110,122,128,146,151,154]:=(rfl)
@[simp] theorem AhC:bX 130=false:=(rfl)
@[simp] theorem Ak1:keepR 130=false:=(rfl)
@[simp] theorem AmU:GS 130=[0,1,2,3,4]:=(rfl)
@[simp] theorem AhB:bX 131=true:=(rfl)
@[simp] theorem Ak0:keepR 131=false:=(rfl)
@[simp] theorem AmT:GS 131=[0,1,4]:=(rfl)
@[simp] theorem AhA:bX 132=true:=(rfl)
@[simp] theorem AjZ:keepR 132=false:=(rfl)
@[simp] theorem AmS:GS 132=[0,1,2,6,7,8,9,10,18,21,37]:=(rfl)
@[simp] theorem Ah9:bX 133=true:=(rfl)
@[simp] theorem AjY:keepR 133=false:=(rfl)
@[simp] theorem AmR:GS 133=[0,2,3,7,8,11]:=(rfl)
@[simp] theorem Ah8:bX 134=true:=(rfl)
@[simp] theorem AjX:keepR 134=true:=(rfl)
@[simp] theorem AmQ:GS 134=[0,1,4,5,6,10]:=(rfl)
@[simp] theorem Ah7:bX 135=false:=(rfl)
@[simp] theorem AjW:keepR 135=false:=(rfl)
@[simp] theorem AmP:GS 135=[0,2,4,8,9,10,11,12,17]:=(rfl)
@[simp] theorem Ah6:bX 136=false:=(rfl)
@[simp] theorem AjV:keepR 136=false:=(rfl)
@[simp] theorem AmO:GS 136=[0,1,4]:=(rfl)
@[simp] theorem AjU:keepR 137=false:=(rfl)
@[simp] theorem AmN:GS 137=[0,1,4,5,6,7,8,14]:=(rfl)
@[simp] theorem AjT:keepR 138=false:=(rfl)
@[simp] theorem AmM:GS 138=[0,1,2,5,7,8,9,10,27]:=(rfl)
@[simp] theorem Ah5:bX 139=false:=(rfl)
@[simp] theorem AjS:keepR 139=false:=(rfl)
@[simp] theorem AmL:GS 139=[0,1,2,3,6]:=(rfl)
@[simp] theorem Ah4:bX 140=false:=(rfl)
@[simp] theorem AjR:keepR 140=false:=(rfl)
@[simp] theorem AmK:GS 140=[0,1,4,5,9,10,19,35,36,42]:=(rfl)
@[simp] theorem AjQ:keepR 141=false:=(rfl)
@[simp] theorem AmJ:GS 141=[0,1,2,4,6,7,15,16,17,18,25,26,27,44]:=(rfl)
@[simp] theorem AjP:keepR 142=false:=(rfl)
@[simp] theorem AmI:GS 142=[0,1,2,3,5,7,8,10,11,19,20,21,22,29,30,31,32,49,53,62,68,78]:=(rfl)
@[simp] theorem Ah3:bX 143=false:=(rfl)
@[simp] theorem AjO:keepR 143=false:=(rfl)
@[simp] theorem AmH:GS 143=[0]:=(rfl)
@[simp] theorem AjN:keepR 145=false:=(rfl)
@[simp] theorem AmG:GS 145=[0,1,3,4,5,6,7,8,23,27]:=(rfl)
@[simp] theorem AjM:keepR 146=false:=(rfl)
@[simp] theorem AmF:GS 146=[0,1,2,5,11,12,13,14,32]:=(rfl)
@[simp] theorem Ah2:bX 147=false:=(rfl)
@[simp] theorem AjL:keepR 147=false:=(rfl)
@[simp] theorem AmE:GS 147=[0,1,2,3,4,5,6,7,8,9,10,18,19,20,21,37]:=(rfl)
@[simp] theorem Ah1:bX 148=false:=(rfl)
@[simp] theorem AjK:keepR 148=true:=(rfl)
@[simp] theorem AmD:GS 148=[0,1,4,5,7,8,9,10,11]:=(rfl)
@[simp] theorem Ah0:bX 149=false:=(rfl)
@[simp] theorem AjJ:keepR 149=false:=(rfl)
@[simp] theorem AmC:GS 149=[0,2]:=(rfl)
@[simp] theorem AgZ:bX 150=true:=(rfl)
@[simp] theorem AjI:keepR 150=false:=(rfl)
@[simp] theorem AmB:GS 150=[0,2,3,6]:=(rfl)
@[simp] theorem AgY:bX 151=true:=(rfl)
@[simp] theorem AgX:bX 152=false:=(rfl)
@[simp] theorem AjH:keepR 152=false:=(rfl)
@[simp] theorem AmA:GS 152=[0,1,2,3,6,7,24,29,41,43,44,57]:=(rfl)
@[simp] theorem AgW:bX 153=false:=(rfl)
@[simp] theorem AjG:keepR 153=false:=(rfl)
@[simp] theorem Am9:GS 153=[0,1,2]:=(rfl)
@[simp] theorem AgV:bX 154=false:=(rfl)
@[simp] theorem AjF:keepR 154=false:=(rfl)
@[simp] theorem Am8:GS 154=[0,1,2,3,4,5,9]:=(rfl)
@[simp] theorem AgU:bX 155=false:=(rfl)
@[simp] theorem AjE:keepR 155=false:=(rfl)
@[simp] theorem Am7:GS 155=[0,1,4,5,7,10,11,12,13,14,24]:=(rfl)
@[simp] theorem AgT:bX 156=false:=(rfl)
@[simp] theorem AjD:keepR 156=false:=(rfl)
@[simp] theorem Am6:GS 156=[0,1,2,4]:=(rfl)
@[simp] theorem AgS:bX 157=false:=(rfl)
@[simp] theorem AjC:keepR 157=false:=(rfl)
@[simp] theorem Am5:GS 157=[0,1,4,5,6,12,39,40,41]:=(rfl)
@[simp] theorem AgR:bX 158=true:=(rfl)
@[simp] theorem AjB:keepR 158=false:=(rfl)
@[simp] theorem Am4:GS 158=[0,1,3,8]:=(rfl)
@[simp] theorem AgQ:bX 159=false:=(rfl)
@[simp] theorem AjA:keepR 159=false:=(rfl)
@[simp] theorem Am3:GS 159=[0,1,4,5,6,10,11,20,37,38,50,54,59]:=(rfl)
@[simp] theorem AgP:bX 160=false:=(rfl)
@[simp] theorem Aj9:keepR 160=false:=(rfl)
@[simp] theorem Am2:GS 160=[0,2,3,4,9,10,11]:=(rfl)
@[simp] theorem AgO:bX 161=false:=(rfl)
@[simp] theorem Aj8:keepR 161=false:=(rfl)
@[simp] theorem Am1:GS 161=[0,1,2,6,7,27,32,33,34,46]:=(rfl)
@[simp] theorem AgN:bX 162=true:=(rfl)
@[simp] theorem Aj7:keepR 162=false:=(rfl)
@[simp] theorem Am0:GS 162=[0,1,3,8]:=(rfl)
@[simp] theorem AgM:bX 163=false:=(rfl)
@[simp] theorem Aj6:keepR 163=false:=(rfl)
@[simp] theorem AlZ:GS 163=[0,1,2,3,6]:=(rfl)
@[simp] theorem AgL:bX 164=false:=(rfl)
@[simp] theorem Aj5:keepR 164=false:=(rfl)
@[simp] theorem AlY:GS 164=[0,2,4]:=(rfl)
@[simp] theorem AgK:bX 165=false:=(rfl)
@[simp] theorem Aj4:keepR 165=false:=(rfl)
@[simp] theorem AlX:GS 165=[0,2,4]:=(rfl)
@[simp] theorem AgJ:bX 167=false:=(rfl)
@[simp] theorem Aj3:keepR 167=false:=(rfl)
@[simp] theorem AlW:GS 167=[0,1,2,4,5,6,7,8,16,32,34,35,43,51,59]:=(rfl)
@[simp] theorem AgI:bX 168=true:=(rfl)
@[simp] theorem Aj2:keepR 168=true:=(rfl)
@[simp] theorem AlV:GS 168=[0,1,2,4,6,7,18]:=(rfl)
@[simp] theorem AgH:bX 169=false:=(rfl)
@[simp] theorem Aj1:keepR 169=false:=(rfl)
@[simp] theorem AlU:GS 169=[0,1,2,3,6,7]:=(rfl)
@[simp] theorem AgG:bX 170=false:=(rfl)
@[simp] theorem Aj0:keepR 170=false:=(rfl)
@[simp] theorem AlT:GS 170=[0,1,2,3,6]:=(rfl)
@[simp] theorem AgF:bX 171=false:=(rfl)
@[simp] theorem AiZ:keepR 171=false:=(rfl)
@[simp] theorem AlS:GS 171=[0,1,4,5,6,11]:=(rfl)
@[simp] theorem AgE:bX 172=false:=(rfl)
@[simp] theorem AiY:keepR 172=false:=(rfl)
@[simp] theorem AlR:GS 172=[0,1,2,3,4,16]:=(rfl)
@[simp] theorem AgD:bX 173=true:=(rfl)
@[simp] theorem AiX:keepR 173=false:=(rfl)
@[simp] theorem AlQ:GS 173=[0,1,2,6,7,8,9,20,32,33,34,39,46,59,66]:=(rfl)
@[simp] theorem AgC:bX 174=false:=(rfl)
@[simp] theorem AiW:keepR 174=false:=(rfl)
@[simp] theorem AlP:GS 174=[0,1,2]:=(rfl)
@[simp] theorem AgB:bX 175=true:=(rfl)
@[simp] theorem AiV:keepR 175=false:=(rfl)
@[simp] theorem AlO:GS 175=[0,2,5]:=(rfl)
@[simp] theorem AgA:bX 176=false:=(rfl)
@[simp] theorem AiU:keepR 176=false:=(rfl)
@[simp] theorem AlN:GS 176=[0,2,3,4,7,10]:=(rfl)
@[simp] theorem Ag9:bX 177=false:=(rfl)
@[simp] theorem AiT:keepR 177=false:=(rfl)
@[simp] theorem AlM:GS 177=[0,1,2,4]:=(rfl)
@[simp] theorem Ag8:bX 178=false:=(rfl)
@[simp] theorem AiS:keepR 178=false:=(rfl)
@[simp] theorem AlL:GS 178=[0,1,2,6,7,8,9,10,11,12,13,14,21,31,38]:=(rfl)
@[simp] theorem Ag7:bX 179=false:=(rfl)
@[simp] theorem AiR:keepR 179=false:=(rfl)
@[simp] theorem AlK:GS 179=[0,1,2,3,4,5,12,15]:=(rfl)
@[simp] theorem Ag6:bX 180=false:=(rfl)
@[simp] theorem AiQ:keepR 180=false:=(rfl)
@[simp] theorem AlJ:GS 180=[0,2,4]:=(rfl)
@[simp] theorem Ag5:bX 181=false:=(rfl)
@[simp] theorem AiP:keepR 181=false:=(rfl)
@[simp] theorem AlI:GS 181=[0,2,3]:=(rfl)
@[simp] theorem Ag4:bX 182=false:=(rfl)
@[simp] theorem AiO:keepR 182=false:=(rfl)
@[simp] theorem AlH:GS 182=[0,1,2,4,5,6,7,16,25,33,34,42,50,58]:=(rfl)
@[simp] theorem Ag3:bX 183=false:=(rfl)
@[simp] theorem AiN:keepR 183=true:=(rfl)
@[simp] theorem AlG:GS 183=[0,2,3,6]:=(rfl)
@[simp] theorem Ag2:bX 184=true:=(rfl)
@[simp] theorem AiM:keepR 184=false:=(rfl)
@[simp] theorem AlF:GS 184=[0,1,2,5]:=(rfl)
@[simp] theorem Ag1:bX 185=true:=(rfl)
@[simp] theorem AiL:keepR 185=false:=(rfl)
@[simp] theorem AlE:GS 185=[0,1]:=(rfl)
@[simp] theorem Ag0:bX 188=false:=(rfl)
@[simp] theorem AiK:keepR 188=false:=(rfl)
@[simp] theorem AlD:GS 188=[0,1,2,6,7,8,28,62,90,95,96,97,109]:=(rfl)
@[simp] theorem AfZ:bX 189=false:=(rfl)
@[simp] theorem AiJ:keepR 189=false:=(rfl)
@[simp] theorem AlC:GS 189=[0,1,2,3,6]:=(rfl)
@[simp] theorem AfY:bX 190=false:=(rfl)
@[simp] theorem AiI:keepR 190=false:=(rfl)
@[simp] theorem AlB:GS 190=[0,1,2,6,7,9,11,17,19,20,21,22,26,27,28,29,46,54,66]:=(rfl)
@[simp] theorem AfX:bX 191=false:=(rfl)
@[simp] theorem AiH:keepR 191=false:=(rfl)
@[simp] theorem AlA:GS 191=[0,1,4,5,12]:=(rfl)
@[simp] theorem AfW:bX 193=false:=(rfl)
@[simp] theorem AiG:keepR 193=false:=(rfl)
@[simp] theorem Al9:GS 193=[0,1,3,4,5,8,17]:=(rfl)
@[simp] theorem AfV:bX 194=false:=(rfl)
@[simp] theorem AiF:keepR 194=false:=(rfl)
@[simp] theorem Al8:GS 194=[0,1,2,4,5,6,7,9,10,17,29,30,42,46,49,66,76,84,89]:=(rfl)
@[simp] theorem AfU:bX 195=false:=(rfl)
@[simp] theorem AiE:keepR 195=false:=(rfl)
@[simp] theorem Al7:GS 195=[0,1,4,5,6,7,8,12,18,26]:=(rfl)
@[simp] theorem AfT:bX 196=false:=(rfl)
@[simp] theorem AiD:keepR 196=false:=(rfl)
@[simp] theorem Al6:GS 196=[0,1,4,5,6,11,12,13,16,19]:=(rfl)
@[simp] theorem AfS:bX 197=false:=(rfl)
@[simp] theorem AiC:keepR 197=false:=(rfl)
@[simp] theorem Al5:GS 197=[0,2,3,7]:=(rfl)
@[simp] theorem AfR:bX 198=true:=(rfl)
@[simp] theorem AiB:keepR 198=false:=(rfl)
@[simp] theorem Al4:GS 198=[0,1,2,6,7,8,9,13,30,35,54]:=(rfl)
@[simp] theorem AfQ:bX 199=true:=(rfl)
@[simp] theorem AiA:keepR 199=false:=(rfl)
@[simp] theorem Al3:GS 199=[0,1,2,3,8,9,14,34]:=(rfl)
@[simp] theorem AfP:bX 209=false:=(rfl)
@[simp] theorem Ai9:keepR 209=false:=(rfl)
@[simp] theorem Al2:GS 209=[0,2,3,4,7,10]:=(rfl)
@[simp] theorem AfO:bX 210=false:=(rfl)
@[simp] theorem Ai8:keepR 210=false:=(rfl)
@[simp] theorem Al1:GS 210=[0,2,3,5,9,10,11,12,19]:=(rfl)
@[simp] theorem AfN:bX 211=false:=(rfl)
@[simp] theorem Ai7:keepR 211=false:=(rfl)
@[simp] theorem Al0:GS 211=[0,1,4,5,6,18,32]:=(rfl)
@[simp] theorem AfM:bX 212=false:=(rfl)
@[simp] theorem Ai6:keepR 212=false:=(rfl)
@[simp] theorem AkZ:GS 212=[0,1,2,3,6]:=(rfl)
@[simp] theorem AfL:bX 213=false:=(rfl)
@[simp] theorem Ai5:keepR 213=false:=(rfl)
@[simp] theorem AkY:GS 213=[0,1,2,6,7,8,9,11,15,29]:=(rfl)
@[simp] theorem AfK:bX 214=false:=(rfl)
@[simp] theorem Ai4:keepR 214=false:=(rfl)
@[simp] theorem AkX:GS 214=[0,2]:=(rfl)
@[simp] theorem AfJ:bX 215=true:=(rfl)
@[simp] theorem Ai3:keepR 215=false:=(rfl)
@[simp] theorem AkW:GS 215=[0,1,2,3,4,10,11,12,13,14,15,16,17,18,19,20,21,22,23,24,28,33,50,58,80,85,103,110,140,151,171,185,199,213]:=(rfl)
@[simp] theorem AfI:bX 221=false:=(rfl)
@[simp] theorem Ai2:keepR 221=false:=(rfl)
@[simp] theorem AkV:GS 221=[0,2,3,4,7]:=(rfl)
@[simp] theorem AfH:bX 222=true:=(rfl)
@[simp] theorem Ai1:keepR 222=false:=(rfl)
@[simp] theorem AkU:GS 222=[0,1,2,3,4,10,11,20,23]:=(rfl)
@[simp] theorem AfG:bX 224=true:=(rfl)
@[simp] theorem Ai0:keepR 224=false:=(rfl)
@[simp] theorem AkT:GS 224=[0,1,2,3,10,13]:=(rfl)
@[simp] theorem AvC:MU 88=true:=(rfl)
noncomputable def AUE:FuncId→Option (List AV→StL→Option (AV×StL))
 | 61=>some N8
 | 29=>some AB9
 | _=>none
noncomputable def C0:Ctx:={ P:=Tryz.prog,G:=GS,ownArgs:=bX,keepRes:=keepR,eqT:=MU,prim:=AUE }
@[simp] theorem dk3:bN Tryz.prog 3=some (.int .i64):=by kernel_rfl
@[simp] theorem sz3:jU Tryz.prog 3=some 1:=by kernel_rfl
@[simp] theorem by3:U7 Tryz.prog 3=some 8:=by kernel_rfl
@[simp] theorem ze3:zeroOf Tryz.prog 3=some [(.int .i64 0)]:=by kernel_rfl
@[simp] theorem dk4:bN Tryz.prog 4=some .bool:=by kernel_rfl
@[simp] theorem sz4:jU Tryz.prog 4=some 1:=by kernel_rfl
@[simp] theorem dk5:bN Tryz.prog 5=some (.int .u8):=by kernel_rfl
@[simp] theorem sz5:jU Tryz.prog 5=some 1:=by kernel_rfl
@[simp] theorem sz6:jU Tryz.prog 6=some 1:=by kernel_rfl
@[simp] theorem Ae8:jU Tryz.prog 10=some 1:=by kernel_rfl
@[simp] theorem AvV:bN Tryz.prog 22=some (.slice 5):=by kernel_rfl
@[simp] theorem AoM:jU Tryz.prog 22=some 1:=by kernel_rfl
@[simp] theorem AvU:bN Tryz.prog 23=some (.slice 90):=by kernel_rfl
@[simp] theorem AoL:jU Tryz.prog 23=some 1:=by kernel_rfl
@[simp] theorem AvT:bN Tryz.prog 24=some (.slice 3):=by kernel_rfl
@[simp] theorem AoK:jU Tryz.prog 24=some 1:=by kernel_rfl
@[simp] theorem Aw3:U7 Tryz.prog 24=some 24:=by kernel_rfl
@[simp] theorem Ao7:zeroOf Tryz.prog 24=some [(.slice none 0 0)]:=by kernel_rfl
@[simp] theorem AvS:bN Tryz.prog 25=some (.slice 27):=by kernel_rfl
@[simp] theorem AoJ:jU Tryz.prog 25=some 1:=by kernel_rfl
@[simp] theorem AvR:bN Tryz.prog 27=some .strct:=by kernel_rfl
@[simp] theorem AoI:jU Tryz.prog 27=some 5:=by kernel_rfl
@[simp] theorem Aw2:U7 Tryz.prog 27=some 88:=by kernel_rfl
@[simp] theorem Ao6:zeroOf Tryz.prog 27=some [(.int .i64 0),(.int .i64 0),(.slice none 0 0),(.slice none 0 0),(.slice none 0 0)]:=by kernel_rfl
@[simp] theorem AeW:gG Tryz.prog 27 0=some (3,0):=by kernel_rfl
@[simp] theorem AeV:gG Tryz.prog 27 1=some (3,1):=by kernel_rfl
@[simp] theorem AeU:gG Tryz.prog 27 2=some (23,2):=by kernel_rfl
@[simp] theorem AeT:gG Tryz.prog 27 3=some (24,3):=by kernel_rfl
@[simp] theorem AeS:gG Tryz.prog 27 4=some (25,4):=by kernel_rfl
@[simp] theorem AvQ:bN Tryz.prog 28=some (.slice 39):=by kernel_rfl
@[simp] theorem AvP:bN Tryz.prog 36=some .strct:=by kernel_rfl
@[simp] theorem AoH:jU Tryz.prog 36=some 2:=by kernel_rfl
@[simp] theorem Aw1:U7 Tryz.prog 36=some 32:=by kernel_rfl
@[simp] theorem Ao5:zeroOf Tryz.prog 36=some [(.int .i64 0),(.slice none 0 0)]:=by kernel_rfl
@[simp] theorem AeR:gG Tryz.prog 36 0=some (3,0):=by kernel_rfl
@[simp] theorem AeQ:gG Tryz.prog 36 1=some (24,1):=by kernel_rfl
@[simp] theorem AvO:bN Tryz.prog 37=some (.slice 102):=by kernel_rfl
@[simp] theorem AoG:jU Tryz.prog 37=some 1:=by kernel_rfl
@[simp] theorem Aw0:U7 Tryz.prog 37=some 24:=by kernel_rfl
@[simp] theorem Ao4:zeroOf Tryz.prog 37=some [(.slice none 0 0)]:=by kernel_rfl
@[simp] theorem AvN:bN Tryz.prog 39=some .strct:=by kernel_rfl
@[simp] theorem AoF:jU Tryz.prog 39=some 2:=by kernel_rfl
@[simp] theorem AvZ:U7 Tryz.prog 39=some 32:=by kernel_rfl
@[simp] theorem Ao3:zeroOf Tryz.prog 39=some [(.int .i64 0),(.slice none 0 0)]:=by kernel_rfl
@[simp] theorem AeP:gG Tryz.prog 39 0=some (3,0):=by kernel_rfl
@[simp] theorem AeO:gG Tryz.prog 39 1=some (37,1):=by kernel_rfl
@[simp] theorem AvM:bN Tryz.prog 45=some (.slice 36):=by kernel_rfl
@[simp] theorem AvL:bN Tryz.prog 52=some .other:=by kernel_rfl
@[simp] theorem AoE:jU Tryz.prog 52=some 1:=by kernel_rfl
@[simp] theorem AvK:bN Tryz.prog 56=some .other:=by kernel_rfl
@[simp] theorem At2:XN Tryz.prog 56=true:=by kernel_rfl
@[simp] theorem AoD:jU Tryz.prog 56=some 1:=by kernel_rfl
@[simp] theorem AvY:U7 Tryz.prog 56=some 8:=by kernel_rfl
@[simp] theorem Ao2:zeroOf Tryz.prog 56=some [(.pointer none)]:=by kernel_rfl
@[simp] theorem AvJ:bN Tryz.prog 71=some .other:=by kernel_rfl
@[simp] theorem AoC:jU Tryz.prog 71=some 1:=by kernel_rfl
@[simp] theorem AvI:bN Tryz.prog 74=some .strct:=by kernel_rfl
@[simp] theorem Ao1:zeroOf Tryz.prog 74=some [(.slice none 0 0),(.int .i64 0)]:=by kernel_rfl
@[simp] theorem AeN:gG Tryz.prog 74 0=some (22,0):=by kernel_rfl
@[simp] theorem AeM:gG Tryz.prog 74 1=some (3,1):=by kernel_rfl
@[simp] theorem AvH:bN Tryz.prog 83=some .other:=by kernel_rfl
@[simp] theorem AoB:jU Tryz.prog 83=some 1:=by kernel_rfl
@[simp] theorem AvG:bN Tryz.prog 84=some (.array 12 83):=by kernel_rfl
@[simp] theorem AoA:jU Tryz.prog 84=some 12:=by kernel_rfl
@[simp] theorem Ao0:zeroOf Tryz.prog 84=some [(.nilFunc),(.nilFunc),(.nilFunc),(.nilFunc),(.nilFunc),(.nilFunc),(.nilFunc),(.nilFunc),(.nilFunc),(.nilFunc),(.nilFunc),(.nilFunc)]:=by kernel_rfl
@[simp] theorem AvF:bN Tryz.prog 85=some (.slice 56):=by kernel_rfl
@[simp] theorem AvE:bN Tryz.prog 88=some .strct:=by kernel_rfl
@[simp] theorem Ao9:jU Tryz.prog 88=some 2:=by kernel_rfl
@[simp] theorem AvX:U7 Tryz.prog 88=some 16:=by kernel_rfl
@[simp] theorem AnZ:zeroOf Tryz.prog 88=some [(.bool false),(.int .i64 0)]:=by kernel_rfl
@[simp] theorem AeL:gG Tryz.prog 88 0=some (4,0):=by kernel_rfl
@[simp] theorem AeK:gG Tryz.prog 88 1=some (3,1):=by kernel_rfl
@[simp] theorem AvD:bN Tryz.prog 90=some .strct:=by kernel_rfl
@[simp] theorem Ao8:jU Tryz.prog 90=some 5:=by kernel_rfl
@[simp] theorem AvW:U7 Tryz.prog 90=some 56:=by kernel_rfl
@[simp] theorem AnY:zeroOf Tryz.prog 90=some [(.int .i64 0),(.int .i64 0),(.bool false),(.int .i64 0),(.slice none 0 0)]:=by kernel_rfl
@[simp] theorem AeJ:gG Tryz.prog 90 0=some (3,0):=by kernel_rfl
@[simp] theorem AeI:gG Tryz.prog 90 1=some (3,1):=by kernel_rfl
@[simp] theorem AeH:gG Tryz.prog 90 2=some (88,2):=by kernel_rfl
@[simp] theorem AeG:gG Tryz.prog 90 3=some (23,4):=by kernel_rfl
@[simp] theorem AnS:bN Tryz.prog 102=some (.slice 88):=by kernel_rfl
@[simp] theorem AfB:jU Tryz.prog 102=some 1:=by kernel_rfl
@[simp] theorem AnV:U7 Tryz.prog 102=some 24:=by kernel_rfl
@[simp] theorem Af8:zeroOf Tryz.prog 102=some [(.slice none 0 0)]:=by kernel_rfl
@[simp] theorem AnR:bN Tryz.prog 116=some (.array 2 39):=by kernel_rfl
@[simp] theorem Af7:zeroOf Tryz.prog 116=some [(.int .i64 0),(.slice none 0 0),(.int .i64 0),(.slice none 0 0)]:=by kernel_rfl
@[simp] theorem AnQ:bN Tryz.prog 134=some (.array 2 3):=by kernel_rfl
@[simp] theorem Af6:zeroOf Tryz.prog 134=some [(.int .i64 0),(.int .i64 0)]:=by kernel_rfl
@[simp] theorem AnP:bN Tryz.prog 136=some .other:=by kernel_rfl
@[simp] theorem AfA:jU Tryz.prog 136=some 1:=by kernel_rfl
@[simp] theorem AnU:U7 Tryz.prog 136=some 8:=by kernel_rfl
@[simp] theorem Af5:zeroOf Tryz.prog 136=some [(.pointer none)]:=by kernel_rfl
@[simp] theorem AnO:bN Tryz.prog 148=some (.slice 136):=by kernel_rfl
@[simp] theorem AnN:bN Tryz.prog 162=some .strct:=by kernel_rfl
@[simp] theorem Af4:zeroOf Tryz.prog 162=some [(.pointer none),(.slice none 0 0),(.int .i64 0),(.int .i64 0)]:=by kernel_rfl
@[simp] theorem AdE:gG Tryz.prog 162 0=some (52,0):=by kernel_rfl
@[simp] theorem AdD:gG Tryz.prog 162 1=some (24,1):=by kernel_rfl
@[simp] theorem AdC:gG Tryz.prog 162 2=some (3,2):=by kernel_rfl
@[simp] theorem AdB:gG Tryz.prog 162 3=some (3,3):=by kernel_rfl
@[simp] theorem AnM:bN Tryz.prog 170=some (.slice 37):=by kernel_rfl
@[simp] theorem AnL:bN Tryz.prog 183=some (.slice 24):=by kernel_rfl
@[simp] theorem AnK:bN Tryz.prog 193=some (.int .u64):=by kernel_rfl
end Go.Proofs.YtnmimmaahhlgeaaGreat
namespace Go.Av
def fnT (fn:Func):Bool:=(fn.name != "runtime.NumGoroutine") && match fn.body with
 | some c=>codeOk fn.ntmps c
 | none=>true
theorem AHB {α:Type} {p:α→Bool} {l:List α} (c n:Nat) (hc:0<c) (hl:l.length≤c*n) (h:∀ i,i<n→((l.drop (c*i)).take c).all p=true):l.all p=true:=by
 rw[zR];intro x hx;obtain⟨j,hj,rfl⟩:=List.getElem_of_mem hx;have hd:c*(j / c)+j % c=j:=Nat.div_add_mod j c;have hm:j % c<c:=Nat.mod_lt _ hc
 have hi:j / c<n:=by
  rw[Nat.div_lt_iff_lt_mul hc,yT];omega
 refine zR.1 (h (j / c) hi) _ ?_;refine zV (i:=j % c) ?_;rw[zD,if_pos hm,yM,hd,zX hj]
theorem ALA {P:Program} (h:P.funcs.toList.all fnT=true):AD5 P=true:=h
end Go.Av
namespace Go.Proofs.YtnmimmaahhlgeaaGreat
open Go Go.Av
set_option maxHeartbeats 2000000
theorem ft:MO Tryz.prog=true:=by kernel_rfl
theorem nt0:((Tryz.prog.funcs.toList.drop (25*0)).take 25).all fnT=true:=by kernel_rfl
theorem nt1:((Tryz.prog.funcs.toList.drop (25*1)).take 25).all fnT=true:=by kernel_rfl
theorem nt2:((Tryz.prog.funcs.toList.drop (25*2)).take 25).all fnT=true:=by kernel_rfl
theorem nt3:((Tryz.prog.funcs.toList.drop (25*3)).take 25).all fnT=true:=by kernel_rfl
theorem nt4:((Tryz.prog.funcs.toList.drop (25*4)).take 25).all fnT=true:=by kernel_rfl
theorem nt5:((Tryz.prog.funcs.toList.drop (25*5)).take 25).all fnT=true:=by kernel_rfl
theorem nt6:((Tryz.prog.funcs.toList.drop (25*6)).take 25).all fnT=true:=by kernel_rfl
theorem nt7:((Tryz.prog.funcs.toList.drop (25*7)).take 25).all fnT=true:=by kernel_rfl
theorem nt8:((Tryz.prog.funcs.toList.drop (25*8)).take 25).all fnT=true:=by kernel_rfl
theorem nt9:((Tryz.prog.funcs.toList.drop (25*9)).take 25).all fnT=true:=by kernel_rfl
theorem ntl:Tryz.prog.funcs.toList.length≤25*10:=zO (by kernel_rfl)
theorem nt:AD5 Tryz.prog=true:=ALA (AHB 25 10 (by decide) ntl fun i hi=>by
 have h:i=0∨i=1∨i=2∨i=3∨i=4∨i=5∨i=6∨i=7∨i=8∨i=9:=by omega
 rcases h with rfl|rfl|rfl|rfl|rfl|rfl|rfl|rfl|rfl|rfl
 ·exact nt0
 ·exact nt1
 ·exact nt2
 ·exact nt3
 ·exact nt4
 ·exact nt5
 ·exact nt6
 ·exact nt7
 ·exact nt8
 ·exact nt9)
theorem mo:Tryz.prog.follows .mixedOrders=true:=by kernel_rfl
theorem eqS:∀ t,MU t=true→ADE Tryz.prog t=true:=by
 intro t h;unfold MU at h;split at h
 ·kernel_rfl
 ·kernel_rfl
 ·cases h
@[simp] theorem C_P:C0.P=Tryz.prog:=(rfl)
@[simp] theorem C_G (f):C0.G f=GS f:=(rfl)
@[simp] theorem C_o (f):C0.ownArgs f=bX f:=(rfl)
@[simp] theorem C_k (f):C0.keepRes f=keepR f:=(rfl)
@[simp] theorem C_e (f):C0.eqT f=MU f:=(rfl)
@[simp] theorem C_t:C0.tree=false:=(rfl)
theorem A8:∀ {l:List UInt8} {j:Nat},j<l.length→∃ x:Nat,x<256∧fH (fG l) j=some [.lit (.int .u8 x)]
 | [],j,h=>by simp at h
 | b::l,0,_=>⟨b.toNat,b.toNat_lt,by simp[fG,fH]⟩
 | b::l,j+1,h=>by
  obtain⟨x,h1,h2⟩:=A8 (l:=l) (j:=j) (by simpa using h);exact⟨x,h1,by simpa [fG,fH]using h2⟩
theorem fQ:∀ (l:List UInt8),(fG l).length=l.length
 | []=>rfl
 | _::l=>by simp[fG,fQ l]
theorem wrap64 {x:Int} (h1:-9223372036854775808≤x) (h2:x<9223372036854775808):IntKind.i64.wrap x=x:=by
 unfold IntKind.wrap;simp[IntKind.signed,IntKind.bits];omega
theorem wrO {n:Int} (h1:-9223372036854775808≤n:=by omega) (h2:n<9223372036854775808:=by omega):IntKind.i64.wrap n=n:=wrap64 h1 h2
abbrev Rd (l:List UInt8) (p:Int):Option Blk:=some (.box [.i (.isl (fG l)), .int p])
set_option maxRecDepth 4000
noncomputable def C1:Ctx:={ P:=Tryz.prog,G:=GS,ownArgs:=bX,keepRes:=keepR,eqT:=MU,prim:=fun _=>none }
@[simp] theorem BAK:C1.P=Tryz.prog:=(rfl)
@[simp] theorem BAL (f):C1.G f=GS f:=(rfl)
@[simp] theorem BAH (f):C1.ownArgs f=bX f:=(rfl)
@[simp] theorem BAI (f):C1.keepRes f=keepR f:=(rfl)
@[simp] theorem BAJ (f):C1.eqT f=MU f:=(rfl)
@[simp] theorem BAG:C1.tree=false:=(rfl)
theorem AVU:aH C1 60 [.i (.isl [])] []=some (.nils,[]):=by
 rw[aD rfl Tryz.func60 rfl rfl];simp
theorem AQ3 {ks:List Ex} (h:ks≠[]) (hl:ks.length<1000000000):aH C1 60 [.i (.isl (Ex.aB ks))] []=some (.osl 0 5 0 ks.length,[some (.arr 5 (Ex.aB ks))]):=by
 rw[aD rfl Tryz.func60 rfl rfl];have h1:56*(ks.length:Int)≤281474976710656:=by omega
 simp[h,h1];unfold over;simp
theorem uH:SoundOk C1:=mO (C:=C1) ft nt eqS mo (AJM fun _=>rfl)
def ptr (p:Nat×Nat):IV:=.lit (.pointer (some ⟨p.1,p.2,none⟩))
def zc:List AV:=[.int 0, .int 0, .bool false, .int 0, .nils]
def AWR (p:Nat×Nat):AS:={ env:=[(0, .i (ptr p))],st:=[] }
def Ae7 (e:Ex) (p:Nat×Nat):AS:={ env:=[(0, .i (ptr p)),(2, .own 0 0),(3, .own 1 0),(4, .junk),(5, .junk),(6, .junk),(13, .junk),(37, .junk),(38, .junk),(39, .junk)],st:=[some (.box zc),some (.box (nE e.cells))] }
def SL (b3:Nat) (todo X:KL):AS :=
 { env:=[(0, .junk),(2, .own 0 0),(3, .i (ptr (b3,0))),(4, .osl 1 1 0 todo.length),(5, .junk),(6, .junk),(13, .junk),(37, .junk),(38, .junk),(39, .junk)],st:=[some (.box zc),some (.arr 1 ((todo++X).map fun k=>[ptr k.1]))] }
theorem AJL:∀ (l:KL),∀ c∈(l.map fun k=>[ptr k.1]).flatten,∃ v,c=.lit v
 | [],c,h=>by simp at h
 | k::l,c,h=>by
  simp only[yQ,yX,zT,y9]at h
  rcases h with rfl|h
  ·exact⟨_,rfl⟩
  ·exact AJL l c h
def PP (b3:Nat) (b o n:Nat) (x:Ex) (ES:List (List IV)) (env:Nat→AV) (st:Store):Prop :=
 env 2=.own 0 0∧env 3=.i (ptr (b3,0))∧env 4=.osl 1 1 0 n∧env 5=.i (ptr (b,o))∧env 32=.i (ptr (b,o+4))∧st 0=some (.box zc)∧st 1=some (.arr 1 ES) ∧
  ((env 30=.nils∧x.kids=[])∨∃ id,env 30=.osl id 5 0 x.kids.length∧x.kids≠[]∧st id=some (.arr 5 (Ex.aB x.kids))∧2≤id)
theorem ASY:IntKind.i64.wrap 1=1:=wrO
def RW (init:KL) (b' i:Nat):List (List IV):=(init.map fun k=>[ptr k.1])++(List.range i).map fun j=>[ptr (b',j*5)]
theorem ASW (init:KL) (b' i:Nat):(RW init b' i).length=init.length+i:=by simp[RW]
theorem AMW (init:KL) (b' i:Nat):RW init b' i++[[ptr (b',i*5)]]=RW init b' (i+1):=by simp[RW,zE5]
theorem Q7 (b:Nat):∀ (o:Nat) (l:List Ex),(kS b o l).map (fun k=>[ptr k.1])=(List.range l.length).map fun j=>[ptr (b,o+j*5)]
 | _,[]=>by simp[kS]
 | o,a::l=>by
  simp only[kS,yQ,Q7 b (o+5) l,zM,List.range_succ_eq_map,zC7];simp only[List.cons.injEq,Nat.zero_mul,xG,true_and];apply xU;intro j _;simp only[Function.comp,Nat.succ_eq_add_one];rw[show o+5+j*5=o+(j+1)*5 by omega]
theorem Q8 (b:Nat):∀ (o:Nat) (l:List Ex),(kS b o l).length=l.length
 | _,[]=>rfl
 | o,a::l=>by simp[kS,Q8 b (o+5) l]
theorem Q6 (b:Nat):∀ (o:Nat) (l:List Ex),((kS b o l).map fun k=>k.2.size).sum=Ex.cZ l
 | _,[]=>rfl
 | o,a::l=>by simp[kS,Ex.cZ,Q6 b (o+5) l]
def YS (b3 b' cap:Nat) (x:Ex) (init:KL) (ES:List (List IV)) (i:Nat):AS :=
 { env:=[(0, .junk),(2, .own 0 0),(3, .i (ptr (b3,0))),(4,if i=0 then .osl 1 1 0 init.length else .osl 2 1 0 (init.length+i)),(5, .i (.iref [.int x.kind, .int x.col, .bool x.val.null, .int x.val.n, .lit (.slice (some ⟨b',0,none⟩) x.kids.length cap)])),(6,jk i (.int (i-1))),(13, .junk),(37, .int x.kids.length),(38, .int i),(39,jk i (.bool true))],
   st:=some (.box zc)::if i=0 then [some (.arr 1 ES)]else [none,some (.arr 1 (RW init b' i))] }
set_option maxHeartbeats 1000000
theorem YG {e:Ex} (he:e.size<1000000000) {wi:World} {mi:Mem} {b o:Nat} (hi:Inv wi mi (fun _=>none) (bK []))
 (hrun:∀ w',wi.heap.size≤w'.heap.size→(∀ f,f<wi.heap.size→w'.heap[f]?=wi.heap[f]?)→∃ y,(Instr.loadAt 90 (.pointer (some ⟨b,o,none⟩))).run C1.P w'=.ok y w'∧IRep mi (.agg e.cells) y) :
 Calls Tryz.prog 61 #[.pointer (some ⟨b,o,none⟩)] wi (bY wi mi (fun _=>none) (.i (.agg e.cells)) []):=by
 refine calls_of_wp (fn:=Tryz.f61) Tryz.func61 rfl ?_
 have g0:GG wi mi 52 (fun id=>id<(AWR (b,o)).st.length) [] (aV (AWR (b,o)).env) (bK (AWR (b,o)).st) { tmps:=[Value.pointer (some ⟨b,o,none⟩)].toArray++Array.replicate (52-1) undef,defers:=[] } wi:=by
  refine⟨⟨mi,fun _=>none,hi,?_, .refl _ _ _,fun id h=>absurd rfl h,fun k hk=>by simp at hk⟩,by simp,rfl⟩;intro t;have:=nH (m:=mi) (φ:=fun _=>none) (52-1) (show RepL mi (fun _=>none) [.i (ptr (b,o))] [.pointer (some ⟨b,o,none⟩)]from .cons (.i (.lit _)) .nil) t
  cases t with
  | zero=>simpa [AWR,aV,uN]using this
  | succ t=>simp only[AWR,aV];simp;exact .junk _
 refine wp_seq (wp_mono (GG.fF uH (G:=GS 61) (S:=AWR (b,o)) (e:=.normal) (S':={ env:=[(0, .i (ptr (b,o))),(2, .own 0 0),(3, .junk),(4, .junk),(5, .junk),(6, .junk),(13, .junk),(37, .junk),(38, .junk),(39, .junk)],st:=[some (.box zc)] }) (by kernel_rfl) (by simp[AWR,zc,ptr]) g0) ?_);rintro _ a1 w1 ⟨rfl,g1⟩
 refine wp_seq (GG.AUA uH (os1:=[_,_]) (os2:=[_,_]) (G:=GS 61) (S:={ env:=[(0, .i (ptr (b,o))),(2, .own 0 0),(3, .junk),(4, .junk),(5, .junk),(6, .junk),(13, .junk),(37, .junk),(38, .junk),(39, .junk)],st:=[some (.box zc)] }) (S':=Ae7 e (b,o)) rfl (by
  have h:∀ ops:Array Oper,ops.all (nC 52)=true→∀ o∈ops,nC 52 o=true:=fun ops h o ho=>xD.1 h o ho
  exact h _ (by kernel_rfl)) g1 (by decide) hrun ?_ ?_)
 ·rw[Ex.aA];simp[Ae7,zc,ptr,Ex.aA]
 intro a2 w2 g2
 obtain⟨b3,g3⟩:=g2.pub (u:=3) (id:=1) (e:=e) (st':=bK [some (.box zc)]) (ok':=fun id=>id<1) rfl rfl (by
  intro i blk h
  cases i with
  | zero=>simp[bK]at h;subst h;exact⟨by omega,rfl,by simp[l5,zc]⟩
  | succ i=>simp[bK]at h) (by
  intro i h
  cases i with
  | zero=>omega
  | succ i=>simp[bK]at h)
 have g3:=g3 (aV [(2, .own 0 0),(3, .i (ptr (b3,0)))]) (by
  intro t;simp only[aV];by_cases h2:t=2
  ·subst h2;exact .inr (.inr ⟨rfl,by simp[Ae7,aV,oH,bK]⟩)
  ·by_cases h3:t=3
   ·subst h3;exact .inr (.inl ⟨rfl,rfl⟩)
   ·simp[h2,h3])
 refine wp_seq (wp_mono (GG.fF uH (G:=GS 61) (S:={ env:=[(2, .own 0 0),(3, .i (ptr (b3,0)))],st:=[some (.box zc)] }) (e:=.normal) (S':=SL b3 [((b3,0),e)] []) (by kernel_rfl) (by simp[SL,ptr,zc]) g3) ?_);rintro _ a3 w3 ⟨rfl,g4⟩;refine wp_seq (wp_block ?_);refine CL (fun n a w=>∃ todo X K:KL,(∀ k∈todo,k∈K)∧((b3,0),e)∈K∧(todo.map fun k=>k.2.size).sum=n∧n<1000000000∧GG wi mi 52 (fun id=>id<(SL b3 todo X).st.length) K (aV (SL b3 todo X).env) (bK (SL b3 todo X).st) a w) ?_ (n:=e.size) ⟨[((b3,0),e)],[],[((b3,0),e)],fun k hk=>hk,by simp,by simp,he,g4⟩;rintro n a w ⟨todo,X,K,hsub,hb3,hsum,hn,g⟩
 rcases zB7 todo with rfl|⟨init,k,rfl⟩
 ·refine wp_mono (GG.fF uH (G:=GS 61) (S:=SL b3 [] X) (e:=.exit 0) (S':={ env:=[(0, .junk),(2, .own 0 0),(3, .i (ptr (b3,0))),(4, .osl 1 1 0 0),(5, .junk),(6, .junk),(13, .bool false),(37, .junk),(38, .junk),(39, .junk)],st:=[some (.box zc),some (.arr 1 (X.map fun k=>[ptr k.1]))] }) (by kernel_rfl) (by simp[SL,ptr,zc]) g) ?_;rintro _ a5 w5 ⟨rfl,g5⟩;simp only[nT,Exit.then,Exit.inBlock,if_true]
  have g6:=(g5.see (u:=3) (b:=b3) (o:=0) rfl hb3).envTo (env':=aV [(2, .own 0 0),(3, .i (.iref e.cells))]) (by
   intro t;simp only[aV,upd];by_cases h2:t=2
   ·subst h2;simp
   ·by_cases h3:t=3
    ·subst h3;simp
    ·simp[h2,h3])
  refine wp_mono (GG.fF uH (G:=GS 61) (S:={ env:=[(2, .own 0 0),(3, .i (.iref e.cells))],st:=[some (.box zc),some (.arr 1 (X.map fun k=>[ptr k.1]))] }) (e:=.ret) (S':={ env:=[(0, .junk),(2, .own 0 0),(3, .i (.iref e.cells)),(4, .junk),(5, .junk),(6, .junk),(13, .junk),(37, .junk),(38, .junk),(39, .junk)],st:=[some (.box (nE e.cells)),some (.arr 1 (X.map fun k=>[ptr k.1]))] }) (by kernel_rfl) (by simp[zc]) g6) ?_;rintro _ a6 w6 ⟨rfl,g7⟩;obtain⟨⟨m,φ,q1,q2,q3,q4,q5⟩,q6,q7⟩:=g7
  obtain⟨v,k1,k2⟩:=iH (C:=C1) (fn:=Tryz.f61) (keep:=false) (na:=0) (S:={ env:=[(0, .junk),(2, .own 0 0),(3, .i (.iref e.cells)),(4, .junk),(5, .junk),(6, .junk),(13, .junk),(37, .junk),(38, .junk),(39, .junk)],st:=[some (.box (nE e.cells)),some (.arr 1 (X.map fun k=>[ptr k.1]))] }) (r:=.i (.agg e.cells)) (stl':=[]) (fun id h=>absurd rfl h) ⟨⟨⟨m,φ,q1,q2,q3,q4, .nil _ _ _⟩,q6,q7⟩,x8 _⟩ (by
   show finish C1 false [ResultVar.cell 2 90] 0 _=_
   simp)
  exact⟨q7,v,k1,k2⟩
 ·clear g0 g4 g3 g1 g2;obtain⟨⟨b,o⟩,x⟩:=k
  have hlen:∀ l:KL,l.length≤(l.map fun k=>k.2.size).sum:=by
   intro l
   induction l with
   | nil=>simp
   | cons a l ih=>have:=Ex.DJ a.2;simp;omega
  have hil:=hlen init;simp at hsum;have hxk:((b,o),x)∈K:=hsub _ (by simp);have hxs:=Ex.size_eq x;have hkl:=Ex.dR x.kids;have hne:¬ ((init.length:Int)+1≤0):=by omega
  have hpos:(0:Int)<(init.length:Int)+1:=by omega
  have w1:IntKind.i64.wrap (init.length:Int)=init.length:=wrO;generalize hES:((init++[((b,o),x)]++X).map fun k=>[ptr k.1])=ES
  have hnth:fH ES init.length=some [ptr (b,o)]:=by
   rw[dL,← hES];simp
  have hlit:∀ c∈ES.flatten,∃ v,c=.lit v:=by rw[← hES];exact AJL _
  have hlt:(init.length:Int)<(init.length:Int)+1:=by omega
  have hlt2:(init.length:Int)≤(init.length:Int)+1:=by omega
  refine wp_seq (wp_mono (GG.fF uH (G:=GS 61) (S:=SL b3 (init++[((b,o),x)]) X) (e:=.normal) (S':={ env:=[(0, .junk),(2, .own 0 0),(3, .i (ptr (b3,0))),(4, .osl 1 1 0 (init.length+1)),(5, .junk),(6, .junk),(13, .bool true),(37, .junk),(38, .junk),(39, .junk)],st:=[some (.box zc),some (.arr 1 ES)] }) (by kernel_rfl) (by simp only[SL,hES];simp[ptr,zc,hpos]) (by simpa using g)) ?_);rintro _ a5 w5 ⟨rfl,g5⟩;clear g;refine wp_block ?_;refine wp_seq (wp_mono (GG.fF uH (G:=GS 61) (S:={ env:=[(0, .junk),(2, .own 0 0),(3, .i (ptr (b3,0))),(4, .osl 1 1 0 (init.length+1)),(5, .junk),(6, .junk),(13, .bool true),(37, .junk),(38, .junk),(39, .junk)],st:=[some (.box zc),some (.arr 1 ES)] }) (e:=.normal) (S':={ env:=[(0, .junk),(2, .own 0 0),(3, .i (ptr (b3,0))),(4, .osl 1 1 0 (init.length+1)),(5,(.i (ptr (b,o)))),(6, .junk),(13, .bool true),(37, .junk),(38, .junk),(39, .junk)],st:=[some (.box zc),some (.arr 1 ES)] }) (by kernel_rfl) (by simp only[ptr]at hnth;simp[ptr,zc,hnth,w1,hlt]) g5) ?_);rintro _ a6 w6 ⟨rfl,g6⟩;clear g5;refine wp_seq (wp_mono (GG.fF uH (G:=GS 61) (S:={ env:=[(0, .junk),(2, .own 0 0),(3, .i (ptr (b3,0))),(4, .osl 1 1 0 (init.length+1)),(5,(.i (ptr (b,o)))),(6, .junk),(13, .bool true),(37, .junk),(38, .junk),(39, .junk)],st:=[some (.box zc),some (.arr 1 ES)] }) (e:=.normal) (S':={ env:=[(0, .junk),(2, .own 0 0),(3, .i (ptr (b3,0))),(4, .osl 1 1 0 init.length),(5,(.i (ptr (b,o)))),(6, .junk),(13, .bool true),(37, .junk),(38, .junk),(39, .junk)],st:=[some (.box zc),some (.arr 1 ES)] }) (by kernel_rfl) (by simp[ptr,zc,w1,hlt2]) g6) ?_);rintro _ a7 w7 ⟨rfl,g7⟩;clear g6
  refine wp_seq (GG.region uH (os1:=[_,_]) (os2:=[_,_,_,_,_,_]) (u:=26) (PP:=PP b3 b o init.length x ES) rfl (by
   have h:∀ ops:Array Oper,ops.all (nC 52)=true→∀ o∈ops,nC 52 o=true:=fun ops h o ho=>xD.1 h o ho
   exact h _ (by kernel_rfl)) g7 hxk ?_ ?_)
  ·rw[Ex.aA];by_cases hx:x.kids=[]
   ·simp[ptr,zc,hx,PP,Ex.aB,AVU]
   ·simp[ptr,zc,PP,AQ3 hx (by omega),hx]
  ·rintro env st a8 w8 ⟨p2,p3,p4,p5,p32,q0,q1,p30⟩ g8;clear g7
   obtain⟨w9,b',ao,cap,e1,e2,hrun,hG⟩:=GG.turn (C:=C1) (ok':=fun id=>id<2) (st':=bK [some (.box zc),some (.arr 1 ES)]) (u:=30) (t:=23) g8 (by simp) hi.mem hxk rfl (by
    rcases p30 with ⟨h1,h2⟩|⟨id,h1,h2,h3,h4⟩
    ·refine .inl ⟨h1,h2,?_⟩;intro i blk h
     rcases i with _|_|i
     ·simp[bK]at h;subst h;exact q0
     ·simp[bK]at h;subst h;exact q1
     ·simp[bK]at h
    ·refine .inr ⟨id,h1,h2,h3,?_⟩;intro i blk h
     rcases i with _|_|i
     ·simp[bK]at h;subst h;exact⟨by omega,q0⟩
     ·simp[bK]at h;subst h;exact⟨by omega,q1⟩
     ·simp[bK]at h) (by
    intro i blk h
    rcases i with _|_|i
    ·simp[bK]at h;subst h;simp[l5,zc]
    ·simp[bK]at h;subst h;exact hlit
    ·simp[bK]at h) (by
    intro i h
    rcases i with _|_|i
    ·omega
    ·omega
    ·simp[bK]at h)
   have ev5:=g8.AUT (t:=5) p5;have ev32:=g8.AUT (t:=32) p32
   refine AEC (C:=C1) (w':=w9) rfl (by
    show(Instr.storeAt 23 (a8.tmps.getD 32 undef) (a8.tmps.getD 30 undef)).run C1.P w8=_
    rw[ev32];exact hrun) ?_
   have g9:=hG (aV [(2, .own 0 0),(3, .i (ptr (b3,0))),(4, .osl 1 1 0 init.length),(5,(.i (.iref [.int x.kind, .int x.col, .bool x.val.null, .int x.val.n, .lit (.slice ao x.kids.length cap)])))]) (by
    intro t;simp only[aV];by_cases h2:t=2
    ·subst h2;exact .inr (.inr ⟨by simp[p2],by rw[p2];simp[oH,bK]⟩)
    by_cases h3:t=3
    ·subst h3;exact .inr (.inr ⟨by simp[p3],by rw[p3];simp[oH,ptr]⟩)
    by_cases h4:t=4
    ·subst h4;exact .inr (.inr ⟨by simp[p4],by rw[p4];simp[oH,bK]⟩)
    by_cases h5:t=5
    ·subst h5;exact .inr (.inl ⟨ev5,by simp⟩)
    ·simp[h2,h3,h4,h5])
   clear hG g8;show Code.wp _ _ _ _ _;refine wp_seq (wp_mono (GG.fF uH (G:=GS 61) (S:={ env:=[(2, .own 0 0),(3, .i (ptr (b3,0))),(4, .osl 1 1 0 init.length),(5,(.i (.iref [.int x.kind, .int x.col, .bool x.val.null, .int x.val.n, .lit (.slice ao x.kids.length cap)])))],st:=[some (.box zc),some (.arr 1 ES)] }) (e:=.normal) (S':={ env:=[(0, .junk),(2, .own 0 0),(3, .i (ptr (b3,0))),(4, .osl 1 1 0 init.length),(5,(.i (.iref [.int x.kind, .int x.col, .bool x.val.null, .int x.val.n, .lit (.slice ao x.kids.length cap)]))),(6, .junk),(13, .junk),(37, .int x.kids.length),(38, .int 0),(39, .junk)],st:=[some (.box zc),some (.arr 1 ES)] }) (by kernel_rfl) (by simp[ptr,zc]) g9) ?_);rintro _ a10 w10 ⟨rfl,g10⟩;clear g9;by_cases hx:x.kids=[]
   ·refine wp_mono (GG.fF uH (G:=GS 61) (S:={ env:=[(0, .junk),(2, .own 0 0),(3, .i (ptr (b3,0))),(4, .osl 1 1 0 init.length),(5,(.i (.iref [.int x.kind, .int x.col, .bool x.val.null, .int x.val.n, .lit (.slice ao x.kids.length cap)]))),(6, .junk),(13, .junk),(37, .int x.kids.length),(38, .int 0),(39, .junk)],st:=[some (.box zc),some (.arr 1 ES)] }) (e:=.normal) (S':={ env:=[(0, .junk),(2, .own 0 0),(3, .i (ptr (b3,0))),(4, .osl 1 1 0 init.length),(5,(.i (.iref [.int x.kind, .int x.col, .bool x.val.null, .int x.val.n, .lit (.slice ao x.kids.length cap)]))),(6, .junk),(13, .junk),(37, .int x.kids.length),(38, .int 0),(39, .bool false)],st:=[some (.box zc),some (.arr 1 ES)] }) (by kernel_rfl) (by
     simp only[hx,yE];simp;rw[aF]
     simp[ptr,zc]) g10) ?_
    rintro _ a11 w11 ⟨rfl,g11⟩;simp only[nT,Exit.then,Exit.inBlock];refine⟨n-1,by omega,init,((b,o),x)::X,K++kS b' 0 x.kids,fun k hk=>yD _ (hsub k (by simp[hk])),yD _ hb3,?_,by omega,?_⟩
    ·rw[hx]at hxs;simp[Ex.cZ]at hxs;omega
    ·have hES2:((init++((b,o),x)::X).map fun k=>[ptr k.1])=ES:=by rw[← hES];simp
     simp only[SL,hES2]
     exact g11.envTo (by
      intro t;simp only[aV];by_cases h2:t=2
      ·subst h2;simp
      by_cases h3:t=3
      ·subst h3;simp
      by_cases h4:t=4
      ·subst h4;simp
      ·simp[h2,h3,h4])
   ·obtain rfl:=e2 hx;have hET:ES.take init.length=RW init b' 0:=by rw[← hES];simp[RW]
    have hEL:init.length≤ES.length:=by rw[← hES];simp
    have hlim:∀ i,i≤x.kids.length→(init.length+i+1)*8≤140737488355328:=fun i hi=>by omega
    have hk0:x.kids.length≠0:=fun h=>hx (zW.1 h)
    refine wp_mono (GG.fF uH (G:=GS 61) (S:={ env:=[(0, .junk),(2, .own 0 0),(3, .i (ptr (b3,0))),(4, .osl 1 1 0 init.length),(5,(.i (.iref [.int x.kind, .int x.col, .bool x.val.null, .int x.val.n, .lit (.slice (some ⟨b',0,none⟩) x.kids.length cap)]))),(6, .junk),(13, .junk),(37, .int x.kids.length),(38, .int 0),(39, .junk)],st:=[some (.box zc),some (.arr 1 ES)] }) (e:=.normal) (S':={ env:=[(0, .junk),(2, .own 0 0),(3, .i (ptr (b3,0))),(4, .osl 2 1 0 (init.length+x.kids.length)),(5,(.i (.iref [.int x.kind, .int x.col, .bool x.val.null, .int x.val.n, .lit (.slice (some ⟨b',0,none⟩) x.kids.length cap)]))),(6, .int (x.kids.length-1)),(13, .junk),(37, .int x.kids.length),(38, .int x.kids.length),(39, .bool false)],st:=[some (.box zc),none,some (.arr 1 (RW init b' x.kids.length))] }) (by kernel_rfl) (by
     simp;rw[aT (YS b3 b' cap x init ES) x.kids.length (by simp[YS])]
     ·rw[aF];simp[YS,hk0,dK hk0,zc,ptr]
     ·intro i hi;have w2:IntKind.i64.wrap ((i:Int)+1)=i+1:=wrO;have hi0:(i:Int)<x.kids.length:=by omega
      by_cases h0:i=0
      ·subst h0;have hl:(init.length+1)*8≤140737488355328:=by omega
       have hR:RW init b' 0++[[.lit (.pointer (some ⟨b',0,none⟩))]]=RW init b' 1:=by simpa [ptr]using AMW init b' 0
       simp[YS,zc,ptr,ASY,hi,hET,hEL,hl,hR]
      ·have hl:=hlim i (by omega);have hT:(RW init b' i).take (init.length+i)=RW init b' i:=zZ (by rw[ASW];omega);have hR:RW init b' i++[[.lit (.pointer (some ⟨b',i*5,none⟩))]]=RW init b' (i+1):=by simpa [ptr]using AMW init b' i
       simp[YS,h0,dK h0,zc,ptr,w2,hi,hT,ASW,hl,hR,← Nat.add_assoc]) g10) ?_
    rintro _ a11 w11 ⟨rfl,g11⟩;simp only[nT,Exit.then,Exit.inBlock];refine⟨n-1,by omega,init++kS b' 0 x.kids,[],K++kS b' 0 x.kids,?_,yD _ hb3,?_,by omega,?_⟩
    ·intro k hk
     rcases zT.1 hk with h|h
     ·exact yD _ (hsub k (by simp[h]))
     ·exact xB _ h
    ·rw[yH,List.sum_append,Q6];omega
    ·have g12:=g11.settle [2,3,4]
     have hR:List.map (fun k:(Nat×Nat)×Ex=>[ptr k.1]) (init++kS b' 0 x.kids++[])=RW init b' x.kids.length:=by
      rw[xZ,yH,Q7];simp[RW]
     have hl:(init++kS b' 0 x.kids).length=init.length+x.kids.length:=by rw[zQ,Q8]
     simp only[SL,hR,hl]
     have hs:Av.settle [2,3,4] 0 (aV [(0, .junk),(2, .own 0 0),(3, .i (ptr (b3,0))),(4, .osl 2 1 0 (init.length+x.kids.length)),(5, .i (.iref [.int x.kind, .int x.col, .bool x.val.null, .int x.val.n, .lit (.slice (some ⟨b',0,none⟩) x.kids.length cap)])),(6, .int (x.kids.length-1)),(13, .junk),(37, .int x.kids.length),(38, .int x.kids.length),(39, .bool false)]) (bK [some (.box zc),none,some (.arr 1 (RW init b' x.kids.length))])={ env:=[(2, .own 0 0),(3, .i (ptr (b3,0))),(4, .osl 1 1 0 (init.length+x.kids.length))],st:=[some (.box zc),some (.arr 1 (RW init b' x.kids.length))] }:=by
      simp[zc,ptr]
     rw[hs]at g12
     exact g12.envTo (by
      intro t;simp only[aV];by_cases h2:t=2
      ·subst h2;simp
      by_cases h3:t=3
      ·subst h3;simp
      by_cases h4:t=4
      ·subst h4;simp
      ·simp[h2,h3,h4])
theorem ACR {w:World} {m:Mem} {φ:Pl} {st:Store} {t:TypeId} {a v:AV} {x:Value} (hi:Inv w m φ st) (hr:Rep m φ a x) (h:LW C1 t a st=some v):∃ y,(Instr.loadAt t x).run C1.P w=.ok y w∧Rep m φ v y:=by
 obtain⟨ad,y,k1,k2,k3⟩:=BL hi hr h;exact⟨y,by subst k1;simpa [Instr.loadAt,Instr.sureAddr]using k2,k3⟩
theorem APH {w:World} {m:Mem} (h:oI w m):Inv w m (fun _=>none) (bK []):=⟨h,fun id blk e=>(by simp[bK]at e),fun i j b b' n n' b1 b2 f e=>(by simp[bK]at e),fun _ _ _ _ e=>(by cases e)⟩
theorem IL {e:Ex} (he:e.size<1000000000) {wi:World} {mi:Mem} {φ:Pl} {vs:List Value} (hi:Inv wi mi φ (bK [])) (hr:RepL mi φ [.i (.iref e.cells)] vs) (h0:∀ id,φ id≠none→id<0) :
 Calls Tryz.prog 61 vs.toArray wi (bY wi mi φ (.i (.agg e.cells)) []):=by
 obtain rfl:φ=fun _=>none:=by
  funext id
  cases h:φ id with
  | none=>rfl
  | some p=>exact absurd (h0 id (by rw[h];simp)) (zB5 _)
 cases hr with
 | cons h1 h2 =>
  cases h2
  have hp:=h1
  cases h1 with
  | i h1=>cases h1 with
   | iref ha =>
    refine YG he hi fun w' hs hw=>?_
    obtain⟨y,k1,k2⟩:=ACR (t:=90) (v:=.i (.agg e.cells)) (hi.later hs hw) hp (by rw[Ex.aA];simp)
    cases k2 with
    | i k2=>exact⟨y,k1,k2⟩
theorem QS {e:Ex} (he:e.size<1000000000) {w:World} {m:Mem} {φ:Pl} {vs:List Value} {es:List (List IV)} {j:Nat} (hes:es[j]?=some e.cells) (hi:Inv w m φ (bK [some (.arr 5 es)])) (hr:RepL m φ [.ownE 0 5 j 0] vs) (h0:∀ id,φ id≠none→id<1) :
 Calls Tryz.prog 61 vs.toArray w (bY w m φ (.i (.agg e.cells)) [some (.arr 5 es)]):=by
 cases hr with
 | cons h1 h2 =>
  cases h2
  have hp:=h1
  cases h1 with
  | ownE hφ =>
   refine(YG he (APH hi.mem) fun w' hs hw=>?_).mono ?_
   ·obtain⟨y,k1,k2⟩:=ACR (t:=90) (v:=.i (.agg e.cells)) (hi.later hs hw) hp (by
     have h5:=hes;rw[← dL]at h5
     rw[Ex.aA]at h5 ⊢;simp[h5])
    cases k2 with
    | i k2=>exact⟨y,k1,k2⟩
   ·rintro en w' ⟨v,m',φ',rfl,j1,j2,j3,j4⟩;have free0:∀ b,mD (fun _=>none) b:=fun b id r n e=>by cases e
    have hsame:∀ f,f<w.heap.size→w'.heap[f]?=w.heap[f]?:=fun f hf=>j3.block f hf (free0 f)
    refine⟨v,m',φ,rfl,?_,⟨j2.mem,fun id blk hb=>?_,hi.inj,fun id b n f e ho=>yU (hi.low id b n f e ho) j3.size⟩,⟨j3.size,j3.os,j3.tape,j3.output,fun b hb' _=>hsame b hb',j3.mle,fun b hb' _ o=>j3.mnew b hb' (free0 b) o, .refl _,fun _ _ _ _ e ho=>.inr (mD.not e ho)⟩,h0⟩
    ·cases j1 with
     | i j1=>exact .i j1
    ·obtain⟨b,n,k1,k2,k3⟩:=hi.live id blk hb;exact⟨b,n,k1,⟨k2.1,fun f hf=>yU (k2.2 f hf) j3.size⟩,k3.mono k2.1 (fun f hf=>hsame f (k2.2 f hf)) j3.mle (.refl _) fun f hf o=>j3.mnew f (k2.2 f hf) (free0 f) o⟩
end Go.Proofs.YtnmimmaahhlgeaaGreat
namespace Go.Proofs.YtnmimmaahhlgeaaGreat.G
open Go Go.Av
set_option maxRecDepth 4000
set_option maxHeartbeats 4000000
noncomputable def AUF:FuncId→Option (List AV→StL→Option (AV×StL))
 | 61=>some N8
 | _=>none
noncomputable def C2:Ctx:={ P:=Tryz.prog,G:=GS,ownArgs:=bX,keepRes:=keepR,eqT:=MU,prim:=AUF }
@[simp] theorem BAE:C2.P=Tryz.prog:=(rfl)
@[simp] theorem BAF (f):C2.G f=GS f:=(rfl)
@[simp] theorem BAB (f):C2.ownArgs f=bX f:=(rfl)
@[simp] theorem BAC (f):C2.keepRes f=keepR f:=(rfl)
@[simp] theorem BAD (f):C2.eqT f=MU f:=(rfl)
@[simp] theorem BAA:C2.tree=false:=(rfl)
theorem AOT:PrimOk C2:=by
 have key:∀ g q,C2.prim g=some q→g=61∧q=N8:=by
  intro g q h;have h:AUF g=some q:=h;unfold AUF at h;split at h
  ·injection h with h;exact⟨rfl,h.symm⟩
  ·cases h
 constructor
 ·intro g args st p h;unfold dH at h
  cases hq:C2.prim g with
  | none=>rw[hq]at h;cases h
  | some q =>
   obtain⟨rfl,rfl⟩:=key g q hq;exact⟨Tryz.f61,Tryz.func61,by decide,rfl⟩
 ·intro g args stl r stl' h w m φ vs hi hr h0;unfold dH at h
  cases hq:C2.prim g with
  | none=>rw[hq]at h;cases h
  | some q =>
   obtain⟨rfl,rfl⟩:=key g q hq;rw[hq]at h;obtain⟨e,he,hres,hor⟩:=QQ h;injection hres with h1 h2;subst h1;subst h2
   rcases hor with ⟨rfl,rfl⟩|⟨j,es,rfl,rfl,hes⟩
   ·exact IL he hi hr h0
   ·exact QS he hes hi hr h0
theorem l7:SoundOk C2:=mO (C:=C2) ft nt eqS mo AOT
theorem AaM:aH C2 60 [.i (.isl [])] []=some (.nils,[]):=by
 rw[aD rfl Tryz.func60 rfl rfl];simp
theorem AWE {ks:List Ex} (h:ks≠[]) (hl:ks.length<1000000000):aH C2 60 [.i (.isl (Ex.aB ks))] []=some (.osl 0 5 0 ks.length,[some (.arr 5 (Ex.aB ks))]):=by
 rw[aD rfl Tryz.func60 rfl rfl];have h1:56*(ks.length:Int)≤281474976710656:=by omega
 simp[h,h1];unfold over;simp
theorem ASQ:aH C2 62 [.i (.isl [])] []=some (.nils,[]):=by
 rw[aD rfl Tryz.func62 rfl rfl];simp
theorem AM6 {l:List Int} (h:l≠[]) (hl:l.length<1000000000):aH C2 62 [.i (.isl (aG l))] []=some (.osl 0 1 0 l.length,[some (.arr 1 (aG l))]):=by
 rw[aD rfl Tryz.func62 rfl rfl];have h1:8*(l.length:Int)≤281474976710656:=by omega
 simp[h,h1];unfold over;simp
theorem ADT:aH C2 63 [.i (.isl [])] []=some (.nils,[]):=by
 rw[aD rfl Tryz.func63 rfl rfl];simp
theorem U5 {ks:List Pn} (h:ks≠[]) (hl:ks.length<1000000000):aH C2 63 [.i (.isl (Pn.aB ks))] []=some (.osl 0 5 0 ks.length,[some (.arr 5 (Pn.aB ks))]):=by
 rw[aD rfl Tryz.func63 rfl rfl];have h1:88*(ks.length:Int)≤281474976710656:=by omega
 simp[h,h1];unfold over;simp
theorem AaL {e:Ex} {es:List (List IV)} {j:Nat} (h:e.size<1000000000) (he:fH es j=some e.cells):aH C2 61 [.ownE 0 5 j 0] [some (.arr 5 es)]=some (.i (.agg e.cells),[some (.arr 5 es)]):=by
 rw[aN (p:=N8) rfl];exact ALS h (by rw[← dL];exact he)
def zp:List AV:=[.int 0, .int 0, .nils, .nils, .nils]
def EV (b3:Nat) (v4 v5 v6 v7 v14 v38 v39 v40 v76 v77 v78:AV):List (Nat×AV):=[(0, .junk),(2, .own 0 0),(3, .i (ptr (b3,0))),(4,v4),(5,v5),(6,v6),(7,v7),(14,v14),(38,v38),(39,v39),(40,v40),(76,v76),(77,v77),(78,v78)]
def nO (l:PL):List (List IV):=l.map fun k=>[ptr k.1]
def SLp (b3:Nat) (todo X:PL):AS:={ env:=EV b3 (.osl 1 1 0 todo.length) .junk .junk .junk .junk .junk .junk .junk .junk .junk .junk,st:=[some (.box zp),some (.arr 1 (nO (todo++X)))] }
def SRp (b3 n o:Nat) (ES:List (List IV)) (v6 v7 v14 v38 v39 v40 v76 v77 v78:AV) (cells:List AV) (L:StL):AS:={ env:=EV b3 (.osl 1 1 0 n) (.own 2 o) v6 v7 v14 v38 v39 v40 v76 v77 v78,st:=some (.box zp)::some (.arr 1 ES)::some (.box cells)::L }
theorem S9:∀ (l:PL),∀ c∈(nO l).flatten,∃ v,c=.lit v
 | [],c,h=>by simp[nO]at h
 | k::l,c,h=>by
  simp only[nO,yQ,yX,zT,y9]at h
  rcases h with rfl|h
  ·exact⟨_,rfl⟩
  ·exact S9 l c h
theorem K5 (a b x:Option Blk):upd (bK [a,b]) 2 x=bK [a,b,x]:=by
 funext i;rcases i with _|_|_|i<;>simp[bK,upd]
theorem AdG (b3:Nat) (v4 v5 v5' v6 v7 v14 v38 v39 v40 v76 v77 v78:AV):upd (aV (EV b3 v4 v5 v6 v7 v14 v38 v39 v40 v76 v77 v78)) 5 v5'=aV (EV b3 v4 v5' v6 v7 v14 v38 v39 v40 v76 v77 v78):=by
 funext t;simp only[upd,EV,aV];by_cases h5:t=5
 ·subst h5;simp
 ·simp only[h5,if_false]
def XS (b3 n:Nat) (ES:List (List IV)) (pre post:List Value) (k t:Int) (es:List Ex) (aC aK:AV) (v14:AV) (i:Nat):AS :=
 SRp b3 n pre.length ES (jk i (.int (i-1))) .junk v14 (.int es.length) (.int i) (jk i (.bool true)) .junk .junk .junk (mV pre [.int k, .int t, .osl 3 5 0 es.length,aC,aK] post) [some (.arr 5 (Ex.aB es))]
set_option maxHeartbeats 8000000
def jj:List (Nat×AV):=[(4, .junk),(5, .junk),(6, .junk),(7, .junk),(14, .junk),(38, .junk),(39, .junk),(40, .junk),(76, .junk),(77, .junk),(78, .junk)]
theorem nS:AHF (fun _ _ _=>True):=fun _ _ _ _ _ _ _ _=>trivial
theorem ASX:IntKind.i64.wrap 1=1:=wrO
def RWp (init:PL) (b' i:Nat):List (List IV):=nO init++(List.range i).map fun j=>[ptr (b',j*5)]
theorem AMV (init:PL) (b' i:Nat):(RWp init b' i).length=init.length+i:=by simp[RWp,nO]
theorem AQW (init:PL) (b' i:Nat):RWp init b' i++[[ptr (b',i*5)]]=RWp init b' (i+1):=by simp[RWp,zE5]
theorem Q5 (b:Nat):∀ (o:Nat) (l:List Pn),nO (o8 b o l)=(List.range l.length).map fun j=>[ptr (b,o+j*5)]
 | _,[]=>by simp[o8,nO]
 | o,a::l=>by
  have ih:=Q5 b (o+5) l;simp only[nO]at ih ⊢;simp only[o8,yQ,ih,zM,List.range_succ_eq_map,zC7];simp only[List.cons.injEq,Nat.zero_mul,xG,true_and];apply xU;intro j _;simp only[Function.comp,Nat.succ_eq_add_one];rw[show o+5+j*5=o+(j+1)*5 by omega]
theorem XJ (b:Nat):∀ (o:Nat) (l:List Pn),(o8 b o l).length=l.length
 | _,[]=>rfl
 | o,a::l=>by simp[o8,XJ b (o+5) l]
theorem XH (b:Nat):∀ (o:Nat) (l:List Pn),((o8 b o l).map fun k=>k.2.size).sum=Pn.cZ l
 | _,[]=>by simp[o8,Pn.cZ]
 | o,a::l=>by simp[o8,Pn.cZ,XH b (o+5) l]
theorem XI {b:Nat}:∀ {o:Nat} {l:List Pn},∀ q∈o8 b o l,q.2∈l∧q.1.1=b
 | _,[],q,h=>by simp[o8]at h
 | o,a::l,q,h=>by
  simp only[o8,zP]at h
  rcases h with rfl|h
  ·simp
  ·have:=XI q h;exact⟨by simp[this.1],this.2⟩
def iE (es:List Ex):Nat:=if es.length=0 then 100 else 3
def lE (es:List Ex):StL:=if es.length=0 then []else [some (.arr 5 (Ex.aB es))]
def iC (es:List Ex) (cs:List Int):Nat:=if cs.length=0 then 101 else 3+(lE es).length
def lC (es:List Ex) (cs:List Int):StL:=if cs.length=0 then lE es else lE es++[some (.arr 1 (aG cs))]
def iK (es:List Ex) (cs:List Int) (ks:List Pn):Nat:=if ks.length=0 then 102 else 3+(lC es cs).length
def lK (es:List Ex) (cs:List Int) (ks:List Pn):StL:=if ks.length=0 then lC es cs else lC es cs++[some (.arr 5 (Pn.aB ks))]
def YP (b3 n o:Nat) (ES:List (List IV)) (init:PL) (b' nk:Nat) (cells:List AV) (i:Nat):AS :=
 { env:=EV b3 (if i=0 then .osl 1 1 0 n else .osl 3 1 0 (n+i)) (.own 2 o) .junk (jk i (.int (i-1))) (.bool true) .junk .junk .junk (.int nk) (.int i) (jk i (.bool true)),
   st:=some (.box zp)::(if i=0 then some (.arr 1 ES)else none)::some (.box cells)::(if i=0 then []else [some (.arr 1 (RWp init b' i))]) }
theorem AIM (a b c:Option Blk):∀ (l:StL) {x:Option Blk},bK (a::b::c::(l++[x])) (3+l.length)=x:=by
 intro l x;rw[AC3]
 have:(a::b::c::(l++[x]))[3+l.length]?=some x:=by
  rw[show 3+l.length=l.length+1+1+1 by omega];simp
 rw[this];rfl
theorem wF {p:Pn} (hsz:p.size<1000000000) (hth:p.thin) (hty:p.tiny) {wi:World} {mi:Mem} {vs:List Value} (hi:Inv wi mi (fun _=>none) (bK [])) (hr:RepL mi (fun _=>none) [.i (.iref p.cells)] vs) :
 Calls Tryz.prog 29 vs.toArray wi (UG wi mi p):=by
 refine calls_of_wp (fn:=Tryz.f29) Tryz.func29 rfl ?_;have hv1:vs.length=1:=by simpa using hr.length.symm
 have g0:GR wi mi 91 (fun id=>id<({ env:=[(0, .i (.iref p.cells))],st:=[] }:AS).st.length) (fun _ _ _=>True) (aV [(0, .i (.iref p.cells))]) (bK []) { tmps:=vs.toArray++Array.replicate (91-vs.toArray.size) undef,defers:=[] } wi:=by
  refine⟨⟨mi,fun _=>none,hi,?_, .refl _ _ _,fun id h=>absurd rfl h,trivial⟩,by simp;omega,rfl⟩;intro t;have:=nH (m:=mi) (φ:=fun _=>none) (91-vs.toArray.size) hr t
  cases t with
  | zero=>simpa [aV,uN]using this
  | succ t=>simp only[aV];simp;exact .junk _
 refine wp_seq (wp_mono (GR.fF l7 (G:=GS 29) (S:={ env:=[(0, .i (.iref p.cells))],st:=[] }) (e:=.normal) (S':={ env:=[(0, .i (.iref p.cells)),(2, .own 0 0),(3, .junk)]++jj,st:=[some (.box zp)] }) nS (by kernel_rfl) (by simp[zp,jj]) g0) ?_);rintro _ a1 w1 ⟨rfl,g1⟩;refine wp_seq (wp_mono (GR.fF l7 (G:=GS 29) (S:={ env:=[(0, .i (.iref p.cells)),(2, .own 0 0),(3, .junk)]++jj,st:=[some (.box zp)] }) (e:=.normal) (S':={ env:=[(0, .i (.iref p.cells)),(2, .own 0 0),(3, .own 1 0)]++jj,st:=[some (.box zp),some (.box (nE p.cells))] }) nS (by kernel_rfl) (by rw[Pn.aA];simp[zp,jj]) g1) ?_);rintro _ a2 w2 ⟨rfl,g2⟩
 obtain⟨b3,g3⟩:=g2.AfE (u:=3) (id:=1) (p:=p) (st':=bK [some (.box zp)]) rfl rfl (by
  intro i blk h
  cases i with
  | zero=>simp[bK]at h;subst h;exact⟨by omega,rfl,by simp[l5,zp]⟩
  | succ i=>simp[bK]at h)
 have g3:=g3 (aV [(2, .own 0 0),(3, .i (ptr (b3,0)))]) (by
  intro t;simp only[aV];by_cases h2:t=2
  ·subst h2;exact .inr (.inr ⟨rfl,by simp[aV,oH,bK,jj]⟩)
  ·by_cases h3:t=3
   ·subst h3;exact .inr (.inl ⟨rfl,rfl⟩)
   ·simp[h2,h3])
 have g3:=g3.ok' (ok':=fun id=>id<({ env:=[(2, .own 0 0),(3, .i (ptr (b3,0)))],st:=[some (.box zp)] }:AS).st.length) (by
  intro i h
  cases i with
  | zero=>simp
  | succ i=>simp[bK]at h)
 refine wp_seq (wp_mono (GR.fF l7 (G:=GS 29) (S:={ env:=[(2, .own 0 0),(3, .i (ptr (b3,0)))],st:=[some (.box zp)] }) (e:=.normal) (S':=SLp b3 [((b3,0),p)] []) (RAW.pX _ _ _ _ _) (by kernel_rfl) (by simp[SLp,EV,nO,ptr,zp]) g3) ?_);rintro _ a3 w3 ⟨rfl,g4⟩;clear g0 g1 g2 g3;refine wp_seq (wp_block ?_);refine CL (fun n a w=>∃ (todo X H:PL) (F:List Nat),H.Perm todo∧(todo.map fun k=>k.2.size).sum=n∧n<1000000000∧(∀ q∈todo,q.2.thin∧q.2.tiny)∧GR wi mi 91 (fun id=>id<(SLp b3 todo X).st.length) (RAW wi b3 p F H) (aV (SLp b3 todo X).env) (bK (SLp b3 todo X).st) a w) ?_ (n:=p.size) ⟨[((b3,0),p)],[],[((b3,0),p)],[], .refl _,by simp,hsz,by simpa using ⟨hth,hty⟩,g4⟩;clear g4;rintro n a w ⟨todo,X,H,F,hperm,hsum,hn,hall,g⟩
 rcases zB7 todo with rfl|⟨init,k,rfl⟩
 ·obtain rfl:=List.perm_nil.1 hperm;refine wp_mono (GR.fF l7 (G:=GS 29) (S:=SLp b3 [] X) (e:=.exit 0) (S':={ env:=EV b3 (.osl 1 1 0 0) .junk .junk .junk (.bool false) .junk .junk .junk .junk .junk .junk,st:=[some (.box zp),some (.arr 1 (nO X))] }) (RAW.pX _ _ _ _ _) (by kernel_rfl) (by simp[SLp,EV,zp]) g) ?_;rintro _ a5 w5 ⟨rfl,g5⟩;simp only[nT,Exit.then,Exit.inBlock,if_true];obtain⟨v0,v1,v2,v3,v4,post,hone,g6⟩:=g5.AaY (u:=3) (k:=2) rfl rfl (by simp)
  have g6:=(g6 (aV [(2, .own 0 0),(3, .own 2 0)]) (by
   intro t;simp only[aV];by_cases h2:t=2
   ·subst h2;exact .inr (.inr (by simp[aV,EV]))
   ·by_cases h3:t=3
    ·subst h3;exact .inr (.inl ⟨rfl,rfl⟩)
    ·simp[h2,h3])).ok' (ok':=fun id=>id<({ env:=[(2, .own 0 0),(3, .own 2 0)],st:=[some (.box zp),some (.arr 1 (nO X)),some (.box (dX [v0,v1,v2,v3,v4]++dX post))] }:AS).st.length) (by
   intro i h
   simp at h ⊢;omega)
  rw[K5]at g6
  refine wp_mono (GR.fF l7 (G:=GS 29) (S:={ env:=[(2, .own 0 0),(3, .own 2 0)],st:=[some (.box zp),some (.arr 1 (nO X)),some (.box (dX [v0,v1,v2,v3,v4]++dX post))] }) (e:=.ret) (S':={ env:=[(0, .junk),(2, .own 0 0),(3, .own 2 0)]++jj,st:=[some (.box (dX [v0,v1,v2,v3,v4])),some (.arr 1 (nO X)),some (.box (dX [v0,v1,v2,v3,v4]++dX post))] }) (CPY.pX _ _ _ _ _ _ _ _) (by kernel_rfl) (by
   have hz:dX [v0,v1,v2,v3,v4]=[.i (.lit v0), .i (.lit v1), .i (.lit v2), .i (.lit v3), .i (.lit v4)]:=rfl;rw[hz]
   simp[zp,jj,M9,PK]) g6) ?_
  rintro _ a6 w6 ⟨rfl,g7⟩;obtain⟨⟨m,φ,q1,q2,q3,q4,q5⟩,q6,q7⟩:=g7
  obtain⟨v,k1,k2⟩:=iH (C:=C2) (fn:=Tryz.f29) (keep:=false) (na:=0) (S:={ env:=[(0, .junk),(2, .own 0 0),(3, .own 2 0)]++jj,st:=[some (.box (dX [v0,v1,v2,v3,v4])),some (.arr 1 (nO X)),some (.box (dX [v0,v1,v2,v3,v4]++dX post))] }) (r:=.i (.agg [.lit v0, .lit v1, .lit v2, .lit v3, .lit v4])) (stl':=[]) (fun id h=>absurd rfl h) ⟨⟨⟨m,φ,q1,q2,q3,q4, .nil _ _ _⟩,q6,q7⟩,x8 _⟩ (by
   show finish C2 false [ResultVar.cell 2 27] 0 _=_;have hz:dX [v0,v1,v2,v3,v4]=[.i (.lit v0), .i (.lit v1), .i (.lit v2), .i (.lit v3), .i (.lit v4)]:=rfl;rw[hz]
   simp)
  have hv:v=.agg #[v0,v1,v2,v3,v4]:=by
   obtain⟨_,_,_,e,r,_⟩:=k2;injection e with e;subst e
   cases r with
   | i r=>cases r with
    | agg r =>
     cases r with|cons a0 _ r=>cases r with|cons a1 _ r=>cases r with|cons a2 _ r=>cases r with|cons a3 _ r=>cases r with|cons a4 _ r =>
     cases r
     rw[pE a0,pE a1,pE a2,pE a3,pE a4]
  subst hv;refine⟨q7,_,k1,v0,v1,v2,v3,v4,F,m,rfl,hone,q1.mem,⟨q3.size,q3.os,q3.tape,q3.output,q3.block,q3.mle,q3.mnew, .refl _,fun _ _ _ _ e=>by cases e⟩,q5.th,q5.cells,q5.nd,fun f hf=>?_⟩;obtain⟨z1,z2,z3,z4,z5⟩:=q5.all f hf;exact⟨z1,z2,(by intro _ _ _ e;cases e),z4,z5⟩
 ·obtain⟨⟨b,o⟩,x⟩:=k;rw[List.concat_eq_append]at hperm hsum hall g
  have hlen:∀ l:PL,l.length≤(l.map fun k=>k.2.size).sum:=by
   intro l
   induction l with
   | nil=>simp
   | cons a l ih=>have:=Pn.DJ a.2;simp;omega
  have hil:=hlen init;simp at hsum;have hq:((b,o),x)∈H:=hperm.mem_iff.2 (by simp);have hxs:=Pn.size_eq x;have hkl:=Pn.dR x.kids;have hpos:(0:Int)<(init.length:Int)+1:=by omega
  have w1:IntKind.i64.wrap (init.length:Int)=init.length:=wrO;generalize hES:nO (init++[((b,o),x)]++X)=ES at *
  have hnth:fH ES init.length=some [ptr (b,o)]:=by
   rw[dL,← hES];simp[nO]
  have hlit:∀ c∈ES.flatten,∃ v,c=.lit v:=by rw[← hES];exact S9 _
  have htake:ES.take init.length=nO init:=by rw[← hES];simp[nO]
  have hESl:init.length≤ES.length:=by rw[← hES];simp[nO]
  have hlt:(init.length:Int)<(init.length:Int)+1:=by omega
  have hlt2:(init.length:Int)≤(init.length:Int)+1:=by omega
  obtain⟨hxt,hxy⟩:=hall ((b,o),x) (by simp);simp only at hxt hxy;refine wp_seq (wp_mono (GR.fF l7 (G:=GS 29) (S:=SLp b3 (init++[((b,o),x)]) X) (e:=.normal) (S':={ env:=EV b3 (.osl 1 1 0 (init.length+1)) .junk .junk .junk (.bool true) .junk .junk .junk .junk .junk .junk,st:=[some (.box zp),some (.arr 1 ES)] }) (RAW.pX _ _ _ _ _) (by kernel_rfl) (by simp only[SLp,hES];simp[EV,zp,hpos]) g) ?_);rintro _ a5 w5 ⟨rfl,g5⟩;clear g;refine wp_block ?_;refine wp_seq (wp_mono (GR.fF l7 (G:=GS 29) (S:={ env:=EV b3 (.osl 1 1 0 (init.length+1)) .junk .junk .junk (.bool true) .junk .junk .junk .junk .junk .junk,st:=[some (.box zp),some (.arr 1 ES)] }) (e:=.normal) (S':={ env:=EV b3 (.osl 1 1 0 (init.length+1)) (.i (ptr (b,o))) .junk .junk (.bool true) .junk .junk .junk .junk .junk .junk,st:=[some (.box zp),some (.arr 1 ES)] }) (RAW.pX _ _ _ _ _) (by kernel_rfl) (by simp only[ptr]at hnth;simp[EV,ptr,zp,hnth,w1,hlt]) g5) ?_);rintro _ a6 w6 ⟨rfl,g6⟩;clear g5;refine wp_seq (wp_mono (GR.fF l7 (G:=GS 29) (S:={ env:=EV b3 (.osl 1 1 0 (init.length+1)) (.i (ptr (b,o))) .junk .junk (.bool true) .junk .junk .junk .junk .junk .junk,st:=[some (.box zp),some (.arr 1 ES)] }) (e:=.normal) (S':={ env:=EV b3 (.osl 1 1 0 init.length) (.i (ptr (b,o))) .junk .junk (.bool true) .junk .junk .junk .junk .junk .junk,st:=[some (.box zp),some (.arr 1 ES)] }) (RAW.pX _ _ _ _ _) (by kernel_rfl) (by simp[EV,ptr,zp,w1,hlt2]) g6) ?_);rintro _ a7 w7 ⟨rfl,g7⟩;clear g6;obtain⟨pre,post,us,ma,e1,e2,e3,e4,e5,g8⟩:=g7.adopt (u:=5) (y:=x) rfl (by simp) hq rfl;clear g7;rw[AdG,K5]at g8;subst e3;obtain⟨kd,tb,es,cs,ks⟩:=x;obtain⟨t1,t2,t3,t4,t5⟩:=(Pn.bT _).1 hxt;obtain⟨y1,y2⟩:=(Pn.RB _).1 hxy;simp only[Pn.fU,Pn.dO,Pn.gK]at t1 t2 t3 t4 t5 y1 y2 hxs hkl;rw[Pn.bJ]at g8;have hst:=ADP.pX wi b3 p F H b us w7 ma
  refine wp_seq (wp_mono (GR.fF l7 (G:=GS 29) (S:=SRp b3 init.length pre.length ES .junk .junk (.bool true) .junk .junk .junk .junk .junk .junk (mV pre [.int kd, .int tb, .i (.isl (Ex.aB es)), .i (.isl (aG cs)), .i (.isl (Pn.aB ks))] post) []) (e:=.normal) (S':=SRp b3 init.length pre.length ES .junk .junk (.bool true) .junk .junk .junk .junk .junk .junk (mV pre [.int kd, .int tb,slA es.length (iE es) 5, .i (.isl (aG cs)), .i (.isl (Pn.aB ks))] post) (lE es)) hst (by kernel_rfl) (by
   by_cases he:es=[]
   ·subst he;simp[SRp,EV,zp,AX1,AF5,bM,dG,Ex.aB,AaM,slA,lE]
   ·have hel:es.length≠0:=fun h=>he (zW.1 h)
    simp[SRp,EV,zp,AX1,AF5,bM,dG,AWE he t1,slA,lE,iE,he]) (g8.ok' fun id h=>by simp at h ⊢;simp[SRp];omega)) ?_)
  rintro _ a9 w9 ⟨rfl,g9⟩;clear g8
  refine wp_seq (wp_mono (GR.AaF l7 (G:=GS 29) (S:=SRp b3 init.length pre.length ES .junk .junk (.bool true) .junk .junk .junk .junk .junk .junk (mV pre [.int kd, .int tb,slA es.length (iE es) 5, .i (.isl (aG cs)), .i (.isl (Pn.aB ks))] post) (lE es)) hst
   (PP:=fun e S'=>e=.normal∧∃ v6 v38 v39 v40,S'=SRp b3 init.length pre.length ES v6 .junk (.bool true) v38 v39 v40 .junk .junk .junk (mV pre [.int kd, .int tb,slA es.length (iE es) 5, .i (.isl (aG cs)), .i (.isl (Pn.aB ks))] post) (lE es)) (by kernel_rfl) (by
   by_cases he:es=[]
   ·subst he;refine⟨.normal,SRp b3 init.length pre.length ES .junk .junk (.bool true) (.int 0) (.int 0) (.bool false) .junk .junk .junk (mV pre [.int kd, .int tb,slA 0 (iE []) 5, .i (.isl (aG cs)), .i (.isl (Pn.aB ks))] post) (lE []),?_,rfl,_,_,_,_,rfl⟩;simp[SRp,EV,zp,AX1,AF5,bM,dG,slA,lE];rw[aF];simp[bM,dG]
   ·have hel:es.length≠0:=fun h=>he (zW.1 h)
    refine⟨.normal,SRp b3 init.length pre.length ES (.int (es.length-1)) .junk (.bool true) (.int es.length) (.int es.length) (.bool false) .junk .junk .junk (mV pre [.int kd, .int tb,slA es.length (iE es) 5, .i (.isl (aG cs)), .i (.isl (Pn.aB ks))] post) (lE es),?_,rfl,_,_,_,_,rfl⟩;simp[SRp,EV,zp,AX1,AF5,bM,dG,slA,lE,iE,he];rw[aT (XS b3 init.length ES pre post kd tb es (.i (.isl (aG cs))) (.i (.isl (Pn.aB ks))) (.bool true)) es.length (by simp[XS,SRp,EV,zp])]
    ·rw[aF];simp[XS,SRp,EV,zp,AX1,AF5,bM,dG,dK hel]
    ·intro i hi;have h3:=zX hi;have hs:=y1 _ (zV h3);have r2:=Ex.aR h3;generalize es[i]=a at h3 hs r2;have hk:=AaL hs r2;have hput:=Ex.wY h3;have w2:IntKind.i64.wrap ((i:Int)+1)=i+1:=wrO;rw[Ex.aA]at r2 hk hput
     simp[XS,SRp,EV,zp,AX1,AF5,bM,dG,hi,r2,hk,w2,hput]) g9) ?_)
  rintro _ a10 w10 ⟨e,S',rfl,⟨rfl,v6,v38,v39,v40,rfl⟩,g10⟩;clear g9
  have g10:=(g10.envTo (env':=aV (SRp b3 init.length pre.length ES .junk .junk (.bool true) .junk .junk .junk .junk .junk .junk (mV pre [.int kd, .int tb,slA es.length (iE es) 5, .i (.isl (aG cs)), .i (.isl (Pn.aB ks))] post) (lE es)).env) (by
   intro t;simp only[SRp,EV,aV];by_cases h6:t=6
   ·subst h6;simp
   by_cases h38:t=38
   ·subst h38;simp
   by_cases h39:t=39
   ·subst h39;simp
   by_cases h40:t=40
   ·subst h40;simp
   ·simp[h6,h38,h39,h40]))
  refine wp_seq (wp_mono (GR.fF l7 (G:=GS 29) (S:=SRp b3 init.length pre.length ES .junk .junk (.bool true) .junk .junk .junk .junk .junk .junk (mV pre [.int kd, .int tb,slA es.length (iE es) 5, .i (.isl (aG cs)), .i (.isl (Pn.aB ks))] post) (lE es)) (e:=.normal) (S':=SRp b3 init.length pre.length ES .junk .junk (.bool true) .junk .junk .junk .junk .junk .junk (mV pre [.int kd, .int tb,slA es.length (iE es) 5,slA cs.length (iC es cs) 1, .i (.isl (Pn.aB ks))] post) (lC es cs)) hst (by kernel_rfl) (by
   by_cases he:es=[]<;>by_cases hc:cs=[]
   ·subst he;subst hc;simp[SRp,EV,zp,AbD,AO7,bM,dG,aG,ASQ,slA,lE,lC]
   ·have hcl:cs.length≠0:=fun h=>hc (zW.1 h)
    subst he;simp[SRp,EV,zp,AbD,AO7,bM,dG,AM6 hc t3,slA,lE,lC,iC,hc]
   ·have hel:es.length≠0:=fun h=>he (zW.1 h)
    subst hc;simp[SRp,EV,zp,AbD,AO7,bM,dG,aG,ASQ,slA,lE,lC,iE,he]
   ·have hel:es.length≠0:=fun h=>he (zW.1 h)
    have hcl:cs.length≠0:=fun h=>hc (zW.1 h)
    simp[SRp,EV,zp,AbD,AO7,bM,dG,AM6 hc t3,slA,lE,lC,iE,iC,he,hc]) g10) ?_)
  rintro _ a11 w11 ⟨rfl,g11⟩;clear g10
  refine wp_seq (wp_mono (GR.fF l7 (G:=GS 29) (S:=SRp b3 init.length pre.length ES .junk .junk (.bool true) .junk .junk .junk .junk .junk .junk (mV pre [.int kd, .int tb,slA es.length (iE es) 5,slA cs.length (iC es cs) 1, .i (.isl (Pn.aB ks))] post) (lC es cs)) (e:=.normal) (S':=SRp b3 init.length pre.length ES .junk .junk (.bool true) .junk .junk .junk .junk .junk .junk (mV pre [.int kd, .int tb,slA es.length (iE es) 5,slA cs.length (iC es cs) 1,slA ks.length (iK es cs ks) 5] post) (lK es cs ks)) hst (by kernel_rfl) (by
   by_cases he:es=[]<;>by_cases hc:cs=[]<;>by_cases hk:ks=[]
   all_goals (try subst he)
   all_goals (try subst hc)
   all_goals (try subst hk)
   ·simp[SRp,EV,zp,AEI,VH,bM,dG,Pn.aB,ADT,slA,lE,lC,lK]
   ·simp[SRp,EV,zp,AEI,VH,bM,dG,U5 hk t4,slA,lE,lC,lK,iK,hk]
   ·simp[SRp,EV,zp,AEI,VH,bM,dG,Pn.aB,ADT,slA,lE,lC,lK,iC,hc]
   ·simp[SRp,EV,zp,AEI,VH,bM,dG,U5 hk t4,slA,lE,lC,lK,iC,iK,hc,hk]
   ·simp[SRp,EV,zp,AEI,VH,bM,dG,Pn.aB,ADT,slA,lE,lC,lK,iE,he]
   ·simp[SRp,EV,zp,AEI,VH,bM,dG,U5 hk t4,slA,lE,lC,lK,iE,iK,he,hk]
   ·simp[SRp,EV,zp,AEI,VH,bM,dG,Pn.aB,ADT,slA,lE,lC,lK,iE,iC,he,hc]
   ·simp[SRp,EV,zp,AEI,VH,bM,dG,U5 hk t4,slA,lE,lC,lK,iE,iC,iK,he,hc,hk]) g11) ?_)
  rintro _ a12 w12 ⟨rfl,g12⟩;clear g11
  obtain⟨F',H',us',b',cap,vE,vC,m2,hpm,hus,hone,hbn,g13⟩:=g12.AcO (u:=5) (st':=bK [some (.box zp),some (.arr 1 ES)]) (env':=aV (EV b3 (.osl 1 1 0 init.length) (.own 2 pre.length) .junk .junk (.bool true) .junk .junk .junk .junk .junk .junk)) (idE:=iE es) (idC:=iC es cs) (idK:=iK es cs ks) (oq:=pre.length) e1 e2 rfl e4 hq rfl
   (fun h=>by simp[SRp,iE,lE,lC,lK,h];split<;>split<;>simp[bK])
   (fun h=>by simp only[SRp,iC,lC,lK,h,if_false];cases hh:lE es with
    | nil=>split<;>simp[bK]
    | cons a l =>
     have:l=[]:=by unfold lE at hh;split at hh<;>simp_all
     subst this;split<;>simp[bK])
   (fun h=>by simp only[SRp,iK,lK,h,if_false];exact AIM _ _ _ _)
   (by unfold iE iC iK lC lE;repeat' split<;>simp_all)
   (by
    intro i blk h
    rcases i with _|_|i
    ·simp[bK]at h;subst h;exact⟨by omega,rfl,by simp[l5,zp]⟩
    ·simp[bK]at h;subst h;exact⟨by omega,rfl,hlit⟩
    ·simp[bK]at h)
   (by
    intro t;simp only[SRp,EV,aV];by_cases h0:t=0
    ·subst h0;simp
    by_cases h2:t=2
    ·subst h2;exact .inr ⟨by simp, .inr (by simp[oH,bK])⟩
    by_cases h3:t=3
    ·subst h3;exact .inr ⟨by simp, .inr (by simp[oH,ptr])⟩
    by_cases h4:t=4
    ·subst h4;exact .inr ⟨by simp, .inr (by simp[oH,bK])⟩
    by_cases h5:t=5
    ·subst h5;exact .inr ⟨by simp, .inl (by simp)⟩
    by_cases h14:t=14
    ·subst h14;exact .inr ⟨by simp, .inr (by simp[oH])⟩
    simp[h0,h2,h3,h4,h5,h14])
  clear g12;rw[K5]at g13;have hbx:dX us'=mV pre [.i (.lit (.int .i64 kd)), .i (.lit (.int .i64 tb)), .i (.lit vE), .i (.lit vC), .i (.lit (if ks.length=0 then .slice none 0 0 else .slice (some ⟨b',0,none⟩) ks.length cap))] post:=by rw[hus];simp[mV,dX]
  rw[hbx]at g13;have hst':=ADP.pX wi b3 p F' H' b us' w12 m2
  refine wp_mono (GR.AaF l7 (G:=GS 29) (S:=SRp b3 init.length pre.length ES .junk .junk (.bool true) .junk .junk .junk .junk .junk .junk (mV pre [.i (.lit (.int .i64 kd)), .i (.lit (.int .i64 tb)), .i (.lit vE), .i (.lit vC), .i (.lit (if ks.length=0 then .slice none 0 0 else .slice (some ⟨b',0,none⟩) ks.length cap))] post) []) hst'
   (PP:=fun e S'=>e=.normal∧∃ v7 v76 v77 v78,S'={ env:=EV b3 (if ks.length=0 then .osl 1 1 0 init.length else .osl 3 1 0 (init.length+ks.length)) (.own 2 pre.length) .junk v7 (.bool true) .junk .junk .junk v76 v77 v78,st:=some (.box zp)::(if ks.length=0 then some (.arr 1 ES)else none)::some (.box (mV pre [.i (.lit (.int .i64 kd)), .i (.lit (.int .i64 tb)), .i (.lit vE), .i (.lit vC), .i (.lit (if ks.length=0 then .slice none 0 0 else .slice (some ⟨b',0,none⟩) ks.length cap))] post))::(if ks.length=0 then []else [some (.arr 1 (RWp init b' ks.length))]) }) (by kernel_rfl) (by
   by_cases h0:ks.length=0
   ·refine⟨.normal,{ env:=EV b3 (.osl 1 1 0 init.length) (.own 2 pre.length) .junk .junk (.bool true) .junk .junk .junk (.int 0) (.int 0) (.bool false),st:=some (.box zp)::some (.arr 1 ES)::some (.box (mV pre [.i (.lit (.int .i64 kd)), .i (.lit (.int .i64 tb)), .i (.lit vE), .i (.lit vC), .i (.lit (if ks.length=0 then .slice none 0 0 else .slice (some ⟨b',0,none⟩) ks.length cap))] post))::[] },?_,rfl, .junk, .int 0, .int 0, .bool false,by simp[h0]⟩;simp[SRp,EV,zp,AEI,bM,dG,h0];rw[aF];simp[bM,dG]
   ·refine⟨.normal,{ env:=EV b3 (.osl 3 1 0 (init.length+ks.length)) (.own 2 pre.length) .junk (.int (ks.length-1)) (.bool true) .junk .junk .junk (.int ks.length) (.int ks.length) (.bool false),st:=some (.box zp)::none::some (.box (mV pre [.i (.lit (.int .i64 kd)), .i (.lit (.int .i64 tb)), .i (.lit vE), .i (.lit vC), .i (.lit (if ks.length=0 then .slice none 0 0 else .slice (some ⟨b',0,none⟩) ks.length cap))] post))::[some (.arr 1 (RWp init b' ks.length))] },?_,rfl, .int (ks.length-1), .int ks.length, .int ks.length, .bool false,by simp[h0]⟩;simp only[h0,if_false];simp[SRp,EV,zp,AEI,bM,dG];rw[aT (YP b3 init.length pre.length ES init b' ks.length (mV pre [.i (.lit (.int .i64 kd)), .i (.lit (.int .i64 tb)), .i (.lit vE), .i (.lit vC), .i (.lit (if ks.length=0 then .slice none 0 0 else .slice (some ⟨b',0,none⟩) ks.length cap))] post)) ks.length (by simp[YP,EV,zp,h0])]
    ·rw[aF];simp[YP,EV,zp,AEI,bM,dG,h0,dK h0]
    ·intro i hi;have w2:IntKind.i64.wrap ((i:Int)+1)=i+1:=wrO;by_cases hi0:i=0
     ·subst hi0;have hR:nO init++[[.lit (.pointer (some ⟨b',0,none⟩))]]=RWp init b' 1:=by simp[RWp,ptr]
      have hl:(init.length+1)*8≤140737488355328:=by omega
      simp[YP,EV,zp,AEI,bM,dG,h0,ASX,hi,htake,hR,hl,hESl]
     ·have hl:(init.length+i+1)*8≤140737488355328:=by omega
      have hT:(RWp init b' i).take (init.length+i)=RWp init b' i:=zZ (by rw[AMV];omega);have hR:RWp init b' i++[[.lit (.pointer (some ⟨b',i*5,none⟩))]]=RWp init b' (i+1):=by simpa [ptr]using AQW init b' i
      simp[YP,EV,zp,AEI,bM,dG,h0,hi0,dK hi0,w2,hi,hT,AMV,hl,hR,← Nat.add_assoc]) (g13.ok' fun id h=>by simp[SRp];omega)) ?_
  rintro _ a13 w13 ⟨e,S',rfl,⟨rfl,v7,v76,v77,v78,rfl⟩,g14⟩;clear g13;simp only[nT,Exit.then,Exit.inBlock]
  have hpm2:H'.Perm (init++o8 b' 0 ks):=by
   have h1:(((b,pre.length),Pn.mk kd tb es cs ks)::H').Perm (((b,pre.length),Pn.mk kd tb es cs ks)::(init++o8 b' 0 ks)):=by
    refine hpm.trans ((hperm.append_right _).trans ?_);rw[zK];exact xC
   exact(List.perm_cons _).1 h1
  have hszx:(Pn.mk kd tb es cs ks).size=1+Pn.cZ ks:=hxs
  have hall2:∀ q∈init++o8 b' 0 ks,q.2.thin∧q.2.tiny:=by
   intro q hq'
   rcases zT.1 hq' with h|h
   ·exact hall q (by simp[h])
   ·have:=(XI q h).1;exact⟨t5 _ this,y2 _ this⟩
  have hsum2:((init++o8 b' 0 ks).map fun k=>k.2.size).sum=n-1:=by
   rw[yH,List.sum_append,XH];omega
  by_cases hk0:ks.length=0
  ·have hks:ks=[]:=zW.1 hk0;subst hks;simp only[yE,if_true]at g14 hbx
   have g15:=g14.AD3 (st':=bK [some (.box zp),some (.arr 1 ES)]) (env':=aV (EV b3 (.osl 1 1 0 init.length) .junk .junk .junk .junk .junk .junk .junk .junk .junk .junk)) (by rw[hbx];rfl) (by
    intro i blk h
    rcases i with _|_|i
    ·simp[bK]at h;subst h;exact⟨by omega,rfl,by simp[l5,zp]⟩
    ·simp[bK]at h;subst h;exact⟨by omega,rfl,hlit⟩
    ·simp[bK]at h) (by
    intro t;simp only[EV,aV];by_cases h0:t=0
    ·subst h0;simp
    by_cases h2:t=2
    ·subst h2;exact .inr ⟨by simp,by simp[oH,bK]⟩
    by_cases h3:t=3
    ·subst h3;exact .inr ⟨by simp,by simp[oH,ptr]⟩
    by_cases h4:t=4
    ·subst h4;exact .inr ⟨by simp,by simp[oH,bK]⟩
    simp[h0,h2,h3,h4])
   simp only[o8,xZ]at hpm2 hall2 hsum2;refine⟨n-1,by omega,init,[((b,pre.length),Pn.mk kd tb es cs [])]++X,H',F',hpm2,hsum2,by omega,hall2,?_⟩;have hES2:nO (init++([((b,pre.length),Pn.mk kd tb es cs [])]++X))=ES:=by rw[← hES,zK]
   simp only[SLp,hES2]
   exact g15.ok' (by
    intro i h
    rcases i with _|_|i
    ·simp
    ·simp
    ·simp[bK]at h)
  ·simp only[hk0,if_false]at g14 hbx
   have g15:=g14.AD3 (st':=bK [some (.box zp),none,none,some (.arr 1 (RWp init b' ks.length))]) (env':=aV [(2, .own 0 0),(3, .i (ptr (b3,0))),(4, .osl 3 1 0 (init.length+ks.length))]) (by rw[hbx];rfl) (by
    intro i blk h
    rcases i with _|_|_|_|i
    ·simp[bK]at h;subst h;exact⟨by omega,rfl,by simp[l5,zp]⟩
    ·simp[bK]at h
    ·simp[bK]at h
    ·simp[bK]at h;subst h;exact⟨by omega,rfl,by
      intro c hc;rw[List.mem_flatten]at hc;obtain⟨r,hr1,hr2⟩:=hc;unfold RWp at hr1
      rcases zT.1 hr1 with h|h
      ·exact S9 init c (List.mem_flatten.2 ⟨r,h,hr2⟩)
      ·obtain⟨j,_,rfl⟩:=zG.1 h
       simp at hr2;subst hr2;exact⟨_,rfl⟩⟩
    ·simp[bK]at h) (by
    intro t;simp only[EV,aV];by_cases h2:t=2
    ·subst h2;exact .inr ⟨by simp,by simp[oH,bK]⟩
    by_cases h3:t=3
    ·subst h3;exact .inr ⟨by simp,by simp[oH,ptr]⟩
    by_cases h4:t=4
    ·subst h4;exact .inr ⟨by simp,by simp[oH,bK]⟩
    simp[h2,h3,h4])
   have g16:=g15.settle (fun w m φ ids h=>RAW.keep ids h) [2,3,4]
   have hs:Av.settle [2,3,4] 0 (aV [(2, .own 0 0),(3, .i (ptr (b3,0))),(4, .osl 3 1 0 (init.length+ks.length))]) (bK [some (.box zp),none,none,some (.arr 1 (RWp init b' ks.length))])={ env:=[(2, .own 0 0),(3, .i (ptr (b3,0))),(4, .osl 1 1 0 (init.length+ks.length))],st:=[some (.box zp),some (.arr 1 (RWp init b' ks.length))] }:=by
    simp[zp,ptr]
   rw[hs]at g16;refine⟨n-1,by omega,init++o8 b' 0 ks,[],H',F',hpm2,hsum2,by omega,hall2,?_⟩
   have hR:nO (init++o8 b' 0 ks++[])=RWp init b' ks.length:=by
    rw[xZ];have:=Q5 b' 0 ks;simp only[nO]at this;simp only[nO,RWp,yH,this,zB]
   have hl:(init++o8 b' 0 ks).length=init.length+ks.length:=by rw[zQ,XJ]
   simp only[SLp,hR,hl]
   exact g16.envTo (by
    intro t;simp only[EV,aV];by_cases h0:t=0
    ·subst h0;simp
    by_cases h2:t=2
    ·subst h2;simp
    by_cases h3:t=3
    ·subst h3;simp
    by_cases h4:t=4
    ·subst h4;simp
    ·simp[h0,h2,h3,h4])
theorem TW {p:Pn} (hsz:p.size<1000000000) (hth:p.thin) (hty:p.tiny) {wi:World} {mi:Mem} {φ:Pl} {vs:List Value} (hi:Inv wi mi φ (bK [])) (hr:RepL mi φ [.i (.iref p.cells)] vs) (h0:∀ id,φ id≠none→id<0) :
 Calls Tryz.prog 29 vs.toArray wi (bY wi mi φ (.i (.agg p.cells)) []):=by
 obtain rfl:φ=fun _=>none:=by
  funext id
  cases h:φ id with
  | none=>rfl
  | some p=>exact absurd (h0 id (by rw[h];simp)) (zB5 _)
 exact(wF hsz hth hty hi hr).mono fun _ _ h=>h.tree
end Go.Proofs.YtnmimmaahhlgeaaGreat.G

/- Part 3 of what the proof rests on: the executor and what it is worth, and the program's functions as it runs them. No condition. -/
import Derived.Test.YtjdfjgmebalaaaaGreatT2
import Derived.Test.YtjdfjgmebalaaaaGreatProg
import Derived.KernelRfl
set_option linter.unusedVariables false
set_option linter.unusedSimpArgs false
namespace Go.Av
structure RAW (wi:World) (root:Nat) (p:Pn) (F:List Nat) (H:PL) (w:World) (m:Mem) (φ:Pl):Prop where
 th:TH w m p root 0 F H
 nr:root ∉ F
 nd:F.Nodup
 all:∀ f∈root::F,wi.heap.size≤f∧f<w.heap.size∧l9 φ f∧(∀ o,m f o=none)∧∃ (vs:List Value) (T:TypeId),w.heap[f]?=some (.cells vs.toArray T (0,0))∧∀ v∈vs,v.oneCell'=true
theorem jO {w w':World} {f:Nat} (h:w'.heap[f]?=w.heap[f]?) (j:Nat):w'.cell? ⟨f,j,none⟩=w.cell? ⟨f,j,none⟩:=cell_of_heap h
theorem RAW.PI (wi:World) (root:Nat) (p:Pn) (F:List Nat) (H:PL):AHK (RAW wi root p F H):=by
 intro w m φ w' m' φ' ha h;have hs:∀ f∈root::F,w'.heap[f]?=w.heap[f]?:=fun f hf=>ha.block f (h.all f hf).2.1 (h.all f hf).2.2.1
 refine⟨h.th.frame ha.mle (fun j _ _=>jO (hs root (by simp)) j) (fun f hf j=>jO (hs f (by simp[hf])) j),h.nr,h.nd,fun f hf=>?_⟩;obtain⟨k1,k2,k3,k4,vs,T,k5,k6⟩:=h.all f hf;exact⟨k1,zD k2 ha.size,ha.range k2 k3,fun o=>(ha.mnew f k2 k3 o).trans (k4 o),vs,T,by rw[hs f hf];exact k5,k6⟩
structure ADP (wi:World) (root:Nat) (p:Pn) (F:List Nat) (H:PL) (bq:Nat) (us:List Value) (wa:World) (ma:Mem) (w:World) (m:Mem) (φ:Pl):Prop where
 th:TH wa ma p root 0 F H
 nr:root ∉ F
 nd:F.Nodup
 le:MLe ma m
 inF:bq∈root::F
 own:∃ n,φ 2=some (bq,n)
 row:∃ T,wa.heap[bq]?=some (.cells us.toArray T (0,0))
 bqn:wi.heap.size≤bq
 oth:∀ f∈root::F,f≠bq→wi.heap.size≤f∧f<w.heap.size∧l9 φ f∧(∀ o,m f o=none)∧w.heap[f]?=wa.heap[f]?∧∃ (vs:List Value) (T:TypeId),wa.heap[f]?=some (.cells vs.toArray T (0,0))∧∀ v∈vs,v.oneCell'=true
theorem ADP.PI (wi:World) (root:Nat) (p:Pn) (F:List Nat) (H:PL) (bq:Nat) (us:List Value) (wa:World) (ma:Mem):AHK (ADP wi root p F H bq us wa ma):=by
 intro w m φ w' m' φ' ha h;refine⟨h.th,h.nr,h.nd,h.le.trans ha.mle,h.inF,?_,h.row,h.bqn,fun f hf hne=>?_⟩
 ·obtain⟨n,e⟩:=h.own;obtain⟨n',e',_⟩:=ha.ple _ _ _ e;exact⟨n',e'⟩
 ·obtain⟨k1,k2,k3,k4,k5,k6⟩:=h.oth f hf hne;exact⟨k1,zD k2 ha.size,ha.range k2 k3,fun o=>(ha.mnew f k2 k3 o).trans (k4 o),(ha.block f k2 k3).trans k5,k6⟩
theorem ND {us:List Value} {o:Nat} {v0 v1 v2 v3 v4:Value} (h0:us[o]?=some v0) (h1:us[o+1]?=some v1) (h2:us[o+2]?=some v2) (h3:us[o+3]?=some v3) (h4:us[o+4]?=some v4):us=us.take o++([v0,v1,v2,v3,v4]++us.drop (o+5)):=by
 have g:∀ {o:Nat} {v:Value},us[o]?=some v→us.drop o=v::us.drop (o+1):=by
  intro o v h;obtain⟨hl,rfl⟩:=zZ.1 h;exact zB3 hl
 have:us.drop o=[v0,v1,v2,v3,v4]++us.drop (o+5):=by rw[g h0,g h1,g h2,g h3,g h4];rfl
 rw[← this,yI]
mutual
theorem TH.hole {w:World} {m:Mem} {x:Pn} {b o:Nat} {F:List Nat} {H:PL}:TH w m x b o F H→∀ q∈H,∃ v0 v1 v2 v3 v4,ICells m q.2.cells [v0,v1,v2,v3,v4]∧At5 w q.1.1 q.1.2 v0 v1 v2 v3 v4
 | .fresh h1 h2,q,hq=>by simp at hq;subst hq;exact⟨_,_,_,_,_,h1,h2⟩
 | .leaf _ _ _ _,q,hq=>by simp at hq
 | .node _ _ _ _ _ h6,q,hq=>THL.hole h6 q hq
theorem THL.hole {w:World} {m:Mem} {xs:List Pn} {b o:Nat} {F:List Nat} {H:PL}:THL w m xs b o F H→∀ q∈H,∃ v0 v1 v2 v3 v4,ICells m q.2.cells [v0,v1,v2,v3,v4]∧At5 w q.1.1 q.1.2 v0 v1 v2 v3 v4
 | .nil _ _,q,hq=>by simp at hq
 | .cons h1 h2,q,hq=>by
  rcases zT.1 hq with h|h
  ·exact TH.hole h1 q h
  ·exact THL.hole h2 q h
end
theorem Y9 {m:Mem} {φ:Pl}:∀ {cs:List IV} {vs:List Value},ICells m cs vs→RepC m φ (l5 cs) vs
 | [],_, .nil=>.nil
 | c::cs,_, .cons a o b=>.cons (.i a) o (Y9 b)
section
variable {wi:World} {mi:Mem} {nt:Nat}
def kU (pre:List Value) (row:List AV) (post:List Value):List AV:=dH pre++(row++dH post)
theorem GR.adopt {ok:Nat→Prop} {root:Nat} {p:Pn} {F:List Nat} {H:PL} {env:Nat→AV} {st:Store} {a:Act} {w:World} {u bq oq:Nat} {y:Pn} (h:GR wi mi nt ok (RAW wi root p F H) env st a w) (hst:st 2=none) (hok:¬ ok 2) (hq:((bq,oq),y)∈H) (hu:env u=.i (.lit (.pointer (some ⟨bq,oq,none⟩)))) :
 ∃ pre post us ma,us.take oq=pre∧us.drop (oq+5)=post∧pre.length=oq∧us.length=oq+5+post.length∧(∀ v∈us,v.oneCell'=true) ∧
   GR wi mi nt (fun id=>ok id∨id=2) (ADP wi root p F H bq us w ma) (upd env u (.own 2 oq)) (upd st 2 (some (.box (kU pre (l5 y.cells) post)))) a w:=by
 obtain⟨⟨m,φ,hi,henv,hadv,hk,hr⟩,h6,h7⟩:=h;obtain⟨v0,v1,v2,v3,v4,hc,h5⟩:=hr.th.hole _ hq;simp only at hc h5
 have hinF:bq∈root::F:=by
  rcases hr.th.holes _ hq with e|e
  ·simp at e;simp[e]
  ·simp at e;simp[e]
 obtain⟨k1,k2,k3,k4,us,T,k5,k6⟩:=hr.all bq hinF;have gc:∀ {o:Nat} {v:Value},w.cell? ⟨bq,o,none⟩=some v→us[o]?=some v:=fun h=>by rwa [bO k5]at h
 have hrow:=ND (gc h5.c0) (gc h5.c1) (gc h5.c2) (gc h5.c3) (gc h5.c4);have hl4:=(zZ.1 (gc h5.c4)).1;refine⟨us.take oq,us.drop (oq+5),us,m,rfl,rfl,by rw[yL];omega,by rw[xC];omega,k6,?_⟩
 have hφ2:φ 2=none:=by
  cases e:φ 2 with
  | none=>rfl
  | some q=>exact absurd (hk 2 (by rw[e];simp)) hok
 have hrep:RepC m (upd φ 2 (some (bq,one bq us.length))) (kU (us.take oq) (l5 y.cells) (us.drop (oq+5))) us:=by
  have h1:=p8 (m:=m) (φ:=upd φ 2 (some (bq,one bq us.length))) (vs:=us.take oq) fun v hv=>k6 v (zL hv)
  have h2:=p8 (m:=m) (φ:=upd φ 2 (some (bq,one bq us.length))) (vs:=us.drop (oq+5)) fun v hv=>k6 v (yM hv)
  have h3:=FW h1 (FW (Y9 hc) h2);rw[← hrow]at h3;exact h3
 have hp:PLe φ (upd φ 2 (some (bq,one bq us.length))):=fun i r n e=>by
  refine⟨n,?_,rfl,fun _ h=>h⟩;have:i≠2:=fun h=>by rw[h,hφ2]at e;cases e
  simp[upd,this,e]
 refine⟨⟨m,upd φ 2 (some (bq,one bq us.length)),hi.adopt hst hφ2 k3 k4 k5 hrep,fun t=>?_,hadv.adopt k1,fun id hid=>?_,?_⟩,h6,h7⟩
 ·by_cases ht:t=u
  ·subst ht;have:=henv t;rw[hu]at this;simp only[upd,if_true];rw[this.cB];exact .own (n:=one bq us.length) (by simp[upd])
  ·simp only[upd,ht,if_false];exact(henv t).mono (.refl _) hp
 ·by_cases e:id=2
  ·exact .inr e
  ·simp[upd,e]at hid;exact .inl (hk id hid)
 ·refine⟨hr.th,hr.nr,hr.nd, .refl _,hinF,⟨one bq us.length,by simp[upd]⟩,⟨T,k5⟩,k1,fun f hf hne=>?_⟩;obtain⟨q1,q2,q3,q4,q5⟩:=hr.all f hf;refine⟨q1,q2,fun i r n e ho=>?_,q4,rfl,q5⟩;by_cases e2:i=2
  ·subst e2;simp[upd]at e;obtain⟨rfl,rfl⟩:=e;exact hne ho
  ·simp[upd,e2]at e;exact q3 i r n e ho
def slA (n id k:Nat):AV:=if n=0 then .nils else .osl id k 0 n
def lW (b:Nat):Nat→List Pn→PL
 | _,[]=>[]
 | o,x::l=>((b,o),x)::lW b (o+5) l
theorem Inv.AVB {w:World} {m:Mem} {φ:Pl} {st:Store} {id b:Nat} {n:Ext} {blk blk':Blk} (hi:Inv w m φ st) (h:st id=some blk) (e:φ id=some (b,n)) (hb:BlkOk w m φ b n blk'):Inv w m φ (upd st id (some blk')):=by
 refine⟨hi.mem,?_,?_,hi.low⟩
 ·intro i bl hbl;by_cases hid:i=id
  ·subst hid;simp[upd]at hbl;subst hbl;exact⟨b,n,e,(dU hi e h).1,hb⟩
  ·simp[upd,hid]at hbl;exact hi.live i bl hbl
 ·intro i j r r' n1 n2 b1 b2 f e1 e2 p1 p2 o1 o2
  have g:∀ i b1,upd st id (some blk') i=some b1→∃ b2,st i=some b2:=fun i b1 h1=>by
   by_cases hid:i=id
   ·subst hid;exact⟨blk,h⟩
   ·simp[upd,hid]at h1;exact⟨b1,h1⟩
  obtain⟨x1,y1⟩:=g i b1 e1;obtain⟨x2,y2⟩:=g j b2 e2;exact hi.inj i j r r' n1 n2 x1 x2 f y1 y2 p1 p2 o1 o2
theorem ADJ {w:World} {m:Mem} {φ:Pl} {st:Store} {n id k:Nat} {v:Value} {es:List (List IV)} (hn:es.length=n) (hi:Inv w m φ st) (hr:Rep m φ (slA n id k) v) (hst:n≠0→st id=some (.arr k es)) :
 ∃ m1,IRep m1 (.isl es) v∧Inv w m1 φ (if n=0 then st else upd st id (some (.frz k es)))∧Adv w m φ w m1 φ:=by
 unfold slA at hr;by_cases h0:n=0
 ·simp only[h0,if_true]at hr ⊢;have:es=[]:=zW.1 (by omega);subst this
  cases hr
  exact⟨m, .isl0 _ _ (fun _=>rfl),hi, .refl _ _ _⟩
 ·simp only[h0,if_false]at hr ⊢;have hid:=hst h0
  have hfr:rF st (.osl id k 0 n)=some (.isl es,upd st id (some (.frz k es))):=by
   simp[rF,frz,vR,uM,hid,tst,window,bnd,iO,zY,hn]
  exact jM hi hr hfr
theorem LF {w:World} {m:Mem} {b:Nat}:∀ {ks:List Pn} {o:Nat} {vs:List Value},ICells m (Pn.aB ks).flatten vs→(∀ j v,vs[j]?=some v→w.cell? ⟨b,o+j,none⟩=some v)→THL w m ks b o [] (lW b o ks)
 | [],o,_,_,_=>.nil b o
 | k::ks,o,vs,h,hw=>by
  simp only[Pn.aB,z8]at h;have h1:=h.take 5;have h2:=h.drop 5;rw[List.take_left' (Pn.dN k)]at h1;rw[List.drop_left' (Pn.dN k)]at h2;have hl:=h1.length;rw[Pn.dN]at hl;have hlen:5≤vs.length:=by rw[yL]at hl;omega
  have hf:THL w m (k::ks) b o ([]++[]) ([((b,o),k)]++lW b (o+5) ks):=by
   refine .cons ?_ (LF h2 fun j v hj=>?_)
   ·have e:vs.take 5=[vs[0],vs[1],vs[2],vs[3],vs[4]]:=by
     apply List.ext_getElem (by simp;omega);intro i l1 l2;simp at l1 l2
     rcases i with _|_|_|_|_|i
     ·simp
     ·simp
     ·simp
     ·simp
     ·simp
     ·omega
    rw[e]at h1;exact .fresh h1 ⟨hw 0 _ (by simp),hw 1 _ (by simp),hw 2 _ (by simp),hw 3 _ (by simp),hw 4 _ (by simp)⟩
   ·rw[yS]at hj;have:=hw (5+j) v hj
    rwa [← Nat.add_assoc]at this
  exact hf
theorem GR.AVA {ok:Nat→Prop} {root:Nat} {p:Pn} {F:List Nat} {H:PL} {env env':Nat→AV} {st st':Store} {a:Act} {w wa:World} {ma:Mem} {u bq oq idE idC idK:Nat} {pre post us:List Value} {k t:Int} {es:List Ex} {cs:List Int} {ks:List Pn}
 (h:GR wi mi nt ok (ADP wi root p F H bq us wa ma) env st a w) (h1:us.take oq=pre) (h2:us.drop (oq+5)=post) (h3:pre.length=oq) (h4:us.length=oq+5+post.length)
 (hq:((bq,oq),Pn.mk k t es cs ks)∈H) (hbox:st 2=some (.box (kU pre [.int k, .int t,slA es.length idE 5,slA cs.length idC 1,slA ks.length idK 5] post)))
 (hE:es.length≠0→st idE=some (.arr 5 (Ex.aB es))) (hC:cs.length≠0→st idC=some (.arr 1 (aG cs))) (hK:ks.length≠0→st idK=some (.arr 5 (Pn.aB ks)))
 (hd:2<idE∧2<idC∧2<idK∧idE≠idC∧idE≠idK∧idC≠idK)
 (hst:∀ i blk,st' i=some blk→i<2∧st i=some blk∧jP blk) (he:∀ t,env' t=.junk∨(env' t=env t∧(env t=.own 2 oq∨mE st' (env t)))) :
 ∃ F' H' us' b' cap vE vC m2,(((bq,oq),Pn.mk k t es cs ks)::H').Perm (H++lW b' 0 ks)∧us'=pre++([.int .i64 k, .int .i64 t,vE,vC,if ks.length=0 then .slice none 0 0 else .slice (some ⟨b',0,none⟩) ks.length cap]++post)∧(∀ v∈us',v.oneCell'=true)∧(∀ q∈H,q.1.1≠b') ∧
   GR wi mi nt (fun id=>id≤2) (ADP wi root p F' H' bq us' w m2) env' (upd st' 2 (some (.box (dH us')))) a w:=by
 obtain⟨⟨m,φ,hi,henv,hadv,hk,hr⟩,h6,h7⟩:=h;obtain⟨n2,e2⟩:=hr.own;obtain⟨hb2,hok2⟩:=dU hi e2 hbox;obtain⟨d1,d2,d3,d4,d5,d6⟩:=hd
 cases hok2 with
 | @box T _ vs hh hl hrc hm =>
  have hone:=hrc.one;obtain⟨vp,x,rfl,r1,r2⟩:=mQ hrc;obtain⟨vr,vq,rfl,r3,r4⟩:=mQ r2;obtain rfl:=(qF r1).symm;obtain rfl:=(qF r4).symm
  cases r3 with
  | cons a0 o0 r3 =>
  cases r3 with
  | cons a1 o1 r3 =>
  cases r3 with
  | @cons _ vE _ _ aE oE r3 =>
  cases r3 with
  | @cons _ vC _ _ aC oC r3 =>
  cases r3 with
  | @cons _ vK _ _ aK oK r3 =>
  cases r3
  obtain rfl:=a0.cB;obtain rfl:=a1.cB;obtain⟨m1,f1,i1,g1⟩:=ADJ (es:=Ex.aB es) (by simp) hi aE hE
  have s1:∀ i,i≠idE→(if es.length=0 then st else upd st idE (some (.frz 5 (Ex.aB es)))) i=st i:=fun i hne=>by
   split
   ·rfl
   ·simp[upd,hne]
  generalize (if es.length=0 then st else upd st idE (some (.frz 5 (Ex.aB es))))=st1 at i1 s1;obtain⟨m2,f2,i2,g2⟩:=ADJ (es:=aG cs) (by simp) i1 (aC.mono g1.mle (.refl _)) (fun h0=>by rw[s1 _ (by omega)];exact hC h0)
  have s2:∀ i,i≠idE→i≠idC→(if cs.length=0 then st1 else upd st1 idC (some (.frz 1 (aG cs)))) i=st i:=fun i hne hne2=>by
   split
   ·exact s1 i hne
   ·simp[upd,hne2,s1 i hne]
  generalize (if cs.length=0 then st1 else upd st1 idC (some (.frz 1 (aG cs))))=st2 at i2 s2;have hA:=(hadv.trans g1).trans g2
  have hm2:∀ o,m2 bq o=none:=by
   have hb:=s2 2 (by omega) (by omega);rw[hbox]at hb;obtain⟨_,hok⟩:=dU i2 e2 hb
   cases hok with|box _ _ _ q=>exact q
  have hlit:BlkOk w m2 φ bq n2 (.box (dH (pre++([.int .i64 k, .int .i64 t,vE,vC,vK]++post)))):=.box hh hl (p8 hone) hm2;have i3:=i2.AVB (by rw[s2 2 (by omega) (by omega)];exact hbox) e2 hlit;generalize hus:pre++([.int .i64 k, .int .i64 t,vE,vC,vK]++post)=us' at hh hl hone hlit i3
  have hst2:∀ i blk,upd st' 2 (some (.box (dH us'))) i=some blk→upd st2 2 (some (.box (dH us'))) i=some blk∧jP blk:=by
   intro i blk hb;by_cases hid:i=2
   ·subst hid;simp[upd]at hb ⊢;refine⟨hb,?_⟩;subst hb;intro c hc;obtain⟨v,_,rfl⟩:=yF.1 hc;exact .inl ⟨v,rfl⟩
   ·simp[upd,hid]at hb ⊢;obtain⟨q1,q2,q3⟩:=hst i blk hb;exact⟨by rw[s2 i (by omega) (by omega)];exact q2,q3⟩
  have i4:=i3.cut hst2
  have hat:At5 w bq oq (.int .i64 k) (.int .i64 t) vE vC vK:=by
   have g:∀ (j:Nat) (v:Value),[Value.int .i64 k, .int .i64 t,vE,vC,vK][j]?=some v→w.cell? ⟨bq,oq+j,none⟩=some v:=by
    intro j v hj;have hj5:=(zZ.1 hj).1;rw[bO hh,← hus,zH (by omega),h3,yC,zG hj5];exact hj
   exact⟨g 0 _ rfl,g 1 _ rfl,g 2 _ rfl,g 3 _ rfl,g 4 _ rfl⟩
  have hHlt:∀ q∈H,q.1.1∈root::F:=fun q hq=>by
   rcases hr.th.holes q hq with e|e
   ·simp[e]
   ·simp[e]
  have hlt:∀ f∈root::F,f<w.heap.size:=fun f hf=>by
   by_cases hne:f=bq
   ·subst hne;exact(zF.1 hh).1
   ·exact(hr.oth f hf hne).2.1
  have hmon:=hr.le.trans (g1.mle.trans g2.mle);have fE:IRep m2 (.isl (Ex.aB es)) vE:=f1.mono g2.mle
  obtain⟨b',cap,G,hvK,hTH,hG,hGn,hbn⟩:∃ b' cap G,vK=(if ks.length=0 then Value.slice none 0 0 else Value.slice (some ⟨b',0,none⟩) ks.length cap)∧TH w m2 (.mk k t es cs ks) bq oq G (lW b' 0 ks) ∧
   (∀ f∈G,wi.heap.size≤f∧f<w.heap.size∧l9 (wG (upd st' 2 (some (.box (dH us')))) φ) f∧(∀ o,m2 f o=none)∧(∃ (vs:List Value) (T:TypeId),w.heap[f]?=some (.cells vs.toArray T (0,0))∧∀ v∈vs,v.oneCell'=true)∧f≠bq∧f ∉ root::F)∧G.Nodup∧∀ q∈H,q.1.1≠b':=by
   by_cases h0:ks.length=0
   ·have hks:ks=[]:=zW.1 h0;subst hks;simp only[slA,yQ,if_true]at aK
    cases aK
    exact⟨w.heap.size,0,[],rfl, .leaf hat fE f2 (fun _=>rfl),by simp,List.nodup_nil,fun q hq e=>by have:=hlt _ (hHlt q hq);omega⟩
   ·simp only[slA,h0,if_false]at aK
    cases aK with
    | @osl _ _ _ _ cap b' nK ao eK l1 l2 l3 l4 =>
     have hao:=l3 (by omega);subst hao;have hK2:st2 idK=some (.arr 5 (Pn.aB ks)):=by rw[s2 idK (by omega) (by omega)];exact hK h0
     obtain⟨hbK,hokK⟩:=dU i2 eK hK2
     cases hokK with
     | @arr TK _ _ vk q1 q2 q3 q4 q5 q6 q7 q8 q9 =>
      have hb'q:b'≠bq:=fun e=>by
       subst e;have:=hi.inj idK 2 b' b' nK n2 _ _ b' (hK h0) hbox eK e2 hbK.1 hb2.1;omega
      have hnF:b' ∉ root::F:=fun hm=>by
       exact(hr.oth b' hm hb'q).2.2.1 idK b' nK eK hbK.1
      refine⟨b',cap,[b'],by simp[h0],?_,?_,by simp,fun q hq e=>hnF (e ▸ hHlt q hq)⟩
      ·refine .node hat fE f2 (fun e=>h0 (by rw[e];rfl)) (by omega) ?_;rw[Pn.aY]at q5
       exact LF q5 fun j v hj=>by
        rw[zI,bO q1];rw[zK]at hj;split at hj
        ·exact hj
        ·cases hj
      ·intro f hf;simp at hf;subst hf;refine⟨GL hadv eK hbK.1,hbK.2 _ hbK.1,?_,q7,⟨vk,TK,q1,q9⟩,hb'q,hnF⟩;refine sU i3 hst2 (id:=idK) (blk:=.arr 5 (Pn.aB ks)) (by simp[upd,show idK≠2 by omega,hK2]) ?_ eK hbK.1;have:idK≠2:=by omega
       simp only[upd,this,if_false]
       cases hx:st' idK with
       | none=>rfl
       | some blk=>have:=(hst idK blk hx).1;omega
  obtain⟨T0,hrow0⟩:=hr.row
  have hsame:∀ f∈root::F,∀ j,(f≠bq∨j<oq∨oq+5≤j)→w.cell? ⟨f,j,none⟩=wa.cell? ⟨f,j,none⟩:=by
   intro f hf j hj;by_cases hne:f=bq
   ·subst hne;rw[bO hh,bO hrow0,← hus]
    rcases hj with hj|hj|hj
    ·exact absurd rfl hj
    ·rw[zG (by omega),← h1,zK];simp[hj]
    ·rw[zH (by omega),zH (by simp;omega),← h2,yS];simp only[zQ,yQ,h3];congr 1;omega
   ·exact jO (hr.oth f hf hne).2.2.2.2.1 j
  obtain⟨F1,H1,k1,k2,k3⟩:=TH.fill hmon hTH hr.th hr.nr hr.nd hq hsame;have hF1:∀ f,f∈F1↔f∈F∨f∈G:=fun f=>by rw[k2.mem_iff,zT]
  refine⟨F1,H1,us',b',cap,vE,vC,m2,k3,by rw[← hus,hvK],hone,hbn,⟨⟨m2,wG (upd st' 2 (some (.box (dH us')))) φ,i4,fun x=>?_,hA.cut,fun id hid=>?_,?_⟩,h6,h7⟩⟩
  ·rcases he x with e|⟨e,e'|e'⟩
   ·rw[e];exact .junk _
   ·rw[e,e'];have hx:=henv x;rw[e']at hx;generalize a.tmps.getD x undef=yy at hx ⊢
    cases hx with
    | own e3=>exact .own (by rw[oG (by simp[upd])];exact e3)
   ·rw[e];refine mE.rep e' (fun i hi'=>?_) (henv x);refine oG ?_;by_cases hid:i=2
    ·subst hid;simp[upd]
    ·simpa [upd,hid]using hi'
  ·cases hx:wG (upd st' 2 (some (.box (dH us')))) φ id with
   | none=>exact absurd hx hid
   | some q =>
    have:=(dX hx).2;by_cases hid2:id=2
    ·omega
    ·simp[upd,hid2]at this
     cases hy:st' id with
     | none=>exact absurd hy this
     | some blk=>have:=(hst id blk hy).1;omega
  ·refine⟨k1,fun hm=>?_,?_, .refl _,?_,⟨n2,by rw[oG (by simp[upd])];exact e2⟩,⟨T,hh⟩,hr.bqn,fun f hf hne=>?_⟩
   ·rcases(hF1 root).1 hm with h|h
    ·exact hr.nr h
    ·exact(hG root h).2.2.2.2.2.2 (by simp)
   ·rw[k2.nodup_iff];exact yT.2 ⟨hr.nd,hGn,fun x hx y hy e=>(hG y hy).2.2.2.2.2.2 (by rw[← e];simp[hx])⟩
   ·rcases zO.1 hr.inF with e|e
    ·simp[e]
    ·simp[(hF1 bq).2 (.inl e)]
   ·have hf':f∈root::F∨f∈G:=by
     rcases zO.1 hf with e|e
     ·exact .inl (by simp[e])
     ·rcases(hF1 f).1 e with e|e
      ·exact .inl (by simp[e])
      ·exact .inr e
    rcases hf' with hf'|hf'
    ·obtain⟨q1,q2,q3,q4,q5,vs,T',q6,q7⟩:=hr.oth f hf' hne;refine⟨q1,q2,q3.cut,fun o=>?_,rfl,vs,T',by rw[q5];exact q6,q7⟩;rw[(g1.trans g2).mnew f q2 q3 o];exact q4 o
    ·obtain⟨q1,q2,q3,q4,q5,_⟩:=hG f hf';exact⟨q1,q2,q3,q4,rfl,q5⟩
theorem GR.YD {ok:Nat→Prop} {root:Nat} {p:Pn} {F:List Nat} {H:PL} {env env':Nat→AV} {st st':Store} {a:Act} {w wa:World} {ma:Mem} {bq:Nat} {us:List Value}
 (h:GR wi mi nt ok (ADP wi root p F H bq us wa ma) env st a w) (hbox:st 2=some (.box (dH us)))
 (hst:∀ i blk,st' i=some blk→i≠2∧st i=some blk∧jP blk) (he:∀ t,env' t=.junk∨(env' t=env t∧mE st' (env t))) :
 GR wi mi nt (fun id=>st' id≠none) (RAW wi root p F H) env' st' a w:=by
 obtain⟨⟨m,φ,hi,henv,hadv,hk,hr⟩,h6,h7⟩:=h;obtain⟨n2,e2⟩:=hr.own;obtain⟨hb2,hok2⟩:=dU hi e2 hbox;have hst2:∀ i blk,st' i=some blk→st i=some blk∧jP blk:=fun i blk hb=>(hst i blk hb).2
 cases hok2 with
 | @box T _ vs hh hl hrc hm =>
  have hone:=hrc.one;obtain rfl:=(qF hrc).symm;obtain⟨T0,hrow0⟩:=hr.row
  have hcell:∀ f∈root::F,∀ j,w.cell? ⟨f,j,none⟩=wa.cell? ⟨f,j,none⟩:=by
   intro f hf j;by_cases hne:f=bq
   ·subst hne;rw[bO hh,bO hrow0]
   ·exact jO (hr.oth f hf hne).2.2.2.2.1 j
  refine⟨⟨m,wG st' φ,hi.cut hst2,fun x=>?_,hadv.cut,fun id hid=>?_,?_⟩,h6,h7⟩
  ·rcases he x with e|⟨e,e'⟩
   ·rw[e];exact .junk _
   ·rw[e];exact e'.rep (fun i hi'=>oG hi') (henv x)
  ·cases hx:wG st' φ id with
   | none=>exact absurd hx hid
   | some q=>exact(dX hx).2
  ·refine⟨hr.th.frame hr.le (fun j _ _=>hcell root (by simp) j) (fun f hf j=>hcell f (by simp[hf]) j),hr.nr,hr.nd,fun f hf=>?_⟩;by_cases hne:f=bq
   ·subst hne;refine⟨hr.bqn,(zF.1 hh).1,?_,hm,us,T,hh,hone⟩;refine sU hi hst2 hbox ?_ e2 hb2.1
    cases hx:st' 2 with
    | none=>rfl
    | some blk=>exact absurd rfl (hst 2 blk hx).1
   ·obtain⟨q1,q2,q3,q4,q5,vs',T',q6,q7⟩:=hr.oth f hf hne;exact⟨q1,q2,q3.cut,q4,vs',T',by rw[q5];exact q6,q7⟩
end
theorem FY {m:Mem} {φ:Pl}:∀ {cs:List IV} {vs:List Value},RepC m φ (l5 cs) vs→ICells m cs vs
 | [],_, .nil=>.nil
 | c::cs,_, .cons a o b=>by
  cases a with
  | i a=>exact .cons a o (FY b)
section
variable {wi:World} {mi:Mem} {nt:Nat}
theorem GR.AYE {ok:Nat→Prop} {R:World→Mem→Pl→Prop} {p:Pn} {env:Nat→AV} {st st':Store} {a:Act} {w:World} {u id:Nat} (h:GR wi mi nt ok R env st a w) (hu:env u=.own id 0) (hbox:st id=some (.box (l5 p.cells)))
 (hst:∀ i blk,st' i=some blk→i≠id∧st i=some blk∧jP blk) :
 ∃ b3,∀ env',(∀ t,env' t=.junk∨(t=u∧env' t=.i (.lit (.pointer (some ⟨b3,0,none⟩))))∨(env' t=env t∧mE st' (env t)))→GR wi mi nt (fun i=>st' i≠none) (RAW wi b3 p [] [((b3,0),p)]) env' st' a w:=by
 obtain⟨⟨m,φ,hi,henv,hadv,hk,_⟩,h6,h7⟩:=h;have hr:=henv u;rw[hu]at hr;generalize hy:a.tmps.getD u undef=yy at hr
 cases hr with
 | @own _ _ b3 n3 e3 =>
  obtain⟨hb,hok⟩:=dU hi e3 hbox;have hst2:∀ i blk,st' i=some blk→st i=some blk∧jP blk:=fun i blk hb=>(hst i blk hb).2
  cases hok with
  | @box T _ vs hh hl hrc hm =>
   have hc:=FY hrc;have hlen:=hc.length;rw[Pn.dN]at hlen
   obtain⟨v0,v1,v2,v3,v4,rfl⟩:∃ v0 v1 v2 v3 v4,vs=[v0,v1,v2,v3,v4]:=by
    match vs,hlen with
    | [v0,v1,v2,v3,v4],_=>exact⟨v0,v1,v2,v3,v4,rfl⟩
   refine⟨b3,fun env' he=>⟨⟨m,wG st' φ,hi.cut hst2,fun t=>?_,hadv.cut,fun i hi'=>?_,?_⟩,h6,h7⟩⟩
   ·rcases he t with e|⟨rfl,e⟩|⟨e,e'⟩
    ·rw[e];exact .junk _
    ·rw[e,hy];exact .i (.lit _)
    ·rw[e];exact e'.rep (fun i hi'=>oG hi') (henv t)
   ·cases hx:wG st' φ i with
    | none=>exact absurd hx hi'
    | some q=>exact(dX hx).2
   ·refine⟨.fresh hc ⟨by rw[bO hh];rfl,by rw[bO hh];rfl,by rw[bO hh];rfl,by rw[bO hh];rfl,by rw[bO hh];rfl⟩,by simp,List.nodup_nil,fun f hf=>?_⟩;simp at hf;subst hf;refine⟨GL hadv e3 hb.1,hb.2 _ hb.1,?_,hm,_,T,hh,hrc.one⟩;refine sU hi hst2 hbox ?_ e3 hb.1
    cases hx:st' id with
    | none=>rfl
    | some blk=>exact absurd rfl (hst id blk hx).1
theorem GR.fin {ok:Nat→Prop} {root:Nat} {p:Pn} {F:List Nat} {env:Nat→AV} {st:Store} {a:Act} {w:World} (h:GR wi mi nt ok (RAW wi root p F []) env st a w) (hst:∀ i blk,st i=some blk→jP blk) {u:Nat} (hu:env u=.i (.lit (.pointer (some ⟨root,0,none⟩)))) {env':Nat→AV} (he:∀ t,env' t=.junk∨(t=u∧env' t=.i (.iref p.cells))∨(env' t=env t∧mE st (env t))) :
 GR wi mi nt ok (fun _ _ _=>True) env' st a w:=by
 classical
 obtain⟨⟨m,φ,hi,henv,hadv,hk,hr⟩,h6,h7⟩:=h
 let m':Mem:=fun f o=>if f∈root::F then w.cell? ⟨f,o,none⟩else m f o
 have hin:∀ f,f∈root::F→∀ o,m' f o=w.cell? ⟨f,o,none⟩:=fun f hf o=>by show(if f∈root::F then _ else _)=_;rw[if_pos hf]
 have hout:∀ f,f ∉ root::F→∀ o,m' f o=m f o:=fun f hf o=>by show(if f∈root::F then _ else _)=_;rw[if_neg hf]
 have hle:MLe m m':=fun f o v e=>by
  by_cases hf:f∈root::F
  ·rw[(hr.all f hf).2.2.2.1 o]at e;cases e
  ·rw[hout f hf];exact e
 have hmem:nI w m':=fun f o v e=>by
  by_cases hf:f∈root::F
  ·rw[hin f hf]at e;exact e
  ·rw[hout f hf]at e;exact hi.mem f o v e
 have hat:IAt m' root 0 p.cells:=hr.th.iat hle (fun j _ _=>hin root (by simp) j) (fun f hf j=>hin f (by simp[hf]) j);refine⟨⟨m',φ,⟨hmem,fun i blk hb=>?_,hi.inj,hi.low⟩,fun t=>?_,⟨hadv.size,hadv.os,hadv.tape,hadv.output,hadv.block,hadv.mle.trans hle,fun f hf hfr o=>?_,hadv.ple,hadv.pnew⟩,hk,trivial⟩,h6,h7⟩
 ·obtain⟨b,n,q1,q2,q3⟩:=hi.live i blk hb;refine⟨b,n,q1,q2,q3.ACK (hst i blk hb) rfl fun o ho=>?_⟩;rw[hout b (fun hf=>(hr.all b hf).2.2.1 i b n q1 q2.1)];exact ho
 ·rcases he t with e|⟨rfl,e⟩|⟨e,e'⟩
  ·rw[e];exact .junk _
  ·have hx:=henv t;rw[hu]at hx;rw[e,hx.cB];exact .i (.iref hat)
  ·rw[e];exact e'.rep (fun _ _=>rfl) (henv t)
 ·rw[hout f (fun hf'=>by have:=(hr.all f hf').1;omega)];exact hadv.mnew f hf hfr o
theorem RAW.keep {root:Nat} {p:Pn} {F:List Nat} {H:PL} {w:World} {m:Mem} {φ:Pl} (ids:List Nat) (h:RAW wi root p F H w m φ):RAW wi root p F H w m (fK ids φ):=by
 refine⟨h.th,h.nr,h.nd,fun f hf=>?_⟩;obtain⟨k1,k2,k3,k4,k5⟩:=h.all f hf;refine⟨k1,k2,fun id r n e=>?_,k4,k5⟩;unfold fK at e
 cases hx:ids[id]? with
 | none=>rw[hx]at e;cases e
 | some j=>rw[hx]at e;exact k3 j r n e
theorem GR.settle {ok:Nat→Prop} {R:World→Mem→Pl→Prop} (hR:∀ w m φ ids,R w m φ→R w m (fK ids φ)) {env:Nat→AV} {st:Store} {a:Act} {w:World} (G:List Nat) (h:GR wi mi nt ok R env st a w) :
 GR wi mi nt (fun id=>id<(Av.settle G 0 env st).st.length) R (aX (Av.settle G 0 env st).env) (bJ (Av.settle G 0 env st).st) a w:=by
 obtain⟨⟨m,φ,hi,henv,hadv,hok,hK⟩,hsz,hdf⟩:=h;unfold Av.settle BD;generalize hids:iX st 0 (BS env G)=ids;have hd:ids.Nodup:=by rw[← hids];exact iI _ _ _
 refine⟨⟨m,fK ids φ,hi.keep hd,?_,hadv.keep (fun id h=>absurd rfl h) (fun j hj=>absurd hj (xK j)),?_,hR _ _ _ ids hK⟩,hsz,hdf⟩
 ·intro t
  have key:∀ G:List Nat,Rep m (fK ids φ) (aX (o9 (gX ids) env G) t) (a.tmps.getD t undef):=by
   intro G
   induction G with
   | nil=>exact .junk _
   | cons u G ih =>
    simp only[o9,aX];by_cases e:t=u
    ·subst e;simp only[if_true];exact(henv t).ren (mX ids φ)
    ·simp only[e,if_false];exact ih
  exact key G
 ·intro id hne;simp only[iF];unfold fK at hne
  cases hx:ids[id]? with
  | none=>rw[hx]at hne;exact absurd rfl hne
  | some i=>exact(zZ.1 hx).1
theorem GR.envTo {ok:Nat→Prop} {R:World→Mem→Pl→Prop} {env env':Nat→AV} {st:Store} {a:Act} {w:World} (h:GR wi mi nt ok R env st a w) (he:∀ t,env' t=.junk∨env' t=env t):GR wi mi nt ok R env' st a w:=by
 refine h.turn fun m φ h1 h2 h3 h4 h5=>⟨m,φ,h1,fun t=>?_,h3,h4,h5⟩
 rcases he t with e|e
 ·rw[e];exact .junk _
 ·rw[e];exact h2 t
theorem GR.ok' {ok ok':Nat→Prop} {R:World→Mem→Pl→Prop} {env:Nat→AV} {st:Store} {a:Act} {w:World} (h:GR wi mi nt ok R env st a w) (he:∀ id,ok id→ok' id):GR wi mi nt ok' R env st a w :=
 h.turn fun m φ h1 h2 h3 h4 h5=>⟨m,φ,h1,h2,h3,fun id hi=>he id (h4 id hi),h5⟩
theorem GR.AT0 {C:Ctx} (hS:SoundOk C) {G:List Nat} {c:Code} {S:AS} {a:Act} {w:World} {R:World→Mem→Pl→Prop} (hR:AHK R) {PP:AExit→AS→Prop} (hc:codeOk nt c=true) (hx:∃ e S',dI C G S.st.length c S=some (e,S')∧PP e S') (h:GR wi mi nt (fun id=>id<S.st.length) R (aX S.env) (bJ S.st) a w) (hnr:bW c=true:=by rfl) :
 c.wp C.P (fun e' a' w'=>∃ e S',e'=mY e∧PP e S'∧GR wi mi nt (fun id=>id<S'.st.length) R (aX S'.env) (bJ S'.st) a' w') a w:=by
 obtain⟨e,S',h1,h2⟩:=hx;refine wp_mono (GR.gU hS hR hc h1 h hnr) ?_;rintro e' a' w' ⟨rfl,hg⟩;exact⟨e,S',rfl,h2,hg⟩
end
@[simp] theorem DF (a:List Value):(dH a).length=a.length:=by simp[dH]
theorem TR {α:Type}:∀ (a b:List α) (n:Nat),dropE (a.length+n) (a++b)=dropE n b
 | [],b,n=>by simp
 | x::a,b,n=>by
  rw[zQ,show a.length+1+n=(a.length+n)+1 by omega];exact TR a b n
theorem KI {α:Type}:∀ (a b:List α) (n:Nat) (xs:List α),splice (a++b) (a.length+n) xs=bnd (splice b n xs) fun l=>some (a++l)
 | [],b,n,xs=>by simp;cases splice b n xs<;>rfl
 | x::a,b,n,xs=>by
  rw[zQ,show a.length+1+n=(a.length+n)+1 by omega];show bnd (splice (a++b) (a.length+n) xs) _=_;rw[KI a b n xs]
  cases splice b n xs<;>rfl
theorem OI (pre post:List Value) (row:List AV) (j n:Nat):cut (kU pre row post) (pre.length+j) n=cut (row++dH post) j n:=by
 unfold cut kU;have:=TR (dH pre) (row++dH post) j;rw[DF]at this;rw[this]
theorem pR (pre post:List Value) (row:List AV) (j:Nat) (xs:List AV):splice (kU pre row post) (pre.length+j) xs=bnd (splice (row++dH post) j xs) fun l=>some (dH pre++l):=by
 unfold kU;have:=KI (dH pre) (row++dH post) j xs;rw[DF]at this;exact this
theorem I5 (a:List Value):bB (dH a)=[]:=by
 induction a with
 | nil=>rfl
 | cons v a ih=>simpa [dH,bB,dR]using ih
theorem KU (r:Nat→Option Nat) (a:List Value):D5 r (dH a)=dH a:=by
 induction a with
 | nil=>rfl
 | cons v a ih=>simpa [dH,D5,ren]using ih
theorem AB9 (a b:List AV):bB (a++b)=bB a++bB b:=by
 induction a with
 | nil=>rfl
 | cons c a ih=>simp[bB,ih]
theorem AIM (r:Nat→Option Nat) (a b:List AV):D5 r (a++b)=D5 r a++D5 r b:=by
 induction a with
 | nil=>rfl
 | cons c a ih=>simp[D5,ih]
theorem bD (pre post:List Value) (row:List AV):bB (kU pre row post)=bB row:=by
 simp[kU,AB9,I5]
theorem bV (r:Nat→Option Nat) (pre post:List Value) (row:List AV):D5 r (kU pre row post)=kU pre (D5 r row) post:=by
 simp[kU,AIM,KU]
section
variable (pre post:List Value) (a0 a1 a2 a3 a4 x:AV)
theorem AWK:cut (kU pre [a0,a1,a2,a3,a4] post) (pre.length+2) 1=some [a2]:=by rw[OI];rfl
theorem AWJ:cut (kU pre [a0,a1,a2,a3,a4] post) (pre.length+3) 1=some [a3]:=by rw[OI];rfl
theorem AWI:cut (kU pre [a0,a1,a2,a3,a4] post) (pre.length+4) 1=some [a4]:=by rw[OI];rfl
theorem AAD:splice (kU pre [a0,a1,a2,a3,a4] post) (pre.length+2) [x]=some (kU pre [a0,a1,x,a3,a4] post):=by rw[pR];rfl
theorem AIA:splice (kU pre [a0,a1,a2,a3,a4] post) (pre.length+3) [x]=some (kU pre [a0,a1,a2,x,a4] post):=by rw[pR];rfl
theorem QG:splice (kU pre [a0,a1,a2,a3,a4] post) (pre.length+4) [x]=some (kU pre [a0,a1,a2,a3,x] post):=by rw[pR];cases post<;>rfl
theorem APT:wP 1 (dropE (pre.length+2) (kU pre [a0,a1,a2,a3,a4] post))=some [a2]:=AWK pre post a0 a1 a2 a3 a4
theorem ATT:wP 1 (dropE (pre.length+3) (kU pre [a0,a1,a2,a3,a4] post))=some [a3]:=AWJ pre post a0 a1 a2 a3 a4
theorem ZR:wP 1 (dropE (pre.length+4) (kU pre [a0,a1,a2,a3,a4] post))=some [a4]:=AWI pre post a0 a1 a2 a3 a4
end
mutual
theorem TH.AX8 {w:World} {m m':Mem} (hm:MLe m m') {x:Pn} {b o:Nat} {F:List Nat} {H:PL}:TH w m x b o F H→(∀ j,o≤j→j<o+5→m' b j=w.cell? ⟨b,j,none⟩)→(∀ f∈F,∀ j,m' f j=w.cell? ⟨f,j,none⟩)→IAt m' b o x.cells
 | .fresh h1 h2,hb,hF=>by
  refine IAt.mk o (h1.mono hm) fun j v hj=>?_
  rcases j with _|_|_|_|_|j
  ·simp at hj;subst hj;exact(hb _ (by omega) (by omega)).trans h2.c0
  ·simp at hj;subst hj;exact(hb _ (by omega) (by omega)).trans h2.c1
  ·simp at hj;subst hj;exact(hb _ (by omega) (by omega)).trans h2.c2
  ·simp at hj;subst hj;exact(hb _ (by omega) (by omega)).trans h2.c3
  ·simp at hj;subst hj;exact(hb _ (by omega) (by omega)).trans h2.c4
  ·simp at hj
 | .leaf h1 h2 h3 h4,hb,hF=>by
  rw[Pn.aW];have o2:(∀ es v,IRep m (.isl es) v→v.oneCell'=true):=fun es v h=>by cases h<;>rfl
  exact .cons ((hb _ (by omega) (by omega)).trans h1.c0) (.lit _) rfl (.cons ((hb _ (by omega) (by omega)).trans h1.c1) (.lit _) rfl (.cons ((hb _ (by omega) (by omega)).trans h1.c2) (h2.mono hm) (o2 _ _ h2) (.cons ((hb _ (by omega) (by omega)).trans h1.c3) (h3.mono hm) (o2 _ _ h3) (.cons ((hb _ (by omega) (by omega)).trans h1.c4) (.isl0 _ _ h4) rfl (.nil _ _)))))
 | .node h1 h2 h3 h4 h5 h6,hb,hF=>by
  rename_i ks b' cap vE vC F;rw[Pn.aW];have o2:(∀ es v,IRep m (.isl es) v→v.oneCell'=true):=fun es v h=>by cases h<;>rfl
  have he:=THL.AVR hm h6 (fun j _ _=>hF b' (by simp) j) (fun f hf=>hF f (by simp[hf]));have hl:(Pn.aB ks).length=ks.length:=by simp
  have hn:Pn.aB ks≠[]:=fun e=>by rw[e]at hl;simp at hl;exact h4 (zW.1 hl.symm)
  have hk:IRep m' (.isl (Pn.aB ks)) (.slice (some ⟨b',0,none⟩) ks.length cap):=by
   have:=IRep.isl (cap:=cap) hn he (by omega)
   rwa [hl]at this
  exact .cons ((hb _ (by omega) (by omega)).trans h1.c0) (.lit _) rfl (.cons ((hb _ (by omega) (by omega)).trans h1.c1) (.lit _) rfl (.cons ((hb _ (by omega) (by omega)).trans h1.c2) (h2.mono hm) (o2 _ _ h2) (.cons ((hb _ (by omega) (by omega)).trans h1.c3) (h3.mono hm) (o2 _ _ h3) (.cons ((hb _ (by omega) (by omega)).trans h1.c4) hk rfl (.nil _ _)))))
theorem THL.AVR {w:World} {m m':Mem} (hm:MLe m m') {xs:List Pn} {b o:Nat} {F:List Nat} {H:PL}:THL w m xs b o F H→(∀ j,o≤j→j<o+5*xs.length→m' b j=w.cell? ⟨b,j,none⟩)→(∀ f∈F,∀ j,m' f j=w.cell? ⟨f,j,none⟩)→IElems m' b o 5 (Pn.aB xs)
 | .nil b o,hb,hF=>by simp only[Pn.aB];exact .nil b o 5
 | .cons h1 h2,hb,hF=>by
  simp only[Pn.aB];exact .cons (TH.AX8 hm h1 (fun j l1 l2=>hb j l1 (by simp only[zQ];omega)) (fun f hf=>hF f (by simp[hf]))) (Pn.dN _) (THL.AVR hm h2 (fun j l1 l2=>hb j (by omega) (by simp only[zQ];omega)) (fun f hf=>hF f (by simp[hf])))
end
theorem THL.nth {w:World} {m:Mem} {b:Nat}:∀ {xs:List Pn} {o:Nat} {F:List Nat} {i:Nat} {x:Pn},THL w m xs b o F []→xs[i]?=some x →
 ∃ Fa Fi Fz,F=Fa++(Fi++Fz)∧TH w m x b (o+5*i) Fi []∧∀ {w':World} {m':Mem} {y:Pn} {G:List Nat} {HY:PL},MLe m m'→(∀ j,o≤j→j<o+5*xs.length→(j<o+5*i∨o+5*i+5≤j)→w'.cell? ⟨b,j,none⟩=w.cell? ⟨b,j,none⟩) →
   (∀ f∈Fa++Fz,∀ j,w'.cell? ⟨f,j,none⟩=w.cell? ⟨f,j,none⟩)→TH w' m' y b (o+5*i) G HY→THL w' m' (xs.set i y) b o (Fa++(G++Fz)) HY:=by
 intro xs
 induction xs with
 | nil=>intro o F i x _ h;simp at h
 | cons a xs ih =>
  intro o F i x h hx;generalize hH:([]:PL)=H at h
  cases h with
  | @cons _ _ _ _ F1 F2 H1 H2 h1 h2 =>
   obtain⟨rfl,rfl⟩:=List.append_eq_nil_iff.1 hH.symm
   cases i with
   | zero =>
    simp at hx;subst hx;refine⟨[],F1,F2,by simp,by simpa using h1,fun {w' m' y G HY} hm hw hF hy=>?_⟩;have k2:=THL.frame hm (fun j l1 l2=>hw j (by omega) (by simp only[zQ];omega) (.inr (by omega))) (fun f hf=>hF f (by simp[hf])) h2;have:=THL.cons hy k2;simpa using this
   | succ i =>
    obtain⟨Fa,Fi,Fz,e,h3,h4⟩:=ih h2 (by simpa using hx);subst e;refine⟨F1++Fa,Fi,Fz,by simp,by rw[show o+5*(i+1)=o+5+5*i by omega];exact h3,fun {w' m' y G HY} hm hw hF hy=>?_⟩;rw[show o+5*(i+1)=o+5+5*i by omega]at hy;have k1:=TH.frame hm (fun j l1 l2=>hw j l1 (by simp only[zQ];omega) (.inl (by omega))) (fun f hf=>hF f (by simp[hf])) h1;have k2:=h4 hm (fun j l1 l2 l3=>hw j (by omega) (by simp only[zQ];omega) (by omega)) (fun f hf=>hF f (by rcases zT.1 hf with h|h<;>simp[h])) hy;have:=THL.cons k1 k2;simpa using this
theorem AIN {path:List Int} {x y z:Pn} {i:Nat} (h:Pn.at path x=some y):Pn.put (path++[(i:Int)]) x z=Pn.put path x (.mk y.kind y.table y.exprs y.cols (y.kids.set i z)):=by
 induction path generalizing x with
 | nil =>
  simp only[Pn.at,Option.some.injEq]at h;subst h
  cases hk:x.kids[i]? with
  | none =>
   have:x.kids.length≤i:=by simpa using hk
   simp[Pn.put,hk,List.set_eq_of_length_le this,Pn.eta]
  | some k=>simp[Pn.put,hk]
 | cons j path ih =>
  simp only[Pn.at]at h;split at h
  ·rename_i h0
   cases hk:x.kids[j.toNat]? with
   | none=>rw[hk]at h;cases h
   | some k =>
    rw[hk]at h;have:=ih h;simp[Pn.put,hk,this]
  ·cases h
structure AtP (w:World) (m:Mem) (x:Pn) (b o:Nat) (F:List Nat) (path:List Int) (y:Pn) (bq oq:Nat) (Fa Fy Fz:List Nat):Prop where
 eq:F=Fa++(Fy++Fz)
 inb:bq∈b::Fa
 nr:b ∉ F
 nd:F.Nodup
 is:Pn.at path x=some y
 th:TH w m y bq oq Fy []
 fill:∀ {w':World} {m':Mem} {y':Pn} {G:List Nat} {HY:PL},MLe m m'→(∀ f∈b::(Fa++Fz),∀ j,(f≠bq∨j<oq∨oq+5≤j)→w'.cell? ⟨f,j,none⟩=w.cell? ⟨f,j,none⟩)→TH w' m' y' bq oq G HY→TH w' m' (Pn.put path x y') b o (Fa++(G++Fz)) HY
theorem AtP.start {w:World} {m:Mem} {x:Pn} {b o:Nat} {F:List Nat} (h:TH w m x b o F []) (hr:b ∉ F) (hn:F.Nodup):AtP w m x b o F [] x b o [] F [] :=
 ⟨by simp,by simp,hr,hn,rfl,h,fun _ _ hy=>by simpa [Pn.put]using hy⟩
theorem AtP.mem {w:World} {m:Mem} {x:Pn} {b o:Nat} {F:List Nat} {path:List Int} {y:Pn} {bq oq:Nat} {Fa Fy Fz:List Nat} (h:AtP w m x b o F path y bq oq Fa Fy Fz):bq∈b::F:=by
 rw[h.eq]
 rcases zO.1 h.inb with e|e
 ·simp[e]
 ·simp[e]
theorem AtP.frame {w w':World} {m m':Mem} {x:Pn} {b o:Nat} {F:List Nat} {path:List Int} {y:Pn} {bq oq:Nat} {Fa Fy Fz:List Nat} (h:AtP w m x b o F path y bq oq Fa Fy Fz) (hm:MLe m m') (hF:∀ f∈b::F,∀ j,w'.cell? ⟨f,j,none⟩=w.cell? ⟨f,j,none⟩):AtP w' m' x b o F path y bq oq Fa Fy Fz:=by
 refine⟨h.eq,h.inb,h.nr,h.nd,h.is,h.th.frame hm (fun j _ _=>hF bq h.mem j) (fun f hf j=>hF f (by rw[h.eq];simp[hf]) j),fun hm' hw hy=>h.fill (hm.trans hm') (fun f hf j hj=>?_) hy⟩;rw[hw f hf j hj];refine hF f ?_ j;rw[h.eq]
 rcases zO.1 hf with e|e
 ·simp[e]
 ·rcases zT.1 e with e|e<;>simp[e]
theorem AtP.step {w:World} {m:Mem} {x:Pn} {b o:Nat} {F:List Nat} {path:List Int} {y z:Pn} {bq oq:Nat} {Fa Fy Fz:List Nat} {i:Nat} (h:AtP w m x b o F path y bq oq Fa Fy Fz) (hz:y.kids[i]?=some z) :
 ∃ b' cap,w.cell? ⟨bq,oq+4,none⟩=some (.slice (some ⟨b',0,none⟩) y.kids.length cap)∧y.kids.length≤cap∧∃ Fa' Fy' Fz',AtP w m x b o F (path++[(i:Int)]) z b' (5*i) Fa' Fy' Fz':=by
 have ht:=h.th;have hFq:=h.eq;generalize hH:([]:PL)=H at ht
 cases ht with
 | fresh=>cases hH
 | leaf h1 h2 h3 h4=>simp[Pn.kids]at hz
 | @node k t es cs ks _ _ b' cap vE vC F1 _ h1 h2 h3 h4 h5 h6 =>
  subst hH;have hz:ks[i]?=some z:=hz;obtain⟨Ga,Gi,Gz,e,t1,t2⟩:=h6.nth hz;subst e;have hnd:=h.nd;rw[hFq]at hnd;have hnr:=h.nr;rw[hFq]at hnr
  have hne:bq≠b':=by
   intro e
   rcases zO.1 h.inb with e'|e'
   ·exact hnr (by rw[← e',e];simp)
   ·rw[yT]at hnd;exact hnd.2.2 _ e' b' (by simp) e
  refine⟨b',cap,h1.c4,h5,Fa++(b'::Ga),Gi,Gz++Fz,by rw[hFq];simp,by simp,h.nr,h.nd,?_,by simpa using t1,fun {w' m' y' G HY} hm hw hy=>?_⟩
  ·rw[tO path x _ [(i:Int)] h.is];simp[Pn.at,Pn.kids,hz]
  ·rw[AIN h.is]
   have hK:THL w' m' (ks.set i y') b' 0 (Ga++(G++Gz)) HY:=by
    refine t2 hm (fun j _ _ hj=>hw b' (by simp) j (.inr (by omega))) (fun f hf j=>hw f (by rcases zT.1 hf with e|e<;>simp[e]) j (.inl ?_)) (by simpa using hy);intro e;subst e;have hb:=(yT.1 hnd).2.1;simp only[yG,yR]at hb;exact hb.1 (by rcases zT.1 hf with e|e<;>simp[e])
   have hlen:(ks.set i y').length=ks.length:=by simp
   have hn:ks.set i y'≠[]:=fun e=>by rw[e]at hlen;simp at hlen;exact h4 (zW.1 hlen.symm)
   have hbq:bq∈b::((Fa++b'::Ga)++(Gz++Fz)):=by
    rcases zO.1 h.inb with e'|e'
    ·simp[e']
    ·simp[e']
   have hA:=h1.frame (w':=w') (fun j l1 l2=>hw bq hbq j (.inl hne));rw[← hlen]at hA
   have hY:TH w' m' (.mk k t es cs (ks.set i y')) bq oq (b'::(Ga++(G++Gz))) HY :=
    .node hA (h2.mono hm) (h3.mono hm) hn (by rw[hlen];exact h5) hK
   have:=h.fill hm (fun f hf j hj=>hw f (by
    rcases zO.1 hf with e|e
    ·simp[e]
    ·rcases zT.1 e with e|e<;>simp[e]) j (by
    by_cases e:f=b'
    ·subst e;exfalso
     rcases zO.1 hf with e|e
     ·exact hnr (by rw[← e];simp)
     ·rcases zT.1 e with e|e
      ·exact(yT.1 hnd).2.2 _ e f (by simp) rfl
      ·have hb:=(yT.1 hnd).2.1;simp only[yG,yR]at hb;exact hb.1 (by simp[e])
    ·exact .inl e)) hY
   simpa [Pn.kind,Pn.table,Pn.exprs,Pn.cols,Pn.kids]using this
def kR:Blk→Prop
 | .box cs=>∀ c∈cs,(∃ v,c=.i v)∨c=.nils
 | .loop _ _ _=>False
 | _=>True
theorem RepC.tree {m:Mem} {φ φ':Pl}:∀ {cs:List AV} {vs:List Value},(∀ c∈cs,(∃ v,c=.i v)∨c=.nils)→RepC m φ cs vs→RepC m φ' cs vs
 | [],_,_, .nil=>.nil
 | c::cs,_,h, .cons a o r=>by
  have hr:=RepC.tree (m:=m) (φ':=φ') (fun d hd=>h d (by simp[hd])) r
  rcases h c (by simp)with ⟨v,rfl⟩|rfl
  ·cases a with|i a=>exact .cons (.i a) o hr
  ·cases a;exact .cons .nils o hr
theorem BlkOk.tree {w:World} {m:Mem} {φ φ':Pl} {b:Nat} {n:Ext} {blk:Blk} (hl:kR blk) (h:BlkOk w m φ b n blk):BlkOk w m φ' b n blk:=by
 cases h with
 | box h1 h2 h3 h4=>exact .box h1 h2 (h3.tree hl) h4
 | arr h1 h2 h3 h4 h5 h6 h7 h8 h9=>exact .arr h1 h2 h3 h4 h5 h6 h7 h8 h9
 | frz h1 h2=>exact .frz h1 h2
 | fbox h1=>exact .fbox h1
 | tre h1 h2 h3 h4 h5 h6 h7 h8 h9 h10=>exact .tre h1 h2 h3 h4 h5 h6 h7 h8 h9 h10
 | loop=>cases hl
theorem Inv.AWH {w:World} {m:Mem} {φ:Pl} {st st':Store} (hi:Inv w m φ st) (hst:∀ i blk,st' i=some blk→st i=some blk∧kR blk):Inv w m (wG st' φ) st':=by
 refine⟨hi.mem,?_,?_,fun i b n f e ho=>hi.low i b n f (dX e).1 ho⟩
 ·intro i blk hb;obtain⟨h1,h2⟩:=hst i blk hb;obtain⟨b,n,q1,q2,q3⟩:=hi.live i blk h1;exact⟨b,n,by rw[oG (by rw[hb];simp)];exact q1,q2,q3.tree h2⟩
 ·intro i j b bx n n2 b1 b2 f h1 h2 h3 h4 o1 o2;exact hi.inj i j b bx n n2 b1 b2 f (hst i b1 h1).1 (hst j b2 h2).1 (dX h3).1 (dX h4).1 o1 o2
theorem AA {w:World} {m:Mem} {φ:Pl} {st st':Store} {id b f:Nat} {n:Ext} {blk:Blk} (hi:Inv w m φ st) (hst:∀ i blk,st' i=some blk→st i=some blk) (hid:st id=some blk) (hn:st' id=none) (e:φ id=some (b,n)) (ho:n.own f):l9 (wG st' φ) f:=by
 intro i r n' e' ho';obtain⟨h1,h2⟩:=dX e'
 cases hb:st' i with
 | none=>exact h2 hb
 | some blk' =>
  have:=hi.inj i id r b n' n blk' blk f (hst i blk' hb) hid h1 e ho' ho;rw[this,hn]at hb;cases hb
def o6 (st':Store):AV→Prop
 | .i _=>True
 | .own id _=>st' id≠none
 | .osl id _ _ _=>st' id≠none
 | .nils=>True
 | _=>False
theorem o6.rep {m:Mem} {φ φ':Pl} {st':Store} {v:AV} {x:Value} (h:o6 st' v) (he:∀ i,st' i≠none→φ' i=φ i) (hr:Rep m φ v x):Rep m φ' v x:=by
 unfold o6 at h;split at h
 ·cases hr with|i k=>exact .i k
 ·cases hr with
  | own e=>exact .own (by rw[he _ h];exact e)
 ·cases hr with
  | osl e a b c d=>exact .osl (by rw[he _ h];exact e) a b c d
 ·cases hr;exact .nils
 ·cases h
theorem Inv.ASN {w w':World} {m m':Mem} {φ:Pl} {st:Store} (hi:Inv w m φ st) (ha:Adv w m (fun _=>none) w' m' (fun _=>none)) (hm:nI w' m'):Inv w' m' φ st∧Adv w m φ w' m' φ:=by
 have hb:∀ f,f<w.heap.size→w'.heap[f]?=w.heap[f]?:=fun f hf=>ha.block f hf fun _ _ _ e=>by cases e
 have hn:∀ f,f<w.heap.size→∀ o,m' f o=m f o:=fun f hf=>ha.mnew f hf fun _ _ _ e=>by cases e
 refine⟨⟨hm,fun id blk e=>?_,hi.inj,fun id b n f e ho=>zD (hi.low id b n f e ho) ha.size⟩,⟨ha.size,ha.os,ha.tape,ha.output,fun b hb' _=>hb b hb',ha.mle,fun b hb' _=>hn b hb', .refl _,fun _ _ _ _ e ho=>.inr (l9.not e ho)⟩⟩;obtain⟨b,n,k1,k2,k3⟩:=hi.live id blk e;exact⟨b,n,k1,⟨k2.1,fun f hf=>zD (k2.2 f hf) ha.size⟩,k3.mono k2.1 (fun f hf=>hb f (k2.2 f hf)) ha.mle (.refl _) fun f hf=>hn f (k2.2 f hf)⟩
structure CPY (wi:World) (p:Pn) (F:List Nat) (v0 v1 v2 v3 v4:Value) (w:World) (m:Mem) (φ:Pl):Prop where
 th:∀ {w':World} {m':Mem} {b o:Nat},MLe m m'→(∀ f∈F,∀ j,w'.cell? ⟨f,j,none⟩=w.cell? ⟨f,j,none⟩)→At5 w' b o v0 v1 v2 v3 v4→TH w' m' p b o F []
 cells:∀ {m':Mem},MLe m m'→(∀ f∈F,∀ j,m' f j=w.cell? ⟨f,j,none⟩)→ICells m' p.cells [v0,v1,v2,v3,v4]
 nd:F.Nodup
 all:∀ f∈F,wi.heap.size≤f∧f<w.heap.size∧l9 φ f∧(∀ o,m f o=none)∧∃ (vs:List Value) (T:TypeId),w.heap[f]?=some (.cells vs.toArray T (0,0))∧∀ v∈vs,v.oneCell'=true
theorem CPY.PI (wi:World) (p:Pn) (F:List Nat) (v0 v1 v2 v3 v4:Value):AHK (CPY wi p F v0 v1 v2 v3 v4):=by
 intro w m φ w' m' φ' ha h;have hs:∀ f∈F,w'.heap[f]?=w.heap[f]?:=fun f hf=>ha.block f (h.all f hf).2.1 (h.all f hf).2.2.1
 refine⟨fun hm hw h5=>h.th (ha.mle.trans hm) (fun f hf j=>(hw f hf j).trans (jO (hs f hf) j)) h5,fun hm hw=>h.cells (ha.mle.trans hm) fun f hf j=>(hw f hf j).trans (jO (hs f hf) j),h.nd,fun f hf=>?_⟩;obtain⟨k1,k2,k3,k4,vs,T,k5,k6⟩:=h.all f hf;exact⟨k1,zD k2 ha.size,ha.range k2 k3,fun o=>(ha.mnew f k2 k3 o).trans (k4 o),vs,T,by rw[hs f hf];exact k5,k6⟩
theorem TH.cells {w:World} {m:Mem} {x:Pn} {b o:Nat} {F:List Nat} (h:TH w m x b o F []):∃ v0 v1 v2 v3 v4,At5 w b o v0 v1 v2 v3 v4∧(∀ v∈[v0,v1,v2,v3,v4],v.oneCell'=true)∧(∃ ao cap,v4=.slice ao x.kids.length cap)∧(∀ {w':World} {m':Mem} {b' o':Nat},MLe m m'→(∀ f∈F,∀ j,w'.cell? ⟨f,j,none⟩=w.cell? ⟨f,j,none⟩)→At5 w' b' o' v0 v1 v2 v3 v4→TH w' m' x b' o' F []) ∧
 ∀ {m':Mem},MLe m m'→(∀ f∈F,∀ j,m' f j=w.cell? ⟨f,j,none⟩)→ICells m' x.cells [v0,v1,v2,v3,v4]:=by
 have o2:∀ {m:Mem} es v,IRep m (.isl es) v→v.oneCell'=true:=fun es v h=>by cases h<;>rfl
 generalize hH:([]:PL)=H at h
 cases h with
 | fresh=>cases hH
 | leaf h1 h2 h3 h4 =>
  refine⟨_,_,_,_,_,h1,(by intro v hv;simp only[zO,List.not_mem_nil,or_false]at hv;rcases hv with rfl|rfl|rfl|rfl|rfl<;>first|rfl|exact o2 _ _ h2|exact o2 _ _ h3),⟨_,_,rfl⟩,fun hm _ h5=>.leaf h5 (h2.mono hm) (h3.mono hm) h4,fun hm _=>?_⟩;rw[Pn.aW];exact .cons (.lit _) rfl (.cons (.lit _) rfl (.cons (h2.mono hm) (o2 _ _ h2) (.cons (h3.mono hm) (o2 _ _ h3) (.cons (.isl0 _ _ h4) rfl .nil))))
 | @node k t es cs ks _ _ b' cap vE vC F1 _ h1 h2 h3 h4 h5 h6 =>
  subst hH;refine⟨_,_,_,_,_,h1,(by intro v hv;simp only[zO,List.not_mem_nil,or_false]at hv;rcases hv with rfl|rfl|rfl|rfl|rfl<;>first|rfl|exact o2 _ _ h2|exact o2 _ _ h3),⟨_,_,rfl⟩,fun hm hF k5=>.node k5 (h2.mono hm) (h3.mono hm) h4 h5 (h6.frame hm (fun j _ _=>hF _ (by simp) j) fun f hf=>hF f (by simp[hf])),fun hm hF=>?_⟩;rw[Pn.aW];have he:=THL.AVR hm h6 (fun j _ _=>hF b' (by simp) j) (fun f hf=>hF f (by simp[hf]));have hl:(Pn.aB ks).length=ks.length:=by simp
  have hn:Pn.aB ks≠[]:=fun e=>by rw[e]at hl;simp at hl;exact h4 (zW.1 hl.symm)
  have hk:=IRep.isl (cap:=cap) hn he (by omega);rw[hl]at hk;exact .cons (.lit _) rfl (.cons (.lit _) rfl (.cons (h2.mono hm) (o2 _ _ h2) (.cons (h3.mono hm) (o2 _ _ h3) (.cons hk rfl .nil))))
structure RAT (wi:World) (root:Nat) (p:Pn) (F:List Nat) (path:List Int) (y:Pn) (bq oq:Nat) (Fa Fy Fz:List Nat) (w:World) (m:Mem) (φ:Pl):Prop where
 raw:RAW wi root p F [] w m φ
 pos:AtP w m p root 0 F path y bq oq Fa Fy Fz
theorem RAT.PI (wi:World) (root:Nat) (p:Pn) (F:List Nat) (path:List Int) (y:Pn) (bq oq:Nat) (Fa Fy Fz:List Nat):AHK (RAT wi root p F path y bq oq Fa Fy Fz):=by
 intro w m φ w' m' φ' ha h;exact⟨RAW.PI wi root p F [] w m φ w' m' φ' ha h.raw,h.pos.frame ha.mle fun f hf j=>jO (ha.block f (h.raw.all f hf).2.1 (h.raw.all f hf).2.2.1) j⟩
structure ADK (wi:World) (root:Nat) (p:Pn) (F:List Nat) (path:List Int) (y:Pn) (bq oq:Nat) (Fa Fy Fz:List Nat) (k:Nat) (wa:World) (ma:Mem) (w:World) (m:Mem) (φ:Pl):Prop where
 pos:AtP wa ma p root 0 F path y bq oq Fa Fy Fz
 le:MLe ma m
 own:∃ n,φ k=some (bq,n)
 bqn:wi.heap.size≤bq
 oth:∀ f∈root::F,f≠bq→wi.heap.size≤f∧f<w.heap.size∧l9 φ f∧(∀ o,m f o=none)∧w.heap[f]?=wa.heap[f]?∧∃ (vs:List Value) (T:TypeId),wa.heap[f]?=some (.cells vs.toArray T (0,0))∧∀ v∈vs,v.oneCell'=true
theorem ADK.PI (wi:World) (root:Nat) (p:Pn) (F:List Nat) (path:List Int) (y:Pn) (bq oq:Nat) (Fa Fy Fz:List Nat) (k:Nat) (wa:World) (ma:Mem):AHK (ADK wi root p F path y bq oq Fa Fy Fz k wa ma):=by
 intro w m φ w' m' φ' ha h;refine⟨h.pos,h.le.trans ha.mle,?_,h.bqn,fun f hf hne=>?_⟩
 ·obtain⟨n,e⟩:=h.own;obtain⟨n',e',_⟩:=ha.ple _ _ _ e;exact⟨n',e'⟩
 ·obtain⟨k1,k2,k3,k4,k5,k6⟩:=h.oth f hf hne;exact⟨k1,zD k2 ha.size,ha.range k2 k3,fun o=>(ha.mnew f k2 k3 o).trans (k4 o),(ha.block f k2 k3).trans k5,k6⟩
def PE (wi:World) (mi:Mem) (p:Pn) (e:Ending) (w:World):Prop :=
 ∃ v0 v1 v2 v3 v4 F m,e=.returned (.agg #[v0,v1,v2,v3,v4])∧(∀ v∈[v0,v1,v2,v3,v4],v.oneCell'=true)∧nI w m∧Adv wi mi (fun _=>none) w m (fun _=>none)∧CPY wi p F v0 v1 v2 v3 v4 w m (fun _=>none)
theorem PE.tree {wi:World} {mi:Mem} {p:Pn} {e:Ending} {w:World} (h:PE wi mi p e w):cZ wi mi (fun _=>none) (.i (.agg p.cells)) [] e w:=by
 classical
 obtain⟨v0,v1,v2,v3,v4,F,m,rfl,hone,hm,ha,hc⟩:=h
 let m':Mem:=fun f o=>if f∈F then w.cell? ⟨f,o,none⟩else m f o
 have hin:∀ f,f∈F→∀ o,m' f o=w.cell? ⟨f,o,none⟩:=fun f hf o=>by show(if f∈F then _ else _)=_;rw[if_pos hf]
 have hout:∀ f,f ∉ F→∀ o,m' f o=m f o:=fun f hf o=>by show(if f∈F then _ else _)=_;rw[if_neg hf]
 have hle:MLe m m':=fun f o v e=>by
  by_cases hf:f∈F
  ·rw[(hc.all f hf).2.2.2.1 o]at e;cases e
  ·rw[hout f hf];exact e
 have hmem:nI w m':=fun f o v e=>by
  by_cases hf:f∈F
  ·rw[hin f hf]at e;exact e
  ·rw[hout f hf]at e;exact hm f o v e
 refine⟨_,m',fun _=>none,rfl, .i (.agg (hc.cells hle hin)),⟨hmem,fun id blk e=>by simp[bJ]at e,fun id id' b b' n n' blk blk' f e=>by simp[bJ]at e,fun _ _ _ _ e=>by cases e⟩,⟨ha.size,ha.os,ha.tape,ha.output,ha.block,ha.mle.trans hle,fun f hf hfr o=>?_, .refl _,fun _ _ _ _ e=>by cases e⟩,fun id h=>absurd rfl h⟩;rw[hout f (fun hf'=>by have:=(hc.all f hf').1;omega)];exact ha.mnew f hf hfr o
section
variable {C:Ctx} {wi:World} {mi:Mem} {nt:Nat}
theorem GR.ops (hS:SoundOk C) {ops:Array Oper} {Q:Exit→Act→World→Prop} {base:Nat} {js:List Nat} {R:World→Mem→Pl→Prop} (hR:AHK R) (hs:ops.all (kY nt)=true) {os:List Oper} {i:Nat} {R0 R1:RS} {a:Act} {w:World} (hl:∀ j,j<os.length→os[j]?=ops[i+j]?) (hx:dL C (aH C) ops.toList false base os i R0=some R1)
 (h:GR wi mi nt (JH base fun j=>j<i) R R0.env R0.st a w) (hQ:∀ a' w',GR wi mi nt (JH base fun j=>j<i+os.length) R R1.env R1.st a' w'→wpOpsIn (FR none) 0 C.P ops Q js a' w'):wpOpsIn (FR none) 0 C.P ops Q (List.range' i os.length++js) a w:=by
 obtain⟨⟨m,φ,h1,h2,h3,h4,h5⟩,h6,h7⟩:=h;refine lT hS.ctx (bS hS) (fun o ho=>y5.1 hs o ho) os i R0 R1 a w hl hx ⟨⟨m,φ,h1,h2, .refl _ _ _,h4, .nil _ _ _⟩,h6,h7⟩ fun a' w' k=>hQ a' w' ?_
 obtain⟨⟨m',φ',k1,k2,k3,k4,_⟩,k5,k6⟩:=k;exact⟨⟨m',φ',k1,k2,h3.trans k3,k4,hR _ _ _ _ _ _ k3 h5⟩,k5,k6⟩
theorem GR.AU2 (hS:SoundOk C) {ops:Array Oper} {Q:Exit→Act→World→Prop} {base:Nat} {js:List Nat} {R:World→Mem→Pl→Prop} (hR:AHK R) (i k:Nat) (hk:decide (i+k≤ops.toList.length)=true) (hs:ops.all (kY nt)=true) {R0 R1:RS} {a:Act} {w:World} (hx:dL C (aH C) ops.toList false base ((ops.toList.drop i).take k) i R0=some R1)
 (h:GR wi mi nt (JH base fun j=>j<i) R R0.env R0.st a w) (hQ:∀ a' w',GR wi mi nt (JH base fun j=>j<i+k) R R1.env R1.st a' w'→wpOpsIn (FR none) 0 C.P ops Q js a' w'):wpOpsIn (FR none) 0 C.P ops Q (List.range' i k++js) a w:=by
 have hk:=zR hk;have hl:((ops.toList.drop i).take k).length=k:=by rw[yL,xC];omega
 have:=GR.ops (js:=js) hS hR hs (os:=(ops.toList.drop i).take k) (i:=i) (fun j hj=>by
  rw[hl]at hj
  rw[zK,if_pos hj,yS,xL]) hx h (by rw[hl];exact hQ)
 rwa [hl]at this
theorem K8 {P:Program} {ops:Array Oper} {Q:Exit→Act→World→Prop} {K:Act→World→Prop} {i d:Nat} {g:FuncId} {args:Array Operand} {ts:Array TypeId} {a:Act} {w:World} {fn:Func} {o:Oper} (ho:ops[i]?=some o) (hop:o.op=.call ⟨.value (.func g),args,ts⟩) (hd:o.dst=some d) (hg:o.guard=none)
 (hf:P.funcs[g]?=some fn) (hn:fn.name≠ "runtime.NumGoroutine") (hb:fn.body.isSome=true) {vs:List Value} (hargs:args.toList.map a.eval=vs) (hc:Calls P g vs.toArray w fun e w'=>∃ y,e=.returned y∧K (a.put (some d) y) w'):wpOpIn (FR none) 0 P ops Q i K a w:=by
 obtain⟨dst,op,ty,pos,after,guard⟩:=o;simp only at hop hd hg;subst hop hd hg;have hmap:args.map a.eval=vs.toArray:=by apply Array.ext';simp[hargs]
 rw[← hmap]at hc;unfold wpOpIn;rw[ho];simp only[Region.wanted,if_true];refine⟨fun _ _=>trivial,?_⟩;rw[Oper.semAt_eq _ _ _ (fun c e=>by cases e)];have hbody:fn.body≠none:=by intro h;rw[h]at hb;cases hb
 have hrun:(execOp a.eval ⟨some d, .call ⟨.value (.func g),args,ts⟩,ty,pos,after,none⟩).run P w=.ok (.enter g (args.map a.eval)) w:=by
  unfold execOp;simp[resolve,Deferred.ofValue,Act.eval,invoke,callFunc,hf,hn,hbody]
 rw[hrun];rw[Oper.uponIn_enter];refine⟨fun h=>(by cases h),WT (hc.mono ?_)⟩;rintro e w' ⟨y,rfl,k⟩;exact k
theorem GR.put {ok:Nat→Prop} {R:World→Mem→Pl→Prop} {env:Nat→AV} {st:Store} {a:Act} {w:World} {d:Nat} {x:AV} {v:Value} (hd:d<nt) (h:GR wi mi nt ok R env st a w) (hr:∀ m φ,R w m φ→Rep m φ x v):GR wi mi nt ok R (upd env d x) st (a.put (some d) v) w:=by
 obtain⟨⟨m,φ,hi,henv,hadv,hok,hK⟩,hsz,hdf⟩:=h;exact⟨⟨m,φ,hi,wZ (dst:=some d) henv hsz (by simpa [ABM]using hd) (hr m φ hK),hadv,hok,hK⟩,by rw[wY];exact hsz,by rw[mR];exact hdf⟩
theorem GR.AYF {ok:Nat→Prop} {wx:World} {p:Pn} {F:List Nat} {v0 v1 v2 v3 v4:Value} {env:Nat→AV} {st st':Store} {a:Act} {w:World} {u id:Nat} (h:GR wi mi nt ok (CPY wx p F v0 v1 v2 v3 v4) env st a w) (hwx:wi.heap.size≤wx.heap.size) (hu:env u=.own id 0) (hbox:st id=some (.box (dH [v0,v1,v2,v3,v4])))
 (hst:∀ i blk,st' i=some blk→i≠id∧st i=some blk∧kR blk) :
 ∃ b3,∀ env',(∀ t,env' t=.junk∨(t=u∧env' t=.i (.lit (.pointer (some ⟨b3,0,none⟩))))∨(env' t=env t∧o6 st' (env t)))→GR wi mi nt (fun i=>st' i≠none) (RAW wi b3 p F []) env' st' a w:=by
 obtain⟨⟨m,φ,hi,henv,hadv,hk,hc⟩,h6,h7⟩:=h;have hr:=henv u;rw[hu]at hr;generalize hy:a.tmps.getD u undef=yy at hr
 cases hr with
 | @own _ _ b3 n3 e3 =>
  obtain⟨hb,hok⟩:=dU hi e3 hbox;have hst2:∀ i blk,st' i=some blk→st i=some blk∧kR blk:=fun i blk hb=>(hst i blk hb).2
  cases hok with
  | @box T _ vs hh hl hrc hm =>
   obtain rfl:=(qF hrc).symm;have hnF:b3 ∉ F:=fun hf=>(hc.all b3 hf).2.2.1 id b3 n3 e3 hb.1
   refine⟨b3,fun env' he=>⟨⟨m,wG st' φ,hi.AWH hst2,fun t=>?_,hadv.cut,fun i hi'=>?_,?_⟩,h6,h7⟩⟩
   ·rcases he t with e|⟨rfl,e⟩|⟨e,e'⟩
    ·rw[e];exact .junk _
    ·rw[e,hy];exact .i (.lit _)
    ·rw[e];exact e'.rep (fun i hi'=>oG hi') (henv t)
   ·cases hx:wG st' φ i with
    | none=>exact absurd hx hi'
    | some q=>exact(dX hx).2
   ·refine⟨hc.th (.refl _) (fun _ _ _=>rfl) ⟨by rw[bO hh];rfl,by rw[bO hh];rfl,by rw[bO hh];rfl,by rw[bO hh];rfl,by rw[bO hh];rfl⟩,hnF,hc.nd,fun f hf=>?_⟩
    rcases zO.1 hf with rfl|hf
    ·refine⟨GL hadv e3 hb.1,hb.2 _ hb.1,?_,hm,_,T,hh,hrc.one⟩;refine AA hi (fun i blk h=>(hst2 i blk h).1) hbox ?_ e3 hb.1
     cases hx:st' id with
     | none=>rfl
     | some blk=>exact absurd rfl (hst id blk hx).1
    ·obtain⟨q1,q2,q3,q4,q5⟩:=hc.all f hf;exact⟨Nat.le_trans hwx q1,q2,q3.cut,q4,q5⟩
theorem GR.ATG {ok:Nat→Prop} {root:Nat} {p:Pn} {F:List Nat} {env:Nat→AV} {st:Store} {a:Act} {w:World} {u k:Nat} (h:GR wi mi nt ok (RAW wi root p F []) env st a w) (hu:env u=.i (.lit (.pointer (some ⟨root,0,none⟩)))) (hk:st k=none) (hok:¬ ok k) :
 ∃ v0 v1 v2 v3 v4 post,(∀ v∈[v0,v1,v2,v3,v4],v.oneCell'=true)∧∀ env',(∀ t,env' t=.junk∨(t=u∧env' t=.own k 0)∨env' t=env t) →
   GR wi mi nt (fun id=>ok id∨id=k) (CPY wi p F v0 v1 v2 v3 v4) env' (upd st k (some (.box (dH [v0,v1,v2,v3,v4]++dH post)))) a w:=by
 obtain⟨⟨m,φ,hi,henv,hadv,hid,hr⟩,h6,h7⟩:=h;obtain⟨k1,k2,k3,k4,us,T,k5,k6⟩:=hr.all root (by simp);obtain⟨v0,v1,v2,v3,v4,h5,_,_,hth,hce⟩:=hr.th.cells;have gc:∀ {o:Nat} {v:Value},w.cell? ⟨root,o,none⟩=some v→us[o]?=some v:=fun h=>by rwa [bO k5]at h
 have hrow:=ND (gc h5.c0) (gc h5.c1) (gc h5.c2) (gc h5.c3) (gc h5.c4);simp only[List.take_zero,xW,zI]at hrow
 have hφk:φ k=none:=by
  cases e:φ k with
  | none=>rfl
  | some q=>exact absurd (hid k (by rw[e];simp)) hok
 refine⟨v0,v1,v2,v3,v4,us.drop 5,fun v hv=>k6 v (by rw[hrow];exact yD _ hv),fun env' he=>?_⟩
 have hrep:RepC m (upd φ k (some (root,one root us.length))) (dH [v0,v1,v2,v3,v4]++dH (us.drop 5)) us:=by
  have h1:=p8 (m:=m) (φ:=upd φ k (some (root,one root us.length))) (vs:=us) k6
  have:dH us=dH [v0,v1,v2,v3,v4]++dH (us.drop 5):=by
   conv=>lhs;rw[hrow]
   simp[dH]
  rwa [this]at h1
 have hp:PLe φ (upd φ k (some (root,one root us.length))):=fun i r n e=>by
  refine⟨n,?_,rfl,fun _ h=>h⟩;have:i≠k:=fun h=>by rw[h,hφk]at e;cases e
  simp[upd,this,e]
 refine⟨⟨m,upd φ k (some (root,one root us.length)),hi.adopt hk hφk k3 k4 k5 hrep,fun t=>?_,hadv.adopt k1,fun id hne=>?_,?_⟩,h6,h7⟩
 ·rcases he t with e|⟨rfl,e⟩|e
  ·rw[e];exact .junk _
  ·have:=henv t;rw[hu]at this;rw[e,this.cB];exact .own (n:=one root us.length) (by simp[upd])
  ·rw[e];exact(henv t).mono (.refl _) hp
 ·by_cases e:id=k
  ·exact .inr e
  ·simp[upd,e]at hne;exact .inl (hid id hne)
 ·refine⟨hth,hce,hr.nd,fun f hf=>?_⟩;obtain⟨q1,q2,q3,q4,q5⟩:=hr.all f (by simp[hf]);refine⟨q1,q2,fun i r n e ho=>?_,q4,q5⟩;by_cases e2:i=k
  ·subst e2;simp[upd]at e;obtain⟨rfl,rfl⟩:=e;have:f=root:=ho;exact hr.nr (this ▸ hf)
  ·simp[upd,e2]at e;exact q3 i r n e ho
theorem GR.ATF {ok:Nat→Prop} {root:Nat} {p:Pn} {F:List Nat} {path:List Int} {y:Pn} {bq oq:Nat} {Fa Fy Fz:List Nat} {env:Nat→AV} {st st':Store} {a:Act} {w:World} {u k:Nat} (h:GR wi mi nt ok (RAT wi root p F path y bq oq Fa Fy Fz) env st a w) (hu:env u=.i (.lit (.pointer (some ⟨bq,oq,none⟩))))
 (hst:∀ i blk,st' i=some blk→st i=some blk∧kR blk) (hk:st' k=none) :
 ∃ pre row post ma,row.length=5∧pre.length=oq∧∀ env',(∀ t,env' t=.junk∨(t=u∧env' t=.own k oq)∨(env' t=env t∧o6 st' (env t))) →
   GR wi mi nt (fun id=>st' id≠none∨id=k) (fun w' m' φ'=>ADK wi root p F path y bq oq Fa Fy Fz k w ma w' m' φ'∧(∃ T,w.heap[bq]?=some (.cells (pre++(row++post)).toArray T (0,0)))) env' (upd st' k (some (.box (kU pre (dH row) post)))) a w:=by
 obtain⟨⟨m,φ,hi,henv,hadv,hok,hr⟩,h6,h7⟩:=h;have hinF:=hr.pos.mem;obtain⟨k1,k2,k3,k4,us,T,k5,k6⟩:=hr.raw.all bq hinF;obtain⟨v0,v1,v2,v3,v4,h5,_,_,_,_⟩:=hr.pos.th.cells;have gc:∀ {o:Nat} {v:Value},w.cell? ⟨bq,o,none⟩=some v→us[o]?=some v:=fun h=>by rwa [bO k5]at h
 have hrow:=ND (gc h5.c0) (gc h5.c1) (gc h5.c2) (gc h5.c3) (gc h5.c4);have hl4:=(zZ.1 (gc h5.c4)).1;have hi2:=hi.AWH hst;have hφk:wG st' φ k=none:=by unfold wG;rw[hk]
 have hfr:l9 (wG st' φ) bq:=k3.cut;refine⟨us.take oq,[v0,v1,v2,v3,v4],us.drop (oq+5),m,rfl,by rw[yL];omega,fun env' he=>?_⟩
 have hrep:RepC m (upd (wG st' φ) k (some (bq,one bq us.length))) (kU (us.take oq) (dH [v0,v1,v2,v3,v4]) (us.drop (oq+5))) us:=by
  have h1:=p8 (m:=m) (φ:=upd (wG st' φ) k (some (bq,one bq us.length))) (vs:=us) k6
  have:dH us=kU (us.take oq) (dH [v0,v1,v2,v3,v4]) (us.drop (oq+5)):=by
   conv=>lhs;rw[hrow]
   simp[kU,dH]
  rwa [this]at h1
 have hp:PLe (wG st' φ) (upd (wG st' φ) k (some (bq,one bq us.length))):=fun i r n e=>by
  refine⟨n,?_,rfl,fun _ h=>h⟩;have:i≠k:=fun h=>by rw[h,hφk]at e;cases e
  simp[upd,this,e]
 refine⟨⟨m,upd (wG st' φ) k (some (bq,one bq us.length)),hi2.adopt hk hφk hfr k4 k5 hrep,fun t=>?_,(Adv.cut hadv).adopt k1,fun id hid=>?_,?_,?_⟩,h6,h7⟩
 ·rcases he t with e|⟨rfl,e⟩|⟨e,e'⟩
  ·rw[e];exact .junk _
  ·have:=henv t;rw[hu]at this;rw[e,this.cB];exact .own (n:=one bq us.length) (by simp[upd])
  ·rw[e];exact(e'.rep (fun i hi'=>oG hi') (henv t)).mono (.refl _) hp
 ·by_cases e:id=k
  ·exact .inr e
  ·simp[upd,e]at hid
   cases hx:wG st' φ id with
   | none=>exact absurd hx hid
   | some q=>exact .inl (dX hx).2
 ·refine⟨hr.pos, .refl _,⟨one bq us.length,by simp[upd]⟩,k1,fun f hf hne=>?_⟩;obtain⟨q1,q2,q3,q4,q5⟩:=hr.raw.all f hf;refine⟨q1,q2,fun i r n e ho=>?_,q4,rfl,q5⟩;by_cases e2:i=k
  ·subst e2;simp[upd]at e;obtain⟨rfl,rfl⟩:=e;exact hne ho
  ·simp[upd,e2]at e;exact q3 i r n (dX e).1 ho
 ·exact⟨T,by rw[← hrow];exact k5⟩
theorem GR.AVS {ok:Nat→Prop} {root:Nat} {p q:Pn} {F:List Nat} {path:List Int} {y:Pn} {bq oq:Nat} {Fa Fy Fz:List Nat} {env env':Nat→AV} {st st':Store} {a:Act} {w wa:World} {ma:Mem} {k:Nat} {pre row post:List Value}
 (h:GR wi mi nt ok (fun w' m' φ'=>ADK wi root p F path y bq oq Fa Fy Fz k wa ma w' m' φ'∧(∃ T,wa.heap[bq]?=some (.cells (pre++(row++post)).toArray T (0,0)))) env st a w) (hrl:row.length=5) (hpl:pre.length=oq) (hbox:st k=some (.box (kU pre (l5 q.cells) post)))
 (hst:∀ i blk,st' i=some blk→i≠k∧st i=some blk∧kR blk) (he:∀ t,env' t=.junk∨(env' t=env t∧o6 st' (env t))) :
 GR wi mi nt (fun id=>st' id≠none) (RAW wi root (Pn.put path p q) (Fa++([]++Fz)) [((bq,oq),q)]) env' st' a w:=by
 obtain⟨⟨m,φ,hi,henv,hadv,hk,hr,T0,hrow0⟩,h6,h7⟩:=h;obtain⟨n2,e2⟩:=hr.own;obtain⟨hb2,hok2⟩:=dU hi e2 hbox;have hst2:∀ i blk,st' i=some blk→st i=some blk∧kR blk:=fun i blk hb=>(hst i blk hb).2
 cases hok2 with
 | @box T _ vs hh hl hrc hm =>
  have hone:=hrc.one;obtain⟨vp,x,rfl,r1,r2⟩:=mQ hrc;obtain⟨vr,vq,rfl,r3,r4⟩:=mQ r2;obtain rfl:=(qF r1).symm;obtain rfl:=(qF r4).symm;have hc:=FY r3;have hlen:=hc.length;rw[Pn.dN]at hlen
  obtain⟨v0,v1,v2,v3,v4,rfl⟩:∃ v0 v1 v2 v3 v4,vr=[v0,v1,v2,v3,v4]:=by
   match vr,hlen with
   | [v0,v1,v2,v3,v4],_=>exact⟨v0,v1,v2,v3,v4,rfl⟩
  have hcell:∀ f∈root::F,f≠bq→∀ j,w.cell? ⟨f,j,none⟩=wa.cell? ⟨f,j,none⟩:=fun f hf hne j=>jO (hr.oth f hf hne).2.2.2.2.1 j
  have sub:∀ f∈root::(Fa++([]++Fz)),f∈root::F:=fun f hf=>by
   rw[hr.pos.eq]
   rcases zO.1 hf with e|e
   ·simp[e]
   ·rcases zT.1 e with e|e
    ·simp[e]
    ·simp at e;simp[e]
  have g:∀ (i:Nat),i<5→(pre++([v0,v1,v2,v3,v4]++post))[oq+i]?=[v0,v1,v2,v3,v4][i]?:=fun i hi=>by
   rw[zH (by omega),zG (by simp;omega),hpl,yC]
  have far:∀ (r:List Value),r.length=5→∀ j,oq+5≤j→(pre++(r++post))[j]?=post[j-oq-5]?:=fun r hr j hj=>by
   rw[zH (by omega),zH (by omega),hr,hpl]
  have hth:TH w m (Pn.put path p q) root 0 (Fa++([]++Fz)) [((bq,oq),q)]:=by
   refine hr.pos.fill hr.le (fun f hf j hj=>?_) (.fresh hc ⟨?_,?_,?_,?_,?_⟩)
   ·by_cases hne:f=bq
    ·subst hne;rw[bO hh,bO hrow0]
     rcases hj with hj|hj|hj
     ·exact absurd rfl hj
     ·rw[zG (by omega),zG (by omega)]
     ·rw[far _ rfl j hj,far _ hrl j hj]
    ·refine hcell f ?_ hne j;rw[hr.pos.eq]
     rcases zO.1 hf with e|e
     ·simp[e]
     ·rcases zT.1 e with e|e<;>simp[e]
   ·rw[bO hh];exact g 0 (by omega)
   ·rw[bO hh];exact g 1 (by omega)
   ·rw[bO hh];exact g 2 (by omega)
   ·rw[bO hh];exact g 3 (by omega)
   ·rw[bO hh];exact g 4 (by omega)
  refine⟨⟨m,wG st' φ,hi.AWH hst2,fun x=>?_,hadv.cut,fun id hid=>?_,?_⟩,h6,h7⟩
  ·rcases he x with e|⟨e,e'⟩
   ·rw[e];exact .junk _
   ·rw[e];exact e'.rep (fun i hi'=>oG hi') (henv x)
  ·cases hx:wG st' φ id with
   | none=>exact absurd hx hid
   | some q=>exact(dX hx).2
  ·have hnd:=hr.pos.nd;rw[hr.pos.eq]at hnd;refine⟨hth,fun hm'=>?_,?_,fun f hf=>?_⟩
   ·have:=sub root (by simp);refine hr.pos.nr ?_;rw[hr.pos.eq]
    rcases zT.1 hm' with e|e
    ·simp[e]
    ·simp at e;simp[e]
   ·rw[xW];rw[yT]at hnd ⊢;refine⟨hnd.1,(yT.1 hnd.2.1).2.1,fun x hx z hz=>hnd.2.2 x hx z (by simp[hz])⟩
   ·have hf':=sub f hf;by_cases hne:f=bq
    ·subst hne;refine⟨hr.bqn,(zF.1 hh).1,?_,hm,_,T,hh,hone⟩;refine AA hi (fun i blk h=>(hst2 i blk h).1) hbox ?_ e2 hb2.1
     cases hx:st' k with
     | none=>rfl
     | some blk=>exact absurd rfl (hst k blk hx).1
    ·obtain⟨q1,q2,q3,q4,q5,vs',T',q6,q7⟩:=hr.oth f hf' hne;exact⟨q1,q2,q3.cut,q4,vs',T',by rw[q5];exact q6,q7⟩
theorem GR.AiA {ok:Nat→Prop} {root:Nat} {p:Pn} {F:List Nat} {H:PL} {env:Nat→AV} {st:Store} {a:Act} {w:World} (h:GR wi mi nt ok (RAW wi root p F H) env st a w) {u:Nat} (hu:env u=.i (.lit (.pointer (some ⟨root,0,none⟩)))) {env':Nat→AV} (he:∀ t,env' t=.junk∨(t=u∧env' t=.i (.iref p.cells))∨env' t=env t) :
 GR wi mi nt ok (fun _ _ _=>True) env' st a w:=by
 classical
 obtain⟨⟨m,φ,hi,henv,hadv,hk,hr⟩,h6,h7⟩:=h
 let m':Mem:=fun f o=>if f∈root::F then w.cell? ⟨f,o,none⟩else m f o
 have hin:∀ f,f∈root::F→∀ o,m' f o=w.cell? ⟨f,o,none⟩:=fun f hf o=>by show(if f∈root::F then _ else _)=_;rw[if_pos hf]
 have hout:∀ f,f ∉ root::F→∀ o,m' f o=m f o:=fun f hf o=>by show(if f∈root::F then _ else _)=_;rw[if_neg hf]
 have hle:MLe m m':=fun f o v e=>by
  by_cases hf:f∈root::F
  ·rw[(hr.all f hf).2.2.2.1 o]at e;cases e
  ·rw[hout f hf];exact e
 have hmem:nI w m':=fun f o v e=>by
  by_cases hf:f∈root::F
  ·rw[hin f hf]at e;exact e
  ·rw[hout f hf]at e;exact hi.mem f o v e
 have hat:IAt m' root 0 p.cells:=hr.th.AX8 hle (fun j _ _=>hin root (by simp) j) (fun f hf j=>hin f (by simp[hf]) j);refine⟨⟨m',φ,⟨hmem,fun i blk hb=>?_,hi.inj,hi.low⟩,fun t=>?_,⟨hadv.size,hadv.os,hadv.tape,hadv.output,hadv.block,hadv.mle.trans hle,fun f hf hfr o=>?_,hadv.ple,hadv.pnew⟩,hk,trivial⟩,h6,h7⟩
 ·obtain⟨b,n,q1,q2,q3⟩:=hi.live i blk hb;exact⟨b,n,q1,q2,q3.mono q2.1 (fun _ _=>rfl) hle (.refl _) fun f hf o=>hout f (fun hf'=>(hr.all f hf').2.2.1 i b n q1 hf) o⟩
 ·rcases he t with e|⟨rfl,e⟩|e
  ·rw[e];exact .junk _
  ·have hx:=henv t;rw[hu]at hx;rw[e,hx.cB];exact .i (.iref hat)
  ·rw[e];exact(henv t).mono hle (.refl _)
 ·rw[hout f (fun hf'=>by have:=(hr.all f hf').1;omega)];exact hadv.mnew f hf hfr o
end
theorem H9:∀ {l m:List Int},aG l=aG m→l=m:=by
 intro l
 induction l with
 | nil=>intro m h;cases m with
  | nil=>rfl
  | cons b m=>simp[aG]at h
 | cons a l ih=>intro m h;cases m with
  | nil=>simp[aG]at h
  | cons b m =>
   simp only[aG,List.cons.injEq]at h;rw[show a=b by simpa using h.1,ih h.2]
theorem Ex.ABU:∀ (a b:Ex),a.cells=b.cells→a=b:=by
 intro a
 induction a using Ex.ind with
 | h k c v ks ih =>
  intro b h;obtain⟨k',c',v',ks'⟩:=b
  have key:∀ {l m:List Ex},(∀ a∈l,∀ b,a.cells=b.cells→a=b)→Ex.aB l=Ex.aB m→l=m:=by
   intro l
   induction l with
   | nil=>intro m _ h;cases m with
    | nil=>rfl
    | cons b m=>simp[Ex.aB]at h
   | cons a l ihl=>intro m hi h;cases m with
    | nil=>simp[Ex.aB]at h
    | cons b m =>
     simp only[Ex.aB,List.cons.injEq]at h;rw[hi a (by simp) b h.1,ihl (fun x hx=>hi x (by simp[hx])) h.2]
  rw[Ex.aA,Ex.aA]at h;simp only[List.cons.injEq,IV.lit.injEq,Value.int.injEq,Value.bool.injEq,IV.isl.injEq,true_and,and_true]at h;obtain⟨h1,h2,h3,h4,h5⟩:=h;have h5:=key ih h5;obtain⟨b1,n1⟩:=v;obtain⟨b2,n2⟩:=v';simp only[Ex.kind,Ex.col,Ex.val,Ex.kids]at h1 h2 h3 h4 h5;subst h1 h2 h3 h4 h5;rfl
theorem Ex.WS:∀ {l m:List Ex},Ex.aB l=Ex.aB m→l=m:=by
 intro l
 induction l with
 | nil=>intro m h;cases m with
  | nil=>rfl
  | cons b m=>simp[Ex.aB]at h
 | cons a l ihl=>intro m h;cases m with
  | nil=>simp[Ex.aB]at h
  | cons b m =>
   simp only[Ex.aB,List.cons.injEq]at h;rw[Ex.ABU a b h.1,ihl h.2]
theorem Pn.AG7:∀ (a b:Pn),a.cells=b.cells→a=b:=by
 intro a
 induction a using Pn.ind with
 | h k t es cs ks ih =>
  intro b h;obtain⟨k',t',es',cs',ks'⟩:=b
  have key:∀ {l m:List Pn},(∀ a∈l,∀ b,a.cells=b.cells→a=b)→Pn.aB l=Pn.aB m→l=m:=by
   intro l
   induction l with
   | nil=>intro m _ h;cases m with
    | nil=>rfl
    | cons b m=>simp[Pn.aB]at h
   | cons a l ihl=>intro m hi h;cases m with
    | nil=>simp[Pn.aB]at h
    | cons b m =>
     simp only[Pn.aB,List.cons.injEq]at h;rw[hi a (by simp) b h.1,ihl (fun x hx=>hi x (by simp[hx])) h.2]
  rw[Pn.aW,Pn.aW]at h;simp only[List.cons.injEq,IV.lit.injEq,Value.int.injEq,IV.isl.injEq,true_and,and_true]at h;obtain⟨h1,h2,h3,h4,h5⟩:=h;rw[h1,h2,Ex.WS h3,H9 h4,key ih h5]
def apO (p:Pn) (ws:List Int) (r:Int) (path:List Int):Option Pn:=if p.width ws=0 then none else apI ws r path p
def apR:Option Pn→AV×StL
 | some q=>(.tup [.i (.agg q.cells), .bool true],[])
 | none=>(.tup [.i (.agg Pn.zero.cells), .bool false],[])
def ApA (args:List AV) (x:Pn×List Int×Int×List Int):Prop:=args=[.i (.agg x.1.cells), .i (.isl (aG x.2.1)), .i (.agg [.int x.2.2.1, .isl (aG x.2.2.2)])]
noncomputable def DY:List AV→StL→Option (AV×StL)
 | args,[]=>open Classical in if h:∃ x,ApA args x then some (apR (apO h.choose.1 h.choose.2.1 h.choose.2.2.1 h.choose.2.2.2))else none
 | _,_=>none
theorem ApA.inj {args:List AV} {x y:Pn×List Int×Int×List Int} (hx:ApA args x) (hy:ApA args y):x=y:=by
 unfold ApA at hx hy;rw[hx]at hy;simp only[List.cons.injEq,AV.i.injEq,IV.agg.injEq,IV.isl.injEq,IV.lit.injEq,Value.int.injEq,true_and,and_true]at hy;obtain⟨h1,h2,h3,h4⟩:=hy;obtain⟨a,b,c,d⟩:=x;obtain⟨a',b',c',d'⟩:=y;simp only at h1 h2 h3 h4;rw[Pn.AG7 _ _ h1,H9 h2,h3,H9 h4]
theorem AGS (p:Pn) (ws:List Int) (r:Int) (path:List Int):DY [.i (.agg p.cells), .i (.isl (aG ws)), .i (.agg [.int r, .isl (aG path)])] []=some (apR (apO p ws r path)):=by
 have h:∃ x,ApA [.i (.agg p.cells), .i (.isl (aG ws)), .i (.agg [.int r, .isl (aG path)])] x:=⟨(p,ws,r,path),rfl⟩
 unfold DY;simp only;rw[dif_pos h];have:=h.choose_spec.inj (y:=(p,ws,r,path)) rfl;rw[this]
theorem X0 {args:List AV} {st:StL} {q:AV×StL} (h:DY args st=some q):∃ p ws r path,args=[.i (.agg (Pn.cells p)), .i (.isl (aG ws)), .i (.agg [.int r, .isl (aG path)])]∧st=[]∧q=apR (apO p ws r path):=by
 unfold DY at h;split at h
 ·split at h
  ·rename_i hx;injection h with h;exact⟨_,_,_,_,hx.choose_spec,rfl,h.symm⟩
  ·cases h
 ·cases h
noncomputable def AQW (C:Ctx) (G:List Nat) (na:Nat) (b:Code) (S:AS):XR:=dI C G na b S
@[simp] theorem AQB {C:Ctx} {G:List Nat} {na:Nat} (a b:Code) (S:AS):dI C G na (.seq a b) S=AAE (dI C G na a S) (AQW C G na b):=AFV a b
@[simp] theorem ATU {C:Ctx} {G:List Nat} {na:Nat} (b:Code) (e:List (Nat×AV)) (st:StL):AQW C G na b ⟨e,st⟩=dI C G na b ⟨e,st⟩:=(rfl)
def AG3 (C:Ctx) (call:dZ) (all:List Oper) (draw:Bool) (base:Nat) (os:List Oper) (i:Nat) (env:Nat→AV) (dst:Option Tmp) (log:List (Nat×List Nat×Bool)) (p:AV×Store):Option RS:=dL C call all draw base os i ⟨wF env dst p.1,p.2,log⟩
@[simp] theorem AUO {C:Ctx} {call:dZ} (all:List Oper) (draw:Bool) (base:Nat) (os:List Oper) (i:Nat) (env:Nat→AV) (dst:Option Tmp) (log:List (Nat×List Nat×Bool)) (v:AV) (st:Store):AG3 C call all draw base os i env dst log (v,st)=dL C call all draw base os i ⟨wF env dst v,st,log⟩:=(rfl)
attribute [simp] WG TL ABJ WH ABF AFW ABH AD1
@[simp] theorem APN (k:Nat):fP k []=true:=(rfl)
@[simp] theorem AM5 (k:Nat) (e:List IV) (es:List (List IV)):fP k (e::es)=(e.length == k && fP k es):=(rfl)
@[simp] theorem ALC:jF (.slice none 0 0)=.nils:=(rfl)
@[simp] theorem AQ4:BJ (.slice none 0 0)=.nils:=(rfl)
@[simp] theorem ALD (b:Bool):jF (.bool b)=.i (.lit (.bool b)):=(rfl)
@[simp] theorem AQ5 (b:Bool):BJ (.bool b)=.i (.lit (.bool b)):=(rfl)
@[simp] theorem ALX (b:Bool):cellsOf (.i (.lit (.bool b)))=some [.i (.lit (.bool b))]:=(rfl)
@[simp] theorem ANR (k:IntKind) (n:Int):jF (.int k n)=.i (.lit (.int k n)):=(rfl)
@[simp] theorem AS6 (k:IntKind) (n:Int):BJ (.int k n)=.i (.lit (.int k n)):=(rfl)
@[simp] theorem AP6 (k:IntKind) (n:Int):cellsOf (.i (.lit (.int k n)))=some [.i (.lit (.int k n))]:=(rfl)
@[simp] theorem AH9 (s:ByteArray):jF (.string s)=.i (.lit (.string s)):=(rfl)
@[simp] theorem ALE (s:ByteArray):BJ (.string s)=.i (.lit (.string s)):=(rfl)
@[simp] theorem AHG (s:ByteArray):cellsOf (.i (.lit (.string s)))=some [.i (.lit (.string s))]:=(rfl)
@[simp] theorem AF4 (a:Option Addr):jF (.pointer a)=.i (.lit (.pointer a)):=(rfl)
@[simp] theorem AJ1 (a:Option Addr):BJ (.pointer a)=.i (.lit (.pointer a)):=(rfl)
@[simp] theorem AG8 (a:Option Addr):cellsOf (.i (.lit (.pointer a)))=some [.i (.lit (.pointer a))]:=(rfl)
@[simp] theorem ANQ (r:Option Nat):jF (.map r)=.i (.lit (.map r)):=(rfl)
@[simp] theorem AS5 (r:Option Nat):BJ (.map r)=.i (.lit (.map r)):=(rfl)
@[simp] theorem AP4 (r:Option Nat):cellsOf (.i (.lit (.map r)))=some [.i (.lit (.map r))]:=(rfl)
@[simp] theorem AF5 :jF (.nilFunc)=.i (.lit (.nilFunc)):=(rfl)
@[simp] theorem AJ2 :BJ (.nilFunc)=.i (.lit (.nilFunc)):=(rfl)
@[simp] theorem AG9 :cellsOf (.i (.lit (.nilFunc)))=some [.i (.lit (.nilFunc))]:=(rfl)
@[simp] theorem ACN :jF (.nilIface)=.i (.lit (.nilIface)):=(rfl)
@[simp] theorem AHB :BJ (.nilIface)=.i (.lit (.nilIface)):=(rfl)
@[simp] theorem ACR :cellsOf (.i (.lit (.nilIface)))=some [.i (.lit (.nilIface))]:=(rfl)
@[simp] theorem AJ0 (a:Array Value):jF (.tuple a)=.i (.lit (.tuple a)):=(rfl)
@[simp] theorem ANU (a:Array Value):BJ (.tuple a)=.i (.lit (.tuple a)):=(rfl)
@[simp] theorem AS7 (cs:Array Value):BJ (.agg cs)=S9 (eH cs.toList):=(rfl)
attribute [simp] eH.eq_1 eH.eq_2 cellsOf.eq_3 cellsOf.eq_4
@[simp] theorem ALV :cellsOf .nils=some [.nils]:=(rfl)
@[simp] theorem AP2 (i o:Nat):cellsOf (.own i o)=some [(.own i o)]:=(rfl)
@[simp] theorem ALU (i k j o:Nat):cellsOf (.ownE i k j o)=some [(.ownE i k j o)]:=(rfl)
@[simp] theorem AP3 (i k o l:Nat):cellsOf (.osl i k o l)=some [(.osl i k o l)]:=(rfl)
@[simp] theorem AQF (f:Fn) (cs:List AV):cellsOf (.fn f cs)=some [(.fn f cs)]:=(rfl)
@[simp] theorem AJU (a:Option Addr) (l c:Nat):cellsOf (.i (.lit (.slice a l c)))=some [(.i (.lit (.slice a l c)))]:=(rfl)
@[simp] theorem AP5 (es:List (List IV)):cellsOf (.i (.isl es))=some [(.i (.isl es))]:=(rfl)
@[simp] theorem ALW (cs:List IV):cellsOf (.i (.iref cs))=some [(.i (.iref cs))]:=(rfl)
@[simp] theorem AQD  (x:Option (List IV)):OM .nils x=none:=by cases x<;>rfl
@[simp] theorem ASO (st:Store) :rF st .nils=bnd (frz st vR .nils) fun p=>some (p.1,iO st p.2):=(rfl)
@[simp] theorem APG (st:Store) :iP st .nils=bnd (rF st .nils) fun p=>some (.i p.1,p.2):=(rfl)
@[simp] theorem ASY (i o:Nat) (x:Option (List IV)):OM (.own i o) x=none:=by cases x<;>rfl
@[simp] theorem AUH (st:Store) (i o:Nat):rF st (.own i o)=bnd (frz st vR (.own i o)) fun p=>some (p.1,iO st p.2):=(rfl)
@[simp] theorem AQH (st:Store) (i o:Nat):iP st (.own i o)=bnd (rF st (.own i o)) fun p=>some (.i p.1,p.2):=(rfl)
@[simp] theorem ASZ (i k o l:Nat) (x:Option (List IV)):OM (.osl i k o l) x=none:=by cases x<;>rfl
@[simp] theorem AUI (st:Store) (i k o l:Nat):rF st (.osl i k o l)=bnd (frz st vR (.osl i k o l)) fun p=>some (p.1,iO st p.2):=(rfl)
@[simp] theorem AQI (st:Store) (i k o l:Nat):iP st (.osl i k o l)=bnd (rF st (.osl i k o l)) fun p=>some (.i p.1,p.2):=(rfl)
@[simp] theorem AUQ (f:Fn) (cs:List AV) (x:Option (List IV)):OM (.fn f cs) x=none:=by cases x<;>rfl
@[simp] theorem AUJ (st:Store) (cs:List AV):rF st (.agg cs)=bnd (frz st vR (.agg cs)) fun p=>some (p.1,iO st p.2):=(rfl)
@[simp] theorem AQJ (st:Store) (cs:List AV):iP st (.agg cs)=bnd (rF st (.agg cs)) fun p=>some (.i p.1,p.2):=(rfl)
@[simp] theorem AWV (v:IV) (l:List IV):OM (.i v) (some l)=some (v::l):=(rfl)
@[simp] theorem AUP (v:IV):OM (.i v) none=none:=(rfl)
@[simp] theorem AXB (st:Store) (v:IV):rF st (.i v)=some (v,st):=(rfl)
@[simp] theorem AUU (st:Store) (v:IV):iP st (.i v)=some (.i v,st):=(rfl)
@[simp] theorem ATC (st:Store) (f:Fn) (cs:List AV):iP st (.fn f cs)=some (.fn f cs,st):=(rfl)
@[simp] theorem AQK:AX (some .strct)=some true:=(rfl)
@[simp] theorem AQL (e:TypeId):AX (some (.slice e))=some false:=(rfl)
@[simp] theorem AUV (k:IntKind):AX (some (.int k))=some false:=(rfl)
@[simp] theorem APJ:AX (some .string)=some false:=(rfl)
@[simp] theorem ATE:AX (some .bool)=some false:=(rfl)
@[simp] theorem AQM:AX (some .other)=some false:=(rfl)
@[simp] theorem AQN (n:Nat) (e:TypeId):AX (some (.array n e))=some true:=(rfl)
@[simp] theorem AOF:eO .add=false:=(rfl)
@[simp] theorem AO2:eO .sub=false:=(rfl)
@[simp] theorem AO8:eO .mul=false:=(rfl)
@[simp] theorem AO6:eO .quo=false:=(rfl)
@[simp] theorem AO5:eO .rem=false:=(rfl)
@[simp] theorem AOE:eO .and=false:=(rfl)
@[simp] theorem AQ9:eO .or=false:=(rfl)
@[simp] theorem AO1:eO .xor=false:=(rfl)
@[simp] theorem AHC:eO .andNot=false:=(rfl)
@[simp] theorem AOD:eO .eql=false:=(rfl)
@[simp] theorem AO7:eO .neq=false:=(rfl)
@[simp] theorem AO9:eO .lss=false:=(rfl)
@[simp] theorem AOA:eO .leq=false:=(rfl)
@[simp] theorem AOB:eO .gtr=false:=(rfl)
@[simp] theorem AOC:eO .geq=false:=(rfl)
@[simp] theorem AO4:eO .shl=true:=(rfl)
@[simp] theorem AO3:eO .shr=true:=(rfl)
@[simp] theorem AU0:KT []=.tup []:=(rfl)
@[simp] theorem ATZ (v:AV):KT [v]=v:=(rfl)
@[simp] theorem ATY (a b:AV) (l:List AV):KT (a::b::l)=.tup (a::b::l):=(rfl)
attribute [simp] sK.eq_1 sK.eq_2 gF.eq_1 gF.eq_2 gF.eq_3
section
variable (C:Ctx) (call:dZ) (env:Nat→AV) (st:Store) (nb:Nat)
@[simp] theorem AMN (x:Operand):d9 C call (.move x) env st nb=some (ev env x,st):=(rfl)
@[simp] theorem AI4 (x:Operand):d9 C call (.assign x) env st nb=some (ev env x,st):=(rfl)
@[simp] theorem AMM (c a b:Operand):d9 C call (.pick c a b) env st nb=bnd (AEK (ev env a) (ev env b) (ev env c)) fun v=>some (v,st):=(rfl)
@[simp] theorem AKX (t:TypeId):d9 C call (.alloc t) env st nb=bnd (zeroOf C.P t) fun z=>some (.own nb 0,upd st nb (some (.box (eH z)))):=(rfl)
@[simp] theorem APW (t:TypeId) (x:Operand):d9 C call (.box t x) env st nb=bnd (cellsOf (ev env x)) fun cs=>some (.own nb 0,upd st nb (some (.box cs))):=(rfl)
@[simp] theorem AKV (t:TypeId) (ps:Array (Nat×Operand)):d9 C call (.build t ps) env st nb=bnd (AX (bM C.P t)) fun g=>tst g (bnd (zeroOf C.P t) fun z=>bnd (partsOf env ps.toList) fun ps=>bnd (O3 (GA C.P t) (eH z) ps) fun cs=>some (S9 cs,st)):=(rfl)
@[simp] theorem AA2 (t:TypeId) (n:Nat) (ps:Array (Nat×Operand)):d9 C call (.buildSlice t n ps) env st nb=bnd (J2 (bM C.P t)) fun e=>bnd (partsOf env ps.toList) fun ps=>pU C e n st nb ps:=(rfl)
@[simp] theorem AMO (t:TypeId) (a:Operand):d9 C call (.load t a) env st nb=bnd (GZ C t (ev env a) st) fun v=>some (v,st):=(rfl)
@[simp] theorem AKQ (t:TypeId) (a x:Operand):d9 C call (.store t a x) env st nb=bnd (CO C t (ev env a) (ev env x) st) fun st1=>some (.i (.lit undef),st1):=(rfl)
@[simp] theorem ADC (x:Operand):d9 C call (.nilCheck x) env st nb=bnd (AIU (ev env x)) fun v=>some (v,st):=(rfl)
@[simp] theorem AKW (op:BinOp) (t:TypeId) (x y:Operand) (u:TypeId):d9 C call (.binOp op t x y u) env st nb=bnd (AK2 C op t (ev env x) (ev env y)) fun v=>some (.i v,st):=(rfl)
@[simp] theorem AML (op:UnOp) (t:TypeId) (x:Operand):d9 C call (.unOp op t x) env st nb=bnd (unA op (ev env x)) fun v=>some (.i v,st):=(rfl)
@[simp] theorem AH5 (s d:TypeId) (x:Operand):d9 C call (.convert s d x) env st nb=bnd (ABS (bM C.P s) (bM C.P d) (ev env x)) fun v=>some (v,st):=(rfl)
@[simp] theorem ACH (t:TypeId) (l c:Operand):d9 C call (.makeSlice t l c) env st nb=VQ C t st nb (ev env l) (ev env c):=(rfl)
@[simp] theorem AKR (t:TypeId) (x:Operand) (lo hi:Option Operand):d9 C call (.slice t x lo hi none) env st nb=bnd (CU C t (evO env lo) (evO env hi) (ev env x)) fun v=>some (v,st):=(rfl)
@[simp] theorem ACJ (s:TypeId) (x:Operand) (f:Nat):d9 C call (.fieldAddr s x f) env st nb=bnd (eD C.P s f) fun p=>bnd (iY C.P p.1) fun n=>tst (decide (0<n)) (bnd (jN p.2 (ev env x)) fun v=>some (v,st)):=(rfl)
@[simp] theorem AKT (s:TypeId) (x:Operand) (f:Nat):d9 C call (.field s x f) env st nb=bnd (eD C.P s f) fun p=>bnd (iY C.P p.1) fun n=>bnd (AX (bM C.P p.1)) fun g=>bnd (M4 p.2 n g (ev env x)) fun v=>some (v,st):=(rfl)
@[simp] theorem ACI (t:TypeId) (x i:Operand):d9 C call (.indexAddr t x i) env st nb=bnd (mG C (ev env x) (ev env i) (bM C.P t)) fun v=>some (v,st):=(rfl)
@[simp] theorem AKS (t:TypeId) (x i:Operand):d9 C call (.index t x i) env st nb=bnd (LQ C (ev env i) (bM C.P t) (ev env x)) fun v=>some (v,st):=(rfl)
@[simp] theorem AH4 (x:Operand) (j:Nat):d9 C call (.extract x j) env st nb=bnd (AC j (ev env x)) fun v=>some (v,st):=(rfl)
@[simp] theorem ADE (f:Fn) (fs cs:Array Operand):d9 C call (.makeFunc f fs cs) env st nb=tst fs.toList.isEmpty (bnd (AIV (evL env cs.toList) f) fun v=>some (v,st)):=(rfl)
@[simp] theorem AQ3 (cs:List AV) (g:FuncId):AIV cs (.func g)=some (.fn (.func g) cs):=(rfl)
@[simp] theorem AH6 (b:Builtin) (as1:Array Operand) (ts:Array TypeId):d9 C call (.call ⟨.builtin b,as1,ts⟩) env st nb=iM C st nb b ts.toList (evL env as1.toList):=(rfl)
@[simp] theorem AKU (f:Operand) (as1:Array Operand) (ts:Array TypeId):d9 C call (.call ⟨.value f,as1,ts⟩) env st nb=JL C call (evL env as1.toList) st nb (ev env f):=(rfl)
@[simp] theorem AMG (x:Operand):bI env (.move x)=([],true):=(rfl)
@[simp] theorem AHU (x:Operand):bI env (.assign x)=([],true):=(rfl)
@[simp] theorem AMF (c a b:Operand):bI env (.pick c a b)=([],true):=(rfl)
@[simp] theorem AKO (t:TypeId):bI env (.alloc t)=([],true):=(rfl)
@[simp] theorem APS (t:TypeId) (x:Operand):bI env (.box t x)=([],true):=(rfl)
@[simp] theorem AKM (t:TypeId) (ps:Array (Nat×Operand)):bI env (.build t ps)=([],true):=(rfl)
@[simp] theorem AD3 (x:Operand):bI env (.nilCheck x)=([],true):=(rfl)
@[simp] theorem AKN (op:BinOp) (t:TypeId) (x y:Operand) (u:TypeId):bI env (.binOp op t x y u)=([],true):=(rfl)
@[simp] theorem AME (op:UnOp) (t:TypeId) (x:Operand):bI env (.unOp op t x)=([],true):=(rfl)
@[simp] theorem AH3 (s d:TypeId) (x:Operand):bI env (.convert s d x)=([],true):=(rfl)
@[simp] theorem ACE (t:TypeId) (l c:Operand):bI env (.makeSlice t l c)=([],true):=(rfl)
@[simp] theorem AKJ (t:TypeId) (x:Operand) (lo hi:Option Operand):bI env (.slice t x lo hi none)=([],true):=(rfl)
@[simp] theorem ACG (s:TypeId) (x:Operand) (f:Nat):bI env (.fieldAddr s x f)=([],true):=(rfl)
@[simp] theorem AKL (s:TypeId) (x:Operand) (f:Nat):bI env (.field s x f)=([],true):=(rfl)
@[simp] theorem ACF (t:TypeId) (x i:Operand):bI env (.indexAddr t x i)=([],true):=(rfl)
@[simp] theorem AKK (t:TypeId) (x i:Operand):bI env (.index t x i)=([],true):=(rfl)
@[simp] theorem AH2 (x:Operand) (j:Nat):bI env (.extract x j)=([],true):=(rfl)
@[simp] theorem AD4 (f:Fn) (fs cs:Array Operand):bI env (.makeFunc f fs cs)=([],true):=(rfl)
attribute [simp] bI.eq_1 bI.eq_2 bI.eq_3 bI.eq_4 bI.eq_5 bI.eq_6
@[simp] theorem APR (as1:Array Operand) (ts:Array TypeId):bI env (.call ⟨.builtin .len,as1,ts⟩)=([],true):=(rfl)
@[simp] theorem APP (as1:Array Operand) (ts:Array TypeId):bI env (.call ⟨.builtin .min,as1,ts⟩)=([],true):=(rfl)
@[simp] theorem APQ (as1:Array Operand) (ts:Array TypeId):bI env (.call ⟨.builtin .max,as1,ts⟩)=([],true):=(rfl)
@[simp] theorem ATW (args:List AV) (g:FuncId) (cs:List AV):JL C call args st nb (.fn (.func g) cs)=if g=1000000007 then none else fQ call (C.ownArgs g) g (args++cs) st nb:=(rfl)
@[simp] theorem AR1 (args:List AV) (id:Nat):JL C call args st nb (.fn (.yield 0) [.own id 0])=fQ call true rH (.fn (.yield 0) [.own id 0]::args) st nb:=(rfl)
variable (all:List Oper) (base i:Nat) (log:List (Nat×List Nat×Bool)) (dst:Option Tmp) (op:Op) (ty:TypeId) (pos:String) (after:Array Edge) (os:List Oper)
@[simp] theorem ARU (t:Tmp) (v:AV):wF env (some t) v=upd env t v:=(rfl)
@[simp] theorem ARV (v:AV):wF env none v=env:=(rfl)
@[simp] theorem APY (draw:Bool) (R:RS):dL C call all draw base [] i R=some R:=(rfl)
@[simp] theorem ARK:dL C call all false base (⟨dst,op,ty,pos,after,none⟩::os) i ⟨env,st,log⟩ =
 bnd (d9 C call op env st (base+8*i)) (AG3 C call all false base os (i+1) env dst []):=(rfl)
@[simp] theorem ARJ (g:Nat×Bool):dL C call all false base (⟨dst,op,ty,pos,after,some g⟩::os) i ⟨env,st,log⟩ =
 bnd (PU env g.2 ((all[g.1]?).bind (·.dst))) fun b=>if b=true then bnd (d9 C call op env st (base+8*i)) (AG3 C call all false base os (i+1) env dst [])
  else dL C call all false base os (i+1) ⟨wF env dst (.i (.lit undef)),st,log⟩:=(rfl)
@[simp] theorem ARI:dL C call all true base (⟨dst,op,ty,pos,after,none⟩::os) i ⟨env,st,log⟩ =
 tst (AT4 base all ⟨dst,op,ty,pos,after,none⟩ st (bI env op).1 (CL st (bI env op)).1 (bI env op).2 log)
  (bnd (d9 C call op env st (base+8*i)) (AG3 C call all true base os (i+1) env dst (JF i (bI env op).2 log (CL st (bI env op)).1))):=(rfl)
@[simp] theorem ARH (g:Nat×Bool):dL C call all true base (⟨dst,op,ty,pos,after,some g⟩::os) i ⟨env,st,log⟩ =
 bnd (PU env g.2 ((all[g.1]?).bind (·.dst))) fun b=>if b=true then
  tst (AT4 base all ⟨dst,op,ty,pos,after,some g⟩ st (bI env op).1 (CL st (bI env op)).1 (bI env op).2 log)
   (bnd (d9 C call op env st (base+8*i)) (AG3 C call all true base os (i+1) env dst (JF i (bI env op).2 log (CL st (bI env op)).1)))
  else dL C call all true base os (i+1) ⟨wF env dst (.i (.lit undef)),st,log⟩:=(rfl)
end
attribute [simp] aX.eq_1 aX.eq_2
attribute [simp] bJ.eq_1 bJ.eq_2 bJ.eq_3
attribute [simp] AHI.eq_1 AHI.eq_2
attribute [simp] API.eq_1 API.eq_2
attribute [simp] S9.eq_1
attribute [simp] l5.eq_1 l5.eq_2
attribute [simp] qD.eq_1 qD.eq_2
attribute [simp] iH.eq_1 iH.eq_2
attribute [simp] dropE.eq_1 dropE.eq_2 dropE.eq_3
attribute [simp] wP.eq_1 wP.eq_2 wP.eq_3
attribute [simp] cut.eq_1
attribute [simp] splice.eq_1 splice.eq_2 splice.eq_3 splice.eq_4 splice.eq_5
attribute [simp] J2.eq_1
attribute [simp] uM.eq_1 uM.eq_2
attribute [simp] frz.eq_1 frz.eq_2 frz.eq_3 frz.eq_4 frz.eq_5 frz.eq_6
attribute [simp] DN.eq_1 DN.eq_2 DN.eq_3
attribute [simp] LY.eq_1 LY.eq_2 LY.eq_3
attribute [simp] vR.eq_1
attribute [simp] iO.eq_1 iO.eq_2
attribute [simp] nG.eq_1 nG.eq_2
attribute [simp] dR.eq_1 dR.eq_2 dR.eq_3 dR.eq_4 dR.eq_5 dR.eq_6 dR.eq_7 dR.eq_8 dR.eq_9
attribute [simp] bB.eq_1 bB.eq_2
attribute [simp] jL.eq_1 jL.eq_2 jL.eq_3 jL.eq_4 jL.eq_5 jL.eq_6 jL.eq_7
attribute [simp] ren.eq_1 ren.eq_2 ren.eq_3 ren.eq_4 ren.eq_5 ren.eq_6 ren.eq_7 ren.eq_8 ren.eq_9
attribute [simp] D5.eq_1 D5.eq_2
attribute [simp] JQ.eq_1 JQ.eq_2 JQ.eq_3 JQ.eq_4 JQ.eq_5 JQ.eq_6 JQ.eq_7
attribute [simp] kI.eq_1 kI.eq_2
attribute [simp] gX.eq_1
attribute [simp] JY.eq_1 JY.eq_2
attribute [simp] reach.eq_1 reach.eq_2 reach.eq_3
attribute [simp] IB.eq_1
attribute [simp] qH.eq_1 qH.eq_2
attribute [simp] upto.eq_1 upto.eq_2
attribute [simp] iX.eq_1
attribute [simp] kV.eq_1 kV.eq_2
attribute [simp] ev.eq_1 ev.eq_2 ev.eq_3 ev.eq_4
attribute [simp] evL.eq_1 evL.eq_2
attribute [simp] evO.eq_1 evO.eq_2
attribute [simp] PK.eq_1 PK.eq_2 PK.eq_3 PK.eq_4 PK.eq_5 PK.eq_6 PK.eq_7 PK.eq_8 PK.eq_9 PK.eq_10 PK.eq_11 PK.eq_12 PK.eq_13 PK.eq_14 PK.eq_15
attribute [simp] shI.eq_1 shI.eq_2
attribute [simp] AHH.eq_1 AHH.eq_2 AHH.eq_3 AHH.eq_4 AHH.eq_5 AHH.eq_6 AHH.eq_7
attribute [simp] ATB.eq_1 ATB.eq_2
attribute [simp] AT9.eq_1 AT9.eq_2
attribute [simp] APB.eq_1 APB.eq_2
attribute [simp] AK2.eq_1 AK2.eq_2 AK2.eq_3 AK2.eq_4 AK2.eq_5 ANL.eq_1 ANL.eq_2 ANL.eq_3 ANL.eq_4 ATA.eq_1 ATA.eq_2
attribute [simp] unA.eq_1 unA.eq_2
attribute [simp] lX.eq_1
attribute [simp] jX.eq_1 jX.eq_2
attribute [simp] oF.eq_1 oF.eq_2
attribute [simp] dS.eq_1 dS.eq_2 dS.eq_3 dS.eq_4
attribute [simp] DZ.eq_1 DZ.eq_2
attribute [simp] tY.eq_1
attribute [simp] UB.eq_1 UB.eq_2
attribute [simp] APH.eq_1
attribute [simp] nC.eq_1
attribute [simp] J5.eq_1 J5.eq_2
attribute [simp] WM.eq_1
attribute [simp] ALF.eq_1 ALF.eq_2 ALF.eq_3 ALF.eq_4 ALF.eq_5
attribute [simp] CU.eq_1 CU.eq_2 CU.eq_3 CU.eq_4
attribute [simp] O3.eq_1 O3.eq_2
attribute [simp] partsOf.eq_1 partsOf.eq_2
attribute [simp] RL.eq_1 RL.eq_2
attribute [simp] GA.eq_1
attribute [simp] pX.eq_1 pX.eq_2 pX.eq_3
attribute [simp] nP.eq_1 nP.eq_2
attribute [simp] eY.eq_1 eY.eq_2
attribute [simp] ABT.eq_1 ABT.eq_2
attribute [simp] MQ.eq_1 MQ.eq_2
attribute [simp] ANB.eq_1 ANB.eq_2
attribute [simp] JX.eq_1 JX.eq_2
attribute [simp] JW.eq_1 JW.eq_2
attribute [simp] loadAt.eq_1 loadAt.eq_2 loadAt.eq_3
attribute [simp] GZ.eq_1
attribute [simp] qZ.eq_1
attribute [simp] oO.eq_1
attribute [simp] storeAt.eq_1 storeAt.eq_2
attribute [simp] CO.eq_1
attribute [simp] gH.eq_1 gH.eq_2
attribute [simp] tQ.eq_1 tQ.eq_2
attribute [simp] jW.eq_1 jW.eq_2 jW.eq_3
attribute [simp] nZ.eq_1 nZ.eq_2 nZ.eq_3
attribute [simp] uH.eq_1
attribute [simp] kF.eq_1
attribute [simp] fQ.eq_1
attribute [simp] A8.eq_1 A8.eq_2
attribute [simp] iM.eq_1 iM.eq_2 iM.eq_3 iM.eq_4 iM.eq_5
attribute [simp] ABS.eq_1 ABS.eq_2
attribute [simp] AEK.eq_1
attribute [simp] AIU.eq_1 AIU.eq_2 AIU.eq_3 AIU.eq_4 AIU.eq_5
attribute [simp] VQ.eq_1
attribute [simp] jN.eq_1 jN.eq_2 jN.eq_3 jN.eq_4
attribute [simp] M4.eq_1 M4.eq_2
attribute [simp] HV.eq_1 HV.eq_2 HV.eq_3
attribute [simp] VY.eq_1
attribute [simp] mG.eq_1 mG.eq_2
attribute [simp] LQ.eq_1 LQ.eq_2
attribute [simp] AC.eq_1
attribute [simp] pU.eq_1
attribute [simp] X8.eq_1 X8.eq_2
attribute [simp] PU.eq_1 PU.eq_2
attribute [simp] wL.eq_1 wL.eq_2
attribute [simp] gD.eq_1 gD.eq_2
attribute [simp] CL.eq_1
attribute [simp] allIn.eq_1 allIn.eq_2
attribute [simp] VO.eq_1 VO.eq_2
attribute [simp] AT4.eq_1
attribute [simp] AIZ.eq_1 AIZ.eq_2
attribute [simp] qE.eq_1 qE.eq_2
attribute [simp] AFB.eq_1
attribute [simp] dY.eq_1 dY.eq_2
attribute [simp] wM.eq_1
attribute [simp] D8.eq_1 D8.eq_2
attribute [simp] AB4.eq_1 AB4.eq_2
attribute [simp] JF.eq_1 JF.eq_2
attribute [simp] o9.eq_1 o9.eq_2
attribute [simp] BS.eq_1 BS.eq_2
attribute [simp] BD.eq_1
attribute [simp] settle.eq_1
attribute [simp] Z6.eq_1 wX.eq_1 wX.eq_2 uA.eq_1 uA.eq_2 R4.eq_1 o8.eq_1 AGE.eq_1 N9.eq_1 I9.eq_1 XP.eq_1 nR.eq_1 nR.eq_2 QS.eq_1 wW.eq_1 UN.eq_1 K5.eq_1 setSt.eq_1 setSt.eq_2 setSt.eq_3
@[simp] theorem APV (k:Nat):N9 (.exit k)=.over (.exit k):=(rfl)
@[simp] theorem AOK (k:Nat):I9 (.exit k)=false:=(rfl)
@[simp] theorem AQA:I9 .ret=false:=(rfl)
@[simp] theorem AQZ:N9 .ret=.over .ret:=(rfl)
@[simp] theorem AUM (vs:List AV):UN [] vs=[]:=(rfl)
@[simp] theorem AT8 (vs:List AV) (E:List (Nat×AV)):K5 [] vs E=E:=(rfl)
attribute [simp] AAE.eq_1 AAE.eq_2 AAE.eq_3 AAE.eq_4
attribute [simp] JB.eq_1 JB.eq_2 JB.eq_3 JB.eq_4
attribute [simp] WP.eq_1
attribute [simp] AFZ.eq_1 AFZ.eq_2
attribute [simp] XQ.eq_1 XQ.eq_2
attribute [simp] FU.eq_1 FU.eq_2
attribute [simp] sQ.eq_1 sQ.eq_2
attribute [simp] XT.eq_1 XT.eq_2
attribute [simp] uW.eq_1 uW.eq_2
attribute [simp] VN.eq_1
attribute [simp] finish.eq_1
attribute [simp] ABL.eq_1 ABL.eq_2 ABL.eq_3 ABL.eq_4
attribute [simp] uO.eq_1 uO.eq_2 uO.eq_3
attribute [simp] IY.eq_1 IY.eq_2
attribute [simp] enter.eq_1
attribute [simp] wR.eq_1 wR.eq_2
attribute [simp] XU.eq_1 XU.eq_2
attribute [simp] rP.eq_1 rP.eq_2 rP.eq_3 rP.eq_4 rP.eq_5
attribute [simp] BZ.eq_1 BZ.eq_2
attribute [simp] JC.eq_1 JC.eq_2
attribute [simp] AHA.eq_1 AHA.eq_2 AHA.eq_3 AHA.eq_4
attribute [simp] EC.eq_1 EC.eq_2
attribute [simp] AHJ.eq_1 AHJ.eq_2
attribute [simp] UO.eq_1 UO.eq_2 UO.eq_3
attribute [simp] MO.eq_1 MO.eq_2
attribute [simp] KE.eq_1
attribute [simp] iR.eq_1 iR.eq_2
attribute [simp] storeT.eq_1 storeT.eq_2
@[simp] theorem AN7 (st:Store) (v:AV):FV st [v]=some ([v],st):=(rfl)
@[simp] theorem AN8 (st:Store):FV st []=some ([],st):=(rfl)
@[simp] theorem AN6 (st:Store) (a b:AV) (r:List AV):FV st (a::b::r)=uW st (a::b::r):=(rfl)
@[simp] theorem ASG (st:Store) (cs:List AV):BN st (.agg cs)=bnd (rF st (.agg cs)) fun p=>some (.i p.1,p.2):=(rfl)
@[simp] theorem AQ7 (st:Store) :BN st .nils=some (.nils,st):=(rfl)
@[simp] theorem ASE (st:Store) (i o:Nat):BN st (.own i o)=some ((.own i o),st):=(rfl)
@[simp] theorem AQ6 (st:Store) (i k j o:Nat):BN st (.ownE i k j o)=some ((.ownE i k j o),st):=(rfl)
@[simp] theorem ASF (st:Store) (i k o l:Nat):BN st (.osl i k o l)=some ((.osl i k o l),st):=(rfl)
@[simp] theorem AUE (st:Store) (f:Fn) (cs:List AV):BN st (.fn f cs)=some ((.fn f cs),st):=(rfl)
@[simp] theorem AVP (st:Store) (v:IV):BN st (.i v)=some ((.i v),st):=(rfl)
@[simp] theorem ASD (st:Store) (cs:List AV):BN st (.tup cs)=some ((.tup cs),st):=(rfl)
@[simp] theorem AQ8 (st:Store) :BN st .junk=some (.junk,st):=(rfl)
@[simp] theorem ATO (all:List Oper) (after:List Edge) (j:Nat):gI all 3 after j=if wM after j=true then true else after.any fun e=>Region.binds .any e && gI all 2 (uK all e.on) j:=(rfl)
@[simp] theorem ATP (all:List Oper) (after:List Edge) (j:Nat):gI all 2 after j=if wM after j=true then true else after.any fun e=>Region.binds .any e && gI all 1 (uK all e.on) j:=(rfl)
@[simp] theorem ATQ (all:List Oper) (after:List Edge) (j:Nat):gI all 1 after j=if wM after j=true then true else after.any fun e=>Region.binds .any e && gI all 0 (uK all e.on) j:=(rfl)
@[simp] theorem ATR (all:List Oper) (after:List Edge) (j:Nat):gI all 0 after j=wM after j:=(rfl)
attribute [simp] uK.eq_1
attribute [simp] undef
attribute [simp] wide
end Go.Av
namespace Go.Proofs.YtjdfjgmebalaaaaGreat
open Go Go.Av
def GS:FuncId→List Nat
 | 3=>[0,1,2,3,4,5,8,9,10,11,12,13,14,15,18,23,28,33,58,63,68,73,78]
 | 4=>[0,2,3,4,5,6,7,8,9,10,11,12,13,16,59,81,95]
 | 5=>[0,1,2,4,5,6,7,8,9,10,11,12,13,16,21,37,42,47,61,69,72,81,86,89]
 | 6=>[0,1,2,3,5,6,7,8,9,10,11,12,13,14,15,16,17,18,19,22,27,32,64,69,74,79,101,109,112,131,136,139]
 | 7=>[0,1,2,3,6,7,8,9,10,11,12,13,14,15,16,17,18,19,22,27,32,64,69,74,79,101,109,112,131,136,139]
 | 8=>[0,1,2,4,5,6,7,8,9,10,11,12,13,14,15,16,19,24,52,57,62,82,93,98,101,119,124,129,132]
 | 9=>[0,1,2,4,5,6,7,8,9,10,11,12,13,14,15,16,21,26,54,59,64,84,95,100,103,121,126,131,134]
 | 10=>[0,1,2,4,10,16,22]
 | 11=>[0,1,4,5,11,15,25]
 | 12=>[0,1,2,3,4,5,8,9,10]
 | 13=>[0,1,2,3]
 | 14=>[0,2,3,4,11]
 | 15=>[0,2,3,4,11]
 | 16=>[0,1,2,3,4,5,8,9,10]
 | 17=>[0,1,2,3,4,9,14,20,26,32]
 | 18=>[0,1,4,5,10,14,25]
 | 19=>[0,1,4,5,10,14,26]
 | 20=>[0,2,3]
 | 21=>[0,1,2,3,4,5,6,7,8,9,10,11,12,13,18,26,27,36,42]
 | 22=>[0,1,2,4,5,6,7,8,9,10,11,12,13,15,19,26,50,68]
 | 23=>[0,1,2,4,6]
 | 24=>[0,1,2,3,4,5,42,47,61]
 | 25=>[0,1,4,5,10,14,25]
 | 26=>[0,1,2,3,5,6,7,8,9,10,11,15,21,36]
 | 27=>[0,1,2,4,8]
 | 28=>[0,1,2,4,5,6,10,12,13]
 | 29=>[0,1,2,4]
 | 30=>[0,1,4,5,9]
 | 31=>[0,1,4,5,9]
 | 32=>[0,1,4,5,9,18,29]
 | 33=>[0,1,2,4,10]
 | 34=>[0,1,2,3,5,6,7,17]
 | 35=>[0,1,2,3]
 | 36=>[0,1,2,3,4,9,15]
 | 37=>[0,1,2,4]
 | 38=>[0,1,2,4,10,16,22]
 | 39=>[0,1,2,3,6,7,8,9,10,11,20,27,41]
 | 40=>[0,1,2,3,6,7,8,10,11,12,21,24,25,26,27,38]
 | 41=>[0,1,2,4,5,6,7,8,9,10,16,23,39,45]
 | 42=>[0,1,2,4,5,6,7,8,9,13,18,25]
 | 43=>[0,1,4,5,11,15,25]
 | 44=>[0,2,3,4,11]
 | 45=>[0,1,4,5,10,14,26]
 | 46=>[0,1,4,5,9]
 | 47=>[0,1,2,4,10]
 | 48=>[0,1,4,5,11,15,25]
 | 49=>[0,1,4,10]
 | 50=>[0,1,4,5,11,15,25]
 | 51=>[0,1,2,3,4,5,6,7,46,51,65,70,83,88,102]
 | 52=>[0,2,3,4,11]
 | 53=>[0,2,3,4,11]
 | 54=>[0,1,4,5,6,38,62,67,68,69,84,90,91,92,107]
 | 55=>[0,1,4,5,10,14,26]
 | 56=>[0,1,4,5,10,14,26]
 | 57=>[0,2,3,4,5,6]
 | 58=>[0,2,3,4,6,7,8]
 | 59=>[0,2,3,4,5,6,7,14,38,39,40,76,77,78]
 | 60=>[0,1,2,3,4]
 | 61=>[0,1,2,4,5,6,11,25]
 | 62=>[0,1,2,3,4,5,19,37]
 | 63=>[0,1,2,4,5,6,14]
 | 64=>[0,1,2,4,5,6,7,8,9,11,20,24,42]
 | 65=>[0,1,2,3,5,6,7,8,9,10,19,30,40]
 | 66=>[0,1,4,5,6,7,8,11,13,14,15,28,36]
 | 67=>[0,1,4,5,10,14,26]
 | 68=>[0,1,2,4,7]
 | 69=>[0,1,4,6,9,10,11,12,13,26]
 | 70=>[0,1,2,3,8,9,10,11,12,19,37]
 | 71=>[0,1,2,4,7]
 | 72=>[0,1,4,5,9]
 | 73=>[0,1,4,5,9]
 | 74=>[0,1,4,5,9,17]
 | 75=>[0,1,4,5,9,18,27,39,49,60]
 | 76=>[0,1,4,5,9,18,27,38,47,56]
 | 77=>[0,2]
 | 78=>[0,1,4,5,6,9,10,12]
 | 79=>[0,1,2,4,10,16]
 | 80=>[0,1,2,3]
 | 81=>[0,1,2,3,4,9,15,21]
 | 82=>[0,1,2,4,10]
 | 83=>[0,1,2,3,4,5,33,38,52]
 | 84=>[0,1,2,3]
 | 85=>[0,1,4,5,10,12,13,14,24]
 | 86=>[0,1,4,5,49,54,55,56,71]
 | 87=>[0,1,2,3,4,9,14,20,26]
 | 88=>[0,2,5]
 | 89=>[0,2,3,4,5,13]
 | 90=>[0,1,4,5,6,11,28]
 | 91=>[0,2,3,6]
 | 92=>[0,2,3,4,5,6,13,37,38,39]
 | 93=>[0,2,3,6]
 | 94=>[0,2,3,6]
 | 95=>[0,1,2]
 | 96=>[0,1,2,3,8,9,11,12,14,28,35,40,41,42,58]
 | 97=>[0,1,2,4]
 | 98=>[0,1,2,3,4,16]
 | 99=>[0,1,2,4,5,6,9,23,24,31,56,77,82,93,98]
 | 100=>[0,1,2,4,6,7,18]
 | 101=>[0,1,2,4,5,6,10,22]
 | 102=>[0,1,2,3,6,7,8,9,10,11,12,13,14,24,71,99,120]
 | 103=>[0,1,2,3,5,6,7,10]
 | 104=>[0,1,2,3,6,7,8,9,23,28,41,47,48,55,61,70,74,82,106,114,122,126,131,144]
 | 105=>[0,1,2,4,5,18,30,31,32,33,50,72]
 | 106=>[0,1,2,6,7,8,9,10,15,16,17,36,37,47,62,82,103,108,116,123]
 | 107=>[0,1,2,3,4]
 | 108=>[0,2,4,12,13,14,15,16,21]
 | 109=>[0,1,2,6,7,8,9,10,31,60,87,92,106,118,119,120,137]
 | 110=>[0,4,5,6,7,8,16]
 | 111=>[0,4,5,6,21]
 | 112=>[0,1,4,5,6,7,8,16,38]
 | 113=>[0,1,4,5,6,7,8,9,10,18,34]
 | 114=>[0,4,5,6,7,8,16]
 | 115=>[0,1,4,5,6,7,8,9,10,15,37,38,39]
 | 116=>[0,1,4,5,6,7,8,9,10,11,19,36,49]
 | 117=>[0,4,5,6,7,8,16]
 | 118=>[0,4,5,30]
 | 119=>[0,1,4,5,6,7,8,9,17]
 | 120=>[0,1,4,5,6,7,8,9,10,11,26,50,51,52,71]
 | 121=>[0,2,3,7,15]
 | 122=>[0,1,2]
 | 123=>[0,1,2,3]
 | 124=>[0,1,2,3,4,9,14]
 | 125=>[0,2,3,4,10]
 | 126=>[0,1,4,5,10,11,17,23,33]
 | 127=>[0,1,4,5,6,24,36]
 | 128=>[0,1,4]
 | 129=>[0,1,2,3,4,5,6,7,8,16,24,36,43]
 | 130=>[0,1,2,6,7,8,15]
 | 131=>[0,1,4,5,12,18,19,25,33]
 | 132=>[0,1,2,6]
 | 133=>[0,1,2,4,5,23,26,54]
 | 134=>[0,1,2,3,4,5,6,8,9,17,26,42,64,88,96,98,110]
 | 135=>[0,1,2,4,5,13,27]
 | 136=>[0,1,2,3,6,7,8,9,10,11,12,13,14,26,42,62,81,112,150,169,190,212]
 | 137=>[0,1,4,5,6,10]
 | 138=>[0,1,2,4,5,6,9,27]
 | 139=>[0,1,2,3,4,6,7,9,12,14,16]
 | 140=>[0,1,2,4]
 | 141=>[0,1,4,5,9,18,21]
 | 142=>[0,1,4,5,9,35]
 | 143=>[0,2]
 | 144=>[0,2,6,7,11,27]
 | 145=>[0,1,4,5,6,10,11,15,25,46,59,64,66,82]
 | 146=>[0,2,3,4,5,7,10,13,15]
 | 147=>[0,1,2,6,7,8,13,14,21,22,26,27,35,46,47,48,59,65]
 | 148=>[0,1,4,5,6,22]
 | 149=>[0,1,2,3,4]
 | 150=>[0,1,2,3,4]
 | 151=>[0,2,3,4,9,19,20,21]
 | 152=>[0,1,2,3,5,6,7,8]
 | 153=>[0,1,3,4]
 | 154=>[0,1,3]
 | 155=>[0,1,2,4,7]
 | 156=>[0,2]
 | 157=>[0,1,2,3,6,7,8,10,14,18,19,20,26,27,28,29,38]
 | 158=>[0,1,2,3,4,6,7,8,9,14,20,21,22,30,42]
 | 159=>[0,1,4,5,6,18]
 | 160=>[0,1,4,5,10,11,17,24]
 | 161=>[0,1,4,5,6,10,19]
 | 162=>[0,1,4,5,6,10]
 | 163=>[0,1,4,5,6,11,16]
 | 164=>[0,2,3]
 | 165=>[0,1,2,3,6]
 | 166=>[0,1,2,4,15]
 | 167=>[0,1,2,3,4]
 | 168=>[0,1,2,3,6,7]
 | 169=>[0,1,2,3,6]
 | 170=>[0,1,4,5,6,11]
 | 171=>[0,1,2,3,6,7,24,29,41,43,44,57]
 | 172=>[0,2,8]
 | 173=>[0,1,4,5,6,35,53]
 | 174=>[0,1,4,5,7,10,11,12,13,14,24]
 | 175=>[0,1,2,4]
 | 176=>[0,1,4,5,6,12,39,40,41]
 | 177=>[0,1,3,8]
 | 178=>[0,1,4,5,6,10,11,20,37,38,50,54,59]
 | 179=>[0,2,3,4,9,10,11]
 | 180=>[0,1,2,6,7,27,32,33,34,46]
 | 181=>[0,1,3,8]
 | 182=>[0,1,4,5,6,7,8,9,10,11,12,31,44,45,54,62,77,88,110,122,128,146,151,154]
 | 183=>[0,1,4]
 | 184=>[0,1,2,6,7,8,9,10,18,21,37]
 | 185=>[0,2,3,7,8,11]
 | 186=>[0,1,4,5,6,16,29]
 | 187=>[0,2,5]
 | 188=>[0,1,4,5,6,7,8,13,24]
 | 189=>[0,1,3,4,5,8,17]
 | 190=>[0,1,2,4,5,6,7,9,10,17,29,30,42,46,49,66,76,84,89]
 | 191=>[0,1,4,5,6,7,8,12,18,26]
 | 192=>[0,2,3,4,7,10]
 | 193=>[0,1,2]
 | 194=>[0,1,2,3,6]
 | 195=>[0,1,2,6,7,8,28,62,90,95,96,97,109]
 | 196=>[0,1,2,3,6]
 | 197=>[0,1,2,6,7,9,11,17,19,20,21,22,26,27,28,29,46,54,66]
 | 198=>[0,1,2,6,7,8,9,20,32,33,34,39,46,59,66]
 | 199=>[0,1,2]
 | 200=>[0,1,2,3,4,5,9]
 | 201=>[0,2]
 | 202=>[0,1,4,5,6,18,32]
 | 203=>[0,1,2,3,6]
 | 204=>[0,1,2,6,7,8,9,11,15,29]
 | 205=>[0,2,3,4,7,10]
 | 206=>[0,1,2,4]
 | 207=>[0,2,3,5,9,10,11,12,19]
 | 208=>[0,1,2,4,5,6,7,16,25,33,34,42,50,58]
 | 209=>[0,1,2,4,5,6,7,8,16,32,34,35,43,51,59]
 | 210=>[0,2,3,4,7]
 | 211=>[0,2]
 | 212=>[0]
 | 213=>[0,2,4]
 | 214=>[0,2,3,7]
 | 215=>[0,2,3]
 | 216=>[0,2,4]
 | 217=>[0,1,4,5,12]
 | 218=>[0,2,4]
 | 219=>[0,2,5]
 | 235=>[]
 | _=>[]
def bT:FuncId→Bool
 | 89=>true
 | 90=>true
 | 92=>true
 | 95=>true
 | 100=>true
 | 125=>true
 | 126=>true
 | 127=>true
 | 128=>true
 | 130=>true
 | 131=>true
 | 154=>true
 | 155=>true
 | 159=>true
 | 160=>true
 | 161=>true
 | 162=>true
 | 177=>true
 | 181=>true
 | 182=>true
 | 183=>true
 | 184=>true
 | 185=>true
 | 187=>true
 | 198=>true
 | _=>false
def keepR:FuncId→Bool
 | 88=>true
 | 162=>true
 | 130=>true
 | 125=>true
 | 126=>true
 | 160=>true
 | 91=>true
 | 94=>true
 | 93=>true
 | 137=>true
 | 62=>true
 | 100=>true
 | 60=>true
 | 188=>true
 | 201=>true
 | 129=>true
 | _=>false
def JZ:TypeId→Bool
 | 108=>true
 | 109=>true
 | 113=>true
 | _=>false
@[simp] theorem kR4:keepR 4=false:=(rfl)
@[simp] theorem gS4:GS 4=[0,2,3,4,5,6,7,8,9,10,11,12,13,16,59,81,95]:=(rfl)
@[simp] theorem AkB:bT 20=false:=(rfl)
@[simp] theorem Al7:keepR 20=false:=(rfl)
@[simp] theorem AmB:GS 20=[0,2,3]:=(rfl)
@[simp] theorem AkA:bT 21=false:=(rfl)
@[simp] theorem Al6:keepR 21=false:=(rfl)
@[simp] theorem AmA:GS 21=[0,1,2,3,4,5,6,7,8,9,10,11,12,13,18,26,27,36,42]:=(rfl)
@[simp] theorem Ak9:bT 22=false:=(rfl)
@[simp] theorem Al5:keepR 22=false:=(rfl)
@[simp] theorem Am9:GS 22=[0,1,2,4,5,6,7,8,9,10,11,12,13,15,19,26,50,68]:=(rfl)
@[simp] theorem Ak8:bT 23=false:=(rfl)
@[simp] theorem Al4:keepR 23=false:=(rfl)
@[simp] theorem Am8:GS 23=[0,1,2,4,6]:=(rfl)
@[simp] theorem Ak7:bT 24=false:=(rfl)
@[simp] theorem Al3:keepR 24=false:=(rfl)
@[simp] theorem Am7:GS 24=[0,1,2,3,4,5,42,47,61]:=(rfl)
@[simp] theorem Ak6:bT 25=false:=(rfl)
@[simp] theorem Al2:keepR 25=false:=(rfl)
@[simp] theorem Am6:GS 25=[0,1,4,5,10,14,25]:=(rfl)
@[simp] theorem Ak5:bT 26=false:=(rfl)
@[simp] theorem Al1:keepR 26=false:=(rfl)
@[simp] theorem Am5:GS 26=[0,1,2,3,5,6,7,8,9,10,11,15,21,36]:=(rfl)
@[simp] theorem Ak4:bT 57=false:=(rfl)
@[simp] theorem Al0:keepR 57=false:=(rfl)
@[simp] theorem Am4:GS 57=[0,2,3,4,5,6]:=(rfl)
@[simp] theorem Ak3:bT 58=false:=(rfl)
@[simp] theorem AkZ:keepR 58=false:=(rfl)
@[simp] theorem Am3:GS 58=[0,2,3,4,6,7,8]:=(rfl)
@[simp] theorem Ak2:bT 59=false:=(rfl)
@[simp] theorem Am2:GS 59=[0,2,3,4,5,6,7,14,38,39,40,76,77,78]:=(rfl)
@[simp] theorem Ak1:bT 60=false:=(rfl)
@[simp] theorem AkY:keepR 60=true:=(rfl)
@[simp] theorem Am1:GS 60=[0,1,2,3,4]:=(rfl)
@[simp] theorem Ak0:bT 61=false:=(rfl)
@[simp] theorem AkX:keepR 61=false:=(rfl)
@[simp] theorem Am0:GS 61=[0,1,2,4,5,6,11,25]:=(rfl)
@[simp] theorem AjZ:bT 62=false:=(rfl)
@[simp] theorem AkW:keepR 62=true:=(rfl)
@[simp] theorem AlZ:GS 62=[0,1,2,3,4,5,19,37]:=(rfl)
@[simp] theorem AjY:bT 63=false:=(rfl)
@[simp] theorem AkV:keepR 63=false:=(rfl)
@[simp] theorem AlY:GS 63=[0,1,2,4,5,6,14]:=(rfl)
@[simp] theorem AjX:bT 64=false:=(rfl)
@[simp] theorem AkU:keepR 64=false:=(rfl)
@[simp] theorem AlX:GS 64=[0,1,2,4,5,6,7,8,9,11,20,24,42]:=(rfl)
@[simp] theorem AjW:bT 65=false:=(rfl)
@[simp] theorem AkT:keepR 65=false:=(rfl)
@[simp] theorem AlW:GS 65=[0,1,2,3,5,6,7,8,9,10,19,30,40]:=(rfl)
@[simp] theorem AjV:bT 66=false:=(rfl)
@[simp] theorem AkS:keepR 66=false:=(rfl)
@[simp] theorem AlV:GS 66=[0,1,4,5,6,7,8,11,13,14,15,28,36]:=(rfl)
@[simp] theorem AjU:bT 67=false:=(rfl)
@[simp] theorem AkR:keepR 67=false:=(rfl)
@[simp] theorem AlU:GS 67=[0,1,4,5,10,14,26]:=(rfl)
@[simp] theorem AjT:bT 68=false:=(rfl)
@[simp] theorem AkQ:keepR 68=false:=(rfl)
@[simp] theorem AlT:GS 68=[0,1,2,4,7]:=(rfl)
@[simp] theorem AjS:bT 69=false:=(rfl)
@[simp] theorem AkP:keepR 69=false:=(rfl)
@[simp] theorem AlS:GS 69=[0,1,4,6,9,10,11,12,13,26]:=(rfl)
@[simp] theorem AjR:bT 70=false:=(rfl)
@[simp] theorem AkO:keepR 70=false:=(rfl)
@[simp] theorem AlR:GS 70=[0,1,2,3,8,9,10,11,12,19,37]:=(rfl)
@[simp] theorem AjQ:bT 71=false:=(rfl)
@[simp] theorem AkN:keepR 71=false:=(rfl)
@[simp] theorem AlQ:GS 71=[0,1,2,4,7]:=(rfl)
@[simp] theorem AjP:bT 88=false:=(rfl)
@[simp] theorem AkM:keepR 88=true:=(rfl)
@[simp] theorem AlP:GS 88=[0,2,5]:=(rfl)
@[simp] theorem AjO:bT 89=true:=(rfl)
@[simp] theorem AkL:keepR 89=false:=(rfl)
@[simp] theorem AlO:GS 89=[0,2,3,4,5,13]:=(rfl)
@[simp] theorem AjN:bT 90=true:=(rfl)
@[simp] theorem AkK:keepR 90=false:=(rfl)
@[simp] theorem AlN:GS 90=[0,1,4,5,6,11,28]:=(rfl)
@[simp] theorem AjM:bT 91=false:=(rfl)
@[simp] theorem AkJ:keepR 91=true:=(rfl)
@[simp] theorem AlM:GS 91=[0,2,3,6]:=(rfl)
@[simp] theorem AjL:bT 92=true:=(rfl)
@[simp] theorem AlL:GS 92=[0,2,3,4,5,6,13,37,38,39]:=(rfl)
@[simp] theorem AjK:bT 93=false:=(rfl)
@[simp] theorem AkI:keepR 93=true:=(rfl)
@[simp] theorem AlK:GS 93=[0,2,3,6]:=(rfl)
@[simp] theorem AjJ:bT 94=false:=(rfl)
@[simp] theorem AkH:keepR 94=true:=(rfl)
@[simp] theorem AlJ:GS 94=[0,2,3,6]:=(rfl)
@[simp] theorem AkG:keepR 95=false:=(rfl)
@[simp] theorem AlI:GS 95=[0,1,2]:=(rfl)
@[simp] theorem AjI:bT 96=false:=(rfl)
@[simp] theorem AkF:keepR 96=false:=(rfl)
@[simp] theorem AlH:GS 96=[0,1,2,3,8,9,11,12,14,28,35,40,41,42,58]:=(rfl)
@[simp] theorem AjH:bT 97=false:=(rfl)
@[simp] theorem AkE:keepR 97=false:=(rfl)
@[simp] theorem AlG:GS 97=[0,1,2,4]:=(rfl)
@[simp] theorem AjG:bT 98=false:=(rfl)
@[simp] theorem AkD:keepR 98=false:=(rfl)
@[simp] theorem AlF:GS 98=[0,1,2,3,4,16]:=(rfl)
@[simp] theorem AjF:bT 99=false:=(rfl)
@[simp] theorem AkC:keepR 99=false:=(rfl)
@[simp] theorem AlE:GS 99=[0,1,2,4,5,6,9,23,24,31,56,77,82,93,98]:=(rfl)
@[simp] theorem AbM:bT 100=true:=(rfl)
@[simp] theorem AeU:keepR 100=true:=(rfl)
@[simp] theorem Ai9:GS 100=[0,1,2,4,6,7,18]:=(rfl)
@[simp] theorem AbL:bT 101=false:=(rfl)
@[simp] theorem AeT:keepR 101=false:=(rfl)
@[simp] theorem Ai8:GS 101=[0,1,2,4,5,6,10,22]:=(rfl)
@[simp] theorem AbK:bT 102=false:=(rfl)
@[simp] theorem AeS:keepR 102=false:=(rfl)
@[simp] theorem Ai7:GS 102=[0,1,2,3,6,7,8,9,10,11,12,13,14,24,71,99,120]:=(rfl)
@[simp] theorem AbJ:bT 103=false:=(rfl)
@[simp] theorem AeR:keepR 103=false:=(rfl)
@[simp] theorem Ai6:GS 103=[0,1,2,3,5,6,7,10]:=(rfl)
@[simp] theorem AbI:bT 104=false:=(rfl)
@[simp] theorem AeQ:keepR 104=false:=(rfl)
@[simp] theorem Ai5:GS 104=[0,1,2,3,6,7,8,9,23,28,41,47,48,55,61,70,74,82,106,114,122,126,131,144]:=(rfl)
@[simp] theorem AbH:bT 105=false:=(rfl)
@[simp] theorem AeP:keepR 105=false:=(rfl)
@[simp] theorem Ai4:GS 105=[0,1,2,4,5,18,30,31,32,33,50,72]:=(rfl)
@[simp] theorem AeO:keepR 106=false:=(rfl)
@[simp] theorem Ai3:GS 106=[0,1,2,6,7,8,9,10,15,16,17,36,37,47,62,82,103,108,116,123]:=(rfl)
@[simp] theorem AbG:bT 107=false:=(rfl)
@[simp] theorem AeN:keepR 107=false:=(rfl)
@[simp] theorem Ai2:GS 107=[0,1,2,3,4]:=(rfl)
@[simp] theorem AbF:bT 108=false:=(rfl)
@[simp] theorem AeM:keepR 108=false:=(rfl)
@[simp] theorem Ai1:GS 108=[0,2,4,12,13,14,15,16,21]:=(rfl)
@[simp] theorem AbE:bT 109=false:=(rfl)
@[simp] theorem AeL:keepR 109=false:=(rfl)
@[simp] theorem Ai0:GS 109=[0,1,2,6,7,8,9,10,31,60,87,92,106,118,119,120,137]:=(rfl)
@[simp] theorem AbD:bT 110=false:=(rfl)
@[simp] theorem AeK:keepR 110=false:=(rfl)
@[simp] theorem AhZ:GS 110=[0,4,5,6,7,8,16]:=(rfl)
@[simp] theorem AbC:bT 111=false:=(rfl)
@[simp] theorem AeJ:keepR 111=false:=(rfl)
@[simp] theorem AhY:GS 111=[0,4,5,6,21]:=(rfl)
@[simp] theorem AbB:bT 112=false:=(rfl)
@[simp] theorem AeI:keepR 112=false:=(rfl)
@[simp] theorem AhX:GS 112=[0,1,4,5,6,7,8,16,38]:=(rfl)
@[simp] theorem AbA:bT 113=false:=(rfl)
@[simp] theorem AeH:keepR 113=false:=(rfl)
@[simp] theorem AhW:GS 113=[0,1,4,5,6,7,8,9,10,18,34]:=(rfl)
@[simp] theorem Ab9:bT 114=false:=(rfl)
@[simp] theorem AeG:keepR 114=false:=(rfl)
@[simp] theorem AhV:GS 114=[0,4,5,6,7,8,16]:=(rfl)
@[simp] theorem Ab8:bT 115=false:=(rfl)
@[simp] theorem AeF:keepR 115=false:=(rfl)
@[simp] theorem AhU:GS 115=[0,1,4,5,6,7,8,9,10,15,37,38,39]:=(rfl)
@[simp] theorem Ab7:bT 116=false:=(rfl)
@[simp] theorem AeE:keepR 116=false:=(rfl)
@[simp] theorem AhT:GS 116=[0,1,4,5,6,7,8,9,10,11,19,36,49]:=(rfl)
@[simp] theorem Ab6:bT 117=false:=(rfl)
@[simp] theorem AeD:keepR 117=false:=(rfl)
@[simp] theorem AhS:GS 117=[0,4,5,6,7,8,16]:=(rfl)
@[simp] theorem Ab5:bT 118=false:=(rfl)
@[simp] theorem AeC:keepR 118=false:=(rfl)
@[simp] theorem AhR:GS 118=[0,4,5,30]:=(rfl)
@[simp] theorem Ab4:bT 119=false:=(rfl)
@[simp] theorem AeB:keepR 119=false:=(rfl)
@[simp] theorem AhQ:GS 119=[0,1,4,5,6,7,8,9,17]:=(rfl)
@[simp] theorem Ab3:bT 120=false:=(rfl)
@[simp] theorem AeA:keepR 120=false:=(rfl)
@[simp] theorem AhP:GS 120=[0,1,4,5,6,7,8,9,10,11,26,50,51,52,71]:=(rfl)
@[simp] theorem Ab2:bT 121=false:=(rfl)
@[simp] theorem Ae9:keepR 121=false:=(rfl)
@[simp] theorem AhO:GS 121=[0,2,3,7,15]:=(rfl)
@[simp] theorem Ab1:bT 125=true:=(rfl)
@[simp] theorem Ae8:keepR 125=true:=(rfl)
@[simp] theorem AhN:GS 125=[0,2,3,4,10]:=(rfl)
@[simp] theorem Ab0:bT 126=true:=(rfl)
@[simp] theorem Ae7:keepR 126=true:=(rfl)
@[simp] theorem AhM:GS 126=[0,1,4,5,10,11,17,23,33]:=(rfl)
@[simp] theorem AaZ:bT 127=true:=(rfl)
@[simp] theorem Ae6:keepR 127=false:=(rfl)
@[simp] theorem AhL:GS 127=[0,1,4,5,6,24,36]:=(rfl)
@[simp] theorem AaY:bT 128=true:=(rfl)
@[simp] theorem Ae5:keepR 128=false:=(rfl)
@[simp] theorem AhK:GS 128=[0,1,4]:=(rfl)
@[simp] theorem AaX:bT 129=false:=(rfl)
@[simp] theorem Ae4:keepR 129=true:=(rfl)
@[simp] theorem AhJ:GS 129=[0,1,2,3,4,5,6,7,8,16,24,36,43]:=(rfl)
@[simp] theorem AaW:bT 130=true:=(rfl)
@[simp] theorem Ae3:keepR 130=true:=(rfl)
@[simp] theorem AhI:GS 130=[0,1,2,6,7,8,15]:=(rfl)
@[simp] theorem AaV:bT 131=true:=(rfl)
@[simp] theorem Ae2:keepR 131=false:=(rfl)
@[simp] theorem AhH:GS 131=[0,1,4,5,12,18,19,25,33]:=(rfl)
@[simp] theorem AaU:bT 132=false:=(rfl)
@[simp] theorem Ae1:keepR 132=false:=(rfl)
@[simp] theorem AhG:GS 132=[0,1,2,6]:=(rfl)
@[simp] theorem AaT:bT 133=false:=(rfl)
@[simp] theorem Ae0:keepR 133=false:=(rfl)
@[simp] theorem AhF:GS 133=[0,1,2,4,5,23,26,54]:=(rfl)
@[simp] theorem AaS:bT 134=false:=(rfl)
@[simp] theorem AdZ:keepR 134=false:=(rfl)
@[simp] theorem AhE:GS 134=[0,1,2,3,4,5,6,8,9,17,26,42,64,88,96,98,110]:=(rfl)
@[simp] theorem AaR:bT 135=false:=(rfl)
@[simp] theorem AdY:keepR 135=false:=(rfl)
@[simp] theorem AhD:GS 135=[0,1,2,4,5,13,27]:=(rfl)
@[simp] theorem AaQ:bT 136=false:=(rfl)
@[simp] theorem AdX:keepR 136=false:=(rfl)
@[simp] theorem AhC:GS 136=[0,1,2,3,6,7,8,9,10,11,12,13,14,26,42,62,81,112,150,169,190,212]:=(rfl)
@[simp] theorem AaP:bT 137=false:=(rfl)
@[simp] theorem AdW:keepR 137=true:=(rfl)
@[simp] theorem AhB:GS 137=[0,1,4,5,6,10]:=(rfl)
@[simp] theorem AaO:bT 138=false:=(rfl)
@[simp] theorem AdV:keepR 138=false:=(rfl)
@[simp] theorem AhA:GS 138=[0,1,2,4,5,6,9,27]:=(rfl)
@[simp] theorem AaN:bT 139=false:=(rfl)
@[simp] theorem AdU:keepR 139=false:=(rfl)
@[simp] theorem Ah9:GS 139=[0,1,2,3,4,6,7,9,12,14,16]:=(rfl)
@[simp] theorem AaM:bT 140=false:=(rfl)
@[simp] theorem AdT:keepR 140=false:=(rfl)
@[simp] theorem Ah8:GS 140=[0,1,2,4]:=(rfl)
@[simp] theorem AaL:bT 141=false:=(rfl)
@[simp] theorem AdS:keepR 141=false:=(rfl)
@[simp] theorem Ah7:GS 141=[0,1,4,5,9,18,21]:=(rfl)
@[simp] theorem AaK:bT 142=false:=(rfl)
@[simp] theorem AdR:keepR 142=false:=(rfl)
@[simp] theorem Ah6:GS 142=[0,1,4,5,9,35]:=(rfl)
@[simp] theorem AaJ:bT 143=false:=(rfl)
@[simp] theorem AdQ:keepR 143=false:=(rfl)
@[simp] theorem Ah5:GS 143=[0,2]:=(rfl)
@[simp] theorem AaI:bT 144=false:=(rfl)
@[simp] theorem AdP:keepR 144=false:=(rfl)
@[simp] theorem Ah4:GS 144=[0,2,6,7,11,27]:=(rfl)
@[simp] theorem AaH:bT 145=false:=(rfl)
@[simp] theorem AdO:keepR 145=false:=(rfl)
@[simp] theorem Ah3:GS 145=[0,1,4,5,6,10,11,15,25,46,59,64,66,82]:=(rfl)
@[simp] theorem AaG:bT 146=false:=(rfl)
@[simp] theorem AdN:keepR 146=false:=(rfl)
@[simp] theorem Ah2:GS 146=[0,2,3,4,5,7,10,13,15]:=(rfl)
@[simp] theorem AaF:bT 147=false:=(rfl)
@[simp] theorem AdM:keepR 147=false:=(rfl)
@[simp] theorem Ah1:GS 147=[0,1,2,6,7,8,13,14,21,22,26,27,35,46,47,48,59,65]:=(rfl)
@[simp] theorem AaE:bT 148=false:=(rfl)
@[simp] theorem AdL:keepR 148=false:=(rfl)
@[simp] theorem Ah0:GS 148=[0,1,4,5,6,22]:=(rfl)
@[simp] theorem AaD:bT 149=false:=(rfl)
@[simp] theorem AdK:keepR 149=false:=(rfl)
@[simp] theorem AgZ:GS 149=[0,1,2,3,4]:=(rfl)
@[simp] theorem AaC:bT 150=false:=(rfl)
@[simp] theorem AdJ:keepR 150=false:=(rfl)
@[simp] theorem AgY:GS 150=[0,1,2,3,4]:=(rfl)
@[simp] theorem AaB:bT 151=false:=(rfl)
@[simp] theorem AdI:keepR 151=false:=(rfl)
@[simp] theorem AgX:GS 151=[0,2,3,4,9,19,20,21]:=(rfl)
@[simp] theorem AaA:bT 152=false:=(rfl)
@[simp] theorem AdH:keepR 152=false:=(rfl)
@[simp] theorem AgW:GS 152=[0,1,2,3,5,6,7,8]:=(rfl)
@[simp] theorem Aa9:bT 153=false:=(rfl)
@[simp] theorem AdG:keepR 153=false:=(rfl)
@[simp] theorem AgV:GS 153=[0,1,3,4]:=(rfl)
@[simp] theorem Aa8:bT 154=true:=(rfl)
@[simp] theorem AdF:keepR 154=false:=(rfl)
@[simp] theorem AgU:GS 154=[0,1,3]:=(rfl)
@[simp] theorem Aa7:bT 155=true:=(rfl)
@[simp] theorem AdE:keepR 155=false:=(rfl)
@[simp] theorem AgT:GS 155=[0,1,2,4,7]:=(rfl)
@[simp] theorem Aa6:bT 156=false:=(rfl)
@[simp] theorem AdD:keepR 156=false:=(rfl)
@[simp] theorem AgS:GS 156=[0,2]:=(rfl)
@[simp] theorem Aa5:bT 157=false:=(rfl)
@[simp] theorem AdC:keepR 157=false:=(rfl)
@[simp] theorem AgR:GS 157=[0,1,2,3,6,7,8,10,14,18,19,20,26,27,28,29,38]:=(rfl)
@[simp] theorem Aa4:bT 158=false:=(rfl)
@[simp] theorem AdB:keepR 158=false:=(rfl)
@[simp] theorem AgQ:GS 158=[0,1,2,3,4,6,7,8,9,14,20,21,22,30,42]:=(rfl)
@[simp] theorem Aa3:bT 159=true:=(rfl)
@[simp] theorem AdA:keepR 159=false:=(rfl)
@[simp] theorem AgP:GS 159=[0,1,4,5,6,18]:=(rfl)
@[simp] theorem Aa2:bT 160=true:=(rfl)
@[simp] theorem Ad9:keepR 160=true:=(rfl)
@[simp] theorem AgO:GS 160=[0,1,4,5,10,11,17,24]:=(rfl)
@[simp] theorem Aa1:bT 161=true:=(rfl)
@[simp] theorem Ad8:keepR 161=false:=(rfl)
@[simp] theorem AgN:GS 161=[0,1,4,5,6,10,19]:=(rfl)
@[simp] theorem Aa0:bT 162=true:=(rfl)
@[simp] theorem Ad7:keepR 162=true:=(rfl)
@[simp] theorem AgM:GS 162=[0,1,4,5,6,10]:=(rfl)
@[simp] theorem AZZ:bT 163=false:=(rfl)
@[simp] theorem Ad6:keepR 163=false:=(rfl)
@[simp] theorem AgL:GS 163=[0,1,4,5,6,11,16]:=(rfl)
@[simp] theorem AZY:bT 164=false:=(rfl)
@[simp] theorem Ad5:keepR 164=false:=(rfl)
@[simp] theorem AgK:GS 164=[0,2,3]:=(rfl)
@[simp] theorem AZX:bT 165=false:=(rfl)
@[simp] theorem Ad4:keepR 165=false:=(rfl)
@[simp] theorem AgJ:GS 165=[0,1,2,3,6]:=(rfl)
@[simp] theorem AZW:bT 166=false:=(rfl)
@[simp] theorem Ad3:keepR 166=false:=(rfl)
@[simp] theorem AgI:GS 166=[0,1,2,4,15]:=(rfl)
@[simp] theorem AZV:bT 167=false:=(rfl)
@[simp] theorem Ad2:keepR 167=false:=(rfl)
@[simp] theorem AgH:GS 167=[0,1,2,3,4]:=(rfl)
@[simp] theorem AZU:bT 168=false:=(rfl)
@[simp] theorem Ad1:keepR 168=false:=(rfl)
@[simp] theorem AgG:GS 168=[0,1,2,3,6,7]:=(rfl)
@[simp] theorem AZT:bT 169=false:=(rfl)
@[simp] theorem Ad0:keepR 169=false:=(rfl)
@[simp] theorem AgF:GS 169=[0,1,2,3,6]:=(rfl)
@[simp] theorem AZS:bT 170=false:=(rfl)
@[simp] theorem AcZ:keepR 170=false:=(rfl)
@[simp] theorem AgE:GS 170=[0,1,4,5,6,11]:=(rfl)
@[simp] theorem AZR:bT 171=false:=(rfl)
@[simp] theorem AcY:keepR 171=false:=(rfl)
@[simp] theorem AgD:GS 171=[0,1,2,3,6,7,24,29,41,43,44,57]:=(rfl)
@[simp] theorem AZQ:bT 172=false:=(rfl)
@[simp] theorem AcX:keepR 172=false:=(rfl)
@[simp] theorem AgC:GS 172=[0,2,8]:=(rfl)
@[simp] theorem AZP:bT 173=false:=(rfl)
@[simp] theorem AcW:keepR 173=false:=(rfl)
@[simp] theorem AgB:GS 173=[0,1,4,5,6,35,53]:=(rfl)
@[simp] theorem AZO:bT 174=false:=(rfl)
@[simp] theorem AcV:keepR 174=false:=(rfl)
@[simp] theorem AgA:GS 174=[0,1,4,5,7,10,11,12,13,14,24]:=(rfl)
@[simp] theorem AZN:bT 175=false:=(rfl)
@[simp] theorem AcU:keepR 175=false:=(rfl)
@[simp] theorem Ag9:GS 175=[0,1,2,4]:=(rfl)
@[simp] theorem AZM:bT 176=false:=(rfl)
@[simp] theorem AcT:keepR 176=false:=(rfl)
@[simp] theorem Ag8:GS 176=[0,1,4,5,6,12,39,40,41]:=(rfl)
@[simp] theorem AZL:bT 177=true:=(rfl)
@[simp] theorem AcS:keepR 177=false:=(rfl)
@[simp] theorem Ag7:GS 177=[0,1,3,8]:=(rfl)
@[simp] theorem AZK:bT 178=false:=(rfl)
@[simp] theorem AcR:keepR 178=false:=(rfl)
@[simp] theorem Ag6:GS 178=[0,1,4,5,6,10,11,20,37,38,50,54,59]:=(rfl)
@[simp] theorem AZJ:bT 179=false:=(rfl)
@[simp] theorem AcQ:keepR 179=false:=(rfl)
@[simp] theorem Ag5:GS 179=[0,2,3,4,9,10,11]:=(rfl)
@[simp] theorem AZI:bT 180=false:=(rfl)
@[simp] theorem AcP:keepR 180=false:=(rfl)
@[simp] theorem Ag4:GS 180=[0,1,2,6,7,27,32,33,34,46]:=(rfl)
@[simp] theorem AZH:bT 181=true:=(rfl)
@[simp] theorem AcO:keepR 181=false:=(rfl)
@[simp] theorem Ag3:GS 181=[0,1,3,8]:=(rfl)
@[simp] theorem AZG:bT 182=true:=(rfl)
@[simp] theorem AcN:keepR 182=false:=(rfl)
@[simp] theorem Ag2:GS 182=[0,1,4,5,6,7,8,9,10,11,12,31,44,45,54,62,77,88,110,122,128,146,151,154]:=(rfl)
@[simp] theorem AZF:bT 183=true:=(rfl)
@[simp] theorem AcM:keepR 183=false:=(rfl)
@[simp] theorem Ag1:GS 183=[0,1,4]:=(rfl)
@[simp] theorem AZE:bT 184=true:=(rfl)
@[simp] theorem AcL:keepR 184=false:=(rfl)
@[simp] theorem Ag0:GS 184=[0,1,2,6,7,8,9,10,18,21,37]:=(rfl)
@[simp] theorem AZD:bT 185=true:=(rfl)
@[simp] theorem AcK:keepR 185=false:=(rfl)
@[simp] theorem AfZ:GS 185=[0,2,3,7,8,11]:=(rfl)
@[simp] theorem AZC:bT 186=false:=(rfl)
@[simp] theorem AcJ:keepR 186=false:=(rfl)
@[simp] theorem AfY:GS 186=[0,1,4,5,6,16,29]:=(rfl)
@[simp] theorem AZB:bT 187=true:=(rfl)
@[simp] theorem AcI:keepR 187=false:=(rfl)
@[simp] theorem AfX:GS 187=[0,2,5]:=(rfl)
@[simp] theorem AZA:bT 188=false:=(rfl)
@[simp] theorem AcH:keepR 188=true:=(rfl)
@[simp] theorem AfW:GS 188=[0,1,4,5,6,7,8,13,24]:=(rfl)
@[simp] theorem AZ9:bT 189=false:=(rfl)
@[simp] theorem AcG:keepR 189=false:=(rfl)
@[simp] theorem AfV:GS 189=[0,1,3,4,5,8,17]:=(rfl)
@[simp] theorem AZ8:bT 190=false:=(rfl)
@[simp] theorem AcF:keepR 190=false:=(rfl)
@[simp] theorem AfU:GS 190=[0,1,2,4,5,6,7,9,10,17,29,30,42,46,49,66,76,84,89]:=(rfl)
@[simp] theorem AZ7:bT 191=false:=(rfl)
@[simp] theorem AcE:keepR 191=false:=(rfl)
@[simp] theorem AfT:GS 191=[0,1,4,5,6,7,8,12,18,26]:=(rfl)
@[simp] theorem AZ6:bT 192=false:=(rfl)
@[simp] theorem AcD:keepR 192=false:=(rfl)
@[simp] theorem AfS:GS 192=[0,2,3,4,7,10]:=(rfl)
@[simp] theorem AZ5:bT 193=false:=(rfl)
@[simp] theorem AcC:keepR 193=false:=(rfl)
@[simp] theorem AfR:GS 193=[0,1,2]:=(rfl)
@[simp] theorem AZ4:bT 194=false:=(rfl)
@[simp] theorem AcB:keepR 194=false:=(rfl)
@[simp] theorem AfQ:GS 194=[0,1,2,3,6]:=(rfl)
@[simp] theorem AZ3:bT 195=false:=(rfl)
@[simp] theorem AcA:keepR 195=false:=(rfl)
@[simp] theorem AfP:GS 195=[0,1,2,6,7,8,28,62,90,95,96,97,109]:=(rfl)
@[simp] theorem AZ2:bT 196=false:=(rfl)
@[simp] theorem Ac9:keepR 196=false:=(rfl)
@[simp] theorem AfO:GS 196=[0,1,2,3,6]:=(rfl)
@[simp] theorem AZ1:bT 197=false:=(rfl)
@[simp] theorem Ac8:keepR 197=false:=(rfl)
@[simp] theorem AfN:GS 197=[0,1,2,6,7,9,11,17,19,20,21,22,26,27,28,29,46,54,66]:=(rfl)
@[simp] theorem AZ0:bT 198=true:=(rfl)
@[simp] theorem Ac7:keepR 198=false:=(rfl)
@[simp] theorem AfM:GS 198=[0,1,2,6,7,8,9,20,32,33,34,39,46,59,66]:=(rfl)
@[simp] theorem AYZ:bT 199=false:=(rfl)
@[simp] theorem Ac6:keepR 199=false:=(rfl)
@[simp] theorem AfL:GS 199=[0,1,2]:=(rfl)
@[simp] theorem AYY:bT 200=false:=(rfl)
@[simp] theorem Ac5:keepR 200=false:=(rfl)
@[simp] theorem AfK:GS 200=[0,1,2,3,4,5,9]:=(rfl)
@[simp] theorem AYX:bT 201=false:=(rfl)
@[simp] theorem Ac4:keepR 201=true:=(rfl)
@[simp] theorem AfJ:GS 201=[0,2]:=(rfl)
@[simp] theorem AYW:bT 202=false:=(rfl)
@[simp] theorem Ac3:keepR 202=false:=(rfl)
@[simp] theorem AfI:GS 202=[0,1,4,5,6,18,32]:=(rfl)
@[simp] theorem AYV:bT 203=false:=(rfl)
@[simp] theorem Ac2:keepR 203=false:=(rfl)
@[simp] theorem AfH:GS 203=[0,1,2,3,6]:=(rfl)
@[simp] theorem AYU:bT 204=false:=(rfl)
@[simp] theorem Ac1:keepR 204=false:=(rfl)
@[simp] theorem AfG:GS 204=[0,1,2,6,7,8,9,11,15,29]:=(rfl)
@[simp] theorem AYT:bT 205=false:=(rfl)
@[simp] theorem Ac0:keepR 205=false:=(rfl)
@[simp] theorem AfF:GS 205=[0,2,3,4,7,10]:=(rfl)
@[simp] theorem AYS:bT 206=false:=(rfl)
@[simp] theorem AbZ:keepR 206=false:=(rfl)
@[simp] theorem AfE:GS 206=[0,1,2,4]:=(rfl)
@[simp] theorem AYR:bT 207=false:=(rfl)
@[simp] theorem AbY:keepR 207=false:=(rfl)
@[simp] theorem AfD:GS 207=[0,2,3,5,9,10,11,12,19]:=(rfl)
@[simp] theorem AYQ:bT 208=false:=(rfl)
@[simp] theorem AbX:keepR 208=false:=(rfl)
@[simp] theorem AfC:GS 208=[0,1,2,4,5,6,7,16,25,33,34,42,50,58]:=(rfl)
@[simp] theorem AYP:bT 209=false:=(rfl)
@[simp] theorem AbW:keepR 209=false:=(rfl)
@[simp] theorem AfB:GS 209=[0,1,2,4,5,6,7,8,16,32,34,35,43,51,59]:=(rfl)
@[simp] theorem AYO:bT 210=false:=(rfl)
@[simp] theorem AbV:keepR 210=false:=(rfl)
@[simp] theorem AfA:GS 210=[0,2,3,4,7]:=(rfl)
@[simp] theorem AYN:bT 211=false:=(rfl)
@[simp] theorem AbU:keepR 211=false:=(rfl)
@[simp] theorem Af9:GS 211=[0,2]:=(rfl)
@[simp] theorem AYM:bT 212=false:=(rfl)
@[simp] theorem AbT:keepR 212=false:=(rfl)
@[simp] theorem Af8:GS 212=[0]:=(rfl)
@[simp] theorem AYL:bT 213=false:=(rfl)
@[simp] theorem AbS:keepR 213=false:=(rfl)
@[simp] theorem Af7:GS 213=[0,2,4]:=(rfl)
@[simp] theorem AYK:bT 214=false:=(rfl)
@[simp] theorem AbR:keepR 214=false:=(rfl)
@[simp] theorem Af6:GS 214=[0,2,3,7]:=(rfl)
@[simp] theorem AYJ:bT 215=false:=(rfl)
@[simp] theorem AbQ:keepR 215=false:=(rfl)
@[simp] theorem Af5:GS 215=[0,2,3]:=(rfl)
@[simp] theorem AYI:bT 216=false:=(rfl)
@[simp] theorem AbP:keepR 216=false:=(rfl)
@[simp] theorem Af4:GS 216=[0,2,4]:=(rfl)
@[simp] theorem AYH:bT 217=false:=(rfl)
@[simp] theorem AbO:keepR 217=false:=(rfl)
@[simp] theorem Af3:GS 217=[0,1,4,5,12]:=(rfl)
@[simp] theorem AYG:bT 218=false:=(rfl)
@[simp] theorem AbN:keepR 218=false:=(rfl)
@[simp] theorem Af2:GS 218=[0,2,4]:=(rfl)
@[simp] theorem AiB:JZ 113=true:=(rfl)
noncomputable def ANI:FuncId→Option (List AV→StL→Option (AV×StL))
 | 92=>some J6
 | 59=>some TS
 | _=>none
noncomputable def C0:Ctx:={ P:=Tryz.prog,G:=GS,ownArgs:=bT,keepRes:=keepR,eqT:=JZ,prim:=ANI }
@[simp] theorem dk3:bM Tryz.prog 3=some (.int .i64):=by kernel_rfl
@[simp] theorem sz3:iY Tryz.prog 3=some 1:=by kernel_rfl
@[simp] theorem by3:WV Tryz.prog 3=some 8:=by kernel_rfl
@[simp] theorem ze3:zeroOf Tryz.prog 3=some [(.int .i64 0)]:=by kernel_rfl
@[simp] theorem dk4:bM Tryz.prog 4=some .bool:=by kernel_rfl
@[simp] theorem sz4:iY Tryz.prog 4=some 1:=by kernel_rfl
@[simp] theorem dk5:bM Tryz.prog 5=some (.int .u8):=by kernel_rfl
@[simp] theorem sz5:iY Tryz.prog 5=some 1:=by kernel_rfl
@[simp] theorem sz6:iY Tryz.prog 6=some 1:=by kernel_rfl
@[simp] theorem AX2:iY Tryz.prog 10=some 1:=by kernel_rfl
@[simp] theorem AmL:bM Tryz.prog 23=some (.slice 3):=by kernel_rfl
@[simp] theorem AjC:iY Tryz.prog 23=some 1:=by kernel_rfl
@[simp] theorem AmQ:WV Tryz.prog 23=some 24:=by kernel_rfl
@[simp] theorem Aj3:zeroOf Tryz.prog 23=some [(.slice none 0 0)]:=by kernel_rfl
@[simp] theorem AmK:bM Tryz.prog 31=some (.slice 115):=by kernel_rfl
@[simp] theorem AjB:iY Tryz.prog 31=some 1:=by kernel_rfl
@[simp] theorem AmJ:bM Tryz.prog 32=some (.slice 34):=by kernel_rfl
@[simp] theorem AjA:iY Tryz.prog 32=some 1:=by kernel_rfl
@[simp] theorem AmI:bM Tryz.prog 34=some .strct:=by kernel_rfl
@[simp] theorem Aj9:iY Tryz.prog 34=some 5:=by kernel_rfl
@[simp] theorem AmP:WV Tryz.prog 34=some 88:=by kernel_rfl
@[simp] theorem Aj2:zeroOf Tryz.prog 34=some [(.int .i64 0),(.int .i64 0),(.slice none 0 0),(.slice none 0 0),(.slice none 0 0)]:=by kernel_rfl
@[simp] theorem AXL:eD Tryz.prog 34 0=some (3,0):=by kernel_rfl
@[simp] theorem AXK:eD Tryz.prog 34 1=some (3,1):=by kernel_rfl
@[simp] theorem AXJ:eD Tryz.prog 34 2=some (31,2):=by kernel_rfl
@[simp] theorem AXI:eD Tryz.prog 34 3=some (23,3):=by kernel_rfl
@[simp] theorem AXH:eD Tryz.prog 34 4=some (32,4):=by kernel_rfl
@[simp] theorem AmH:bM Tryz.prog 37=some (.slice 48):=by kernel_rfl
@[simp] theorem AmG:bM Tryz.prog 43=some (.slice 5):=by kernel_rfl
@[simp] theorem Aj8:iY Tryz.prog 43=some 1:=by kernel_rfl
@[simp] theorem AmF:bM Tryz.prog 44=some (.slice 53):=by kernel_rfl
@[simp] theorem Aj7:iY Tryz.prog 44=some 1:=by kernel_rfl
@[simp] theorem AmE:bM Tryz.prog 48=some .strct:=by kernel_rfl
@[simp] theorem Aj6:iY Tryz.prog 48=some 2:=by kernel_rfl
@[simp] theorem AmO:WV Tryz.prog 48=some 32:=by kernel_rfl
@[simp] theorem Aj1:zeroOf Tryz.prog 48=some [(.int .i64 0),(.slice none 0 0)]:=by kernel_rfl
@[simp] theorem AXG:eD Tryz.prog 48 0=some (3,0):=by kernel_rfl
@[simp] theorem AXF:eD Tryz.prog 48 1=some (23,1):=by kernel_rfl
@[simp] theorem AmD:bM Tryz.prog 53=some .strct:=by kernel_rfl
@[simp] theorem Aj5:iY Tryz.prog 53=some 3:=by kernel_rfl
@[simp] theorem AmN:WV Tryz.prog 53=some 56:=by kernel_rfl
@[simp] theorem Aj0:zeroOf Tryz.prog 53=some [(.int .i64 0),(.slice none 0 0),(.slice none 0 0)]:=by kernel_rfl
@[simp] theorem AXE:eD Tryz.prog 53 0=some (3,0):=by kernel_rfl
@[simp] theorem AXD:eD Tryz.prog 53 1=some (23,1):=by kernel_rfl
@[simp] theorem AXC:eD Tryz.prog 53 2=some (23,2):=by kernel_rfl
@[simp] theorem AmC:bM Tryz.prog 83=some .other:=by kernel_rfl
@[simp] theorem AlD:T9 Tryz.prog 83=true:=by kernel_rfl
@[simp] theorem Aj4:iY Tryz.prog 83=some 1:=by kernel_rfl
@[simp] theorem AmM:WV Tryz.prog 83=some 8:=by kernel_rfl
@[simp] theorem AiZ:zeroOf Tryz.prog 83=some [(.pointer none)]:=by kernel_rfl
@[simp] theorem AiR:bM Tryz.prog 113=some .strct:=by kernel_rfl
@[simp] theorem AYB:iY Tryz.prog 113=some 2:=by kernel_rfl
@[simp] theorem AiW:WV Tryz.prog 113=some 16:=by kernel_rfl
@[simp] theorem AY1:zeroOf Tryz.prog 113=some [(.bool false),(.int .i64 0)]:=by kernel_rfl
@[simp] theorem AWC:eD Tryz.prog 113 0=some (4,0):=by kernel_rfl
@[simp] theorem AWB:eD Tryz.prog 113 1=some (3,1):=by kernel_rfl
@[simp] theorem AiQ:bM Tryz.prog 115=some .strct:=by kernel_rfl
@[simp] theorem AYA:iY Tryz.prog 115=some 5:=by kernel_rfl
@[simp] theorem AiV:WV Tryz.prog 115=some 56:=by kernel_rfl
@[simp] theorem AY0:zeroOf Tryz.prog 115=some [(.int .i64 0),(.int .i64 0),(.bool false),(.int .i64 0),(.slice none 0 0)]:=by kernel_rfl
@[simp] theorem AWA:eD Tryz.prog 115 0=some (3,0):=by kernel_rfl
@[simp] theorem AW9:eD Tryz.prog 115 1=some (3,1):=by kernel_rfl
@[simp] theorem AW8:eD Tryz.prog 115 2=some (113,2):=by kernel_rfl
@[simp] theorem AW7:eD Tryz.prog 115 3=some (31,4):=by kernel_rfl
@[simp] theorem AiP:bM Tryz.prog 118=some .other:=by kernel_rfl
@[simp] theorem AY9:iY Tryz.prog 118=some 1:=by kernel_rfl
@[simp] theorem AiU:WV Tryz.prog 118=some 8:=by kernel_rfl
@[simp] theorem AXZ:zeroOf Tryz.prog 118=some [(.pointer none)]:=by kernel_rfl
@[simp] theorem AiO:bM Tryz.prog 119=some .other:=by kernel_rfl
@[simp] theorem AY8:iY Tryz.prog 119=some 1:=by kernel_rfl
@[simp] theorem AiN:bM Tryz.prog 124=some (.slice 83):=by kernel_rfl
@[simp] theorem AiM:bM Tryz.prog 132=some (.slice 23):=by kernel_rfl
@[simp] theorem AiL:bM Tryz.prog 141=some .other:=by kernel_rfl
@[simp] theorem AY7:iY Tryz.prog 141=some 1:=by kernel_rfl
@[simp] theorem AiK:bM Tryz.prog 142=some (.array 12 141):=by kernel_rfl
@[simp] theorem AY6:iY Tryz.prog 142=some 12:=by kernel_rfl
@[simp] theorem AXY:zeroOf Tryz.prog 142=some [(.nilFunc),(.nilFunc),(.nilFunc),(.nilFunc),(.nilFunc),(.nilFunc),(.nilFunc),(.nilFunc),(.nilFunc),(.nilFunc),(.nilFunc),(.nilFunc)]:=by kernel_rfl
@[simp] theorem AiJ:bM Tryz.prog 147=some .strct:=by kernel_rfl
@[simp] theorem AXX:zeroOf Tryz.prog 147=some [(.slice none 0 0),(.int .i64 0)]:=by kernel_rfl
@[simp] theorem AW6:eD Tryz.prog 147 0=some (43,0):=by kernel_rfl
@[simp] theorem AW5:eD Tryz.prog 147 1=some (3,1):=by kernel_rfl
@[simp] theorem AiI:bM Tryz.prog 150=some .other:=by kernel_rfl
@[simp] theorem AY5:iY Tryz.prog 150=some 1:=by kernel_rfl
@[simp] theorem AiH:bM Tryz.prog 153=some (.slice 184):=by kernel_rfl
@[simp] theorem AY4:iY Tryz.prog 153=some 1:=by kernel_rfl
@[simp] theorem AiG:bM Tryz.prog 155=some .strct:=by kernel_rfl
@[simp] theorem AY3:iY Tryz.prog 155=some 2:=by kernel_rfl
@[simp] theorem AXW:zeroOf Tryz.prog 155=some [(.int .i64 0),(.slice none 0 0)]:=by kernel_rfl
@[simp] theorem AW4:eD Tryz.prog 155 0=some (3,0):=by kernel_rfl
@[simp] theorem AVZ:eD Tryz.prog 155 1=some (153,1):=by kernel_rfl
@[simp] theorem AiF:bM Tryz.prog 158=some (.slice 118):=by kernel_rfl
@[simp] theorem AiE:bM Tryz.prog 167=some (.array 2 3):=by kernel_rfl
@[simp] theorem AXV:zeroOf Tryz.prog 167=some [(.int .i64 0),(.int .i64 0)]:=by kernel_rfl
@[simp] theorem AiD:bM Tryz.prog 184=some (.slice 113):=by kernel_rfl
@[simp] theorem AY2:iY Tryz.prog 184=some 1:=by kernel_rfl
@[simp] theorem AiT:WV Tryz.prog 184=some 24:=by kernel_rfl
@[simp] theorem AXU:zeroOf Tryz.prog 184=some [(.slice none 0 0)]:=by kernel_rfl
@[simp] theorem AiC:bM Tryz.prog 197=some .strct:=by kernel_rfl
@[simp] theorem AXT:zeroOf Tryz.prog 197=some [(.pointer none),(.slice none 0 0),(.int .i64 0),(.int .i64 0)]:=by kernel_rfl
@[simp] theorem AVY:eD Tryz.prog 197 0=some (119,0):=by kernel_rfl
@[simp] theorem AVX:eD Tryz.prog 197 1=some (23,1):=by kernel_rfl
@[simp] theorem AVW:eD Tryz.prog 197 2=some (3,2):=by kernel_rfl
@[simp] theorem AVV:eD Tryz.prog 197 3=some (3,3):=by kernel_rfl
end Go.Proofs.YtjdfjgmebalaaaaGreat
namespace Go.Av
def fnT (fn:Func):Bool:=(fn.name != "runtime.NumGoroutine") && match fn.body with
 | some c=>codeOk fn.ntmps c
 | none=>true
theorem AC9 {α:Type} {p:α→Bool} {l:List α} (c n:Nat) (hc:0<c) (hl:l.length≤c*n) (h:∀ i,i<n→((l.drop (c*i)).take c).all p=true):l.all p=true:=by
 rw[zS];intro x hx;obtain⟨j,hj,rfl⟩:=List.getElem_of_mem hx;have hd:c*(j / c)+j % c=j:=Nat.div_add_mod j c;have hm:j % c<c:=Nat.mod_lt _ hc
 have hi:j / c<n:=by
  rw[Nat.div_lt_iff_lt_mul hc,zC];omega
 refine zS.1 (h (j / c) hi) _ ?_;refine zV (i:=j % c) ?_;rw[zK,if_pos hm,yS,hd,zX hj]
theorem AFQ {P:Program} (h:P.funcs.toList.all fnT=true):YF P=true:=h
end Go.Av
namespace Go.Proofs.YtjdfjgmebalaaaaGreat
open Go Go.Av
set_option maxHeartbeats 2000000
theorem ft:IJ Tryz.prog=true:=by kernel_rfl
theorem nt0:((Tryz.prog.funcs.toList.drop (25*0)).take 25).all fnT=true:=by kernel_rfl
theorem nt1:((Tryz.prog.funcs.toList.drop (25*1)).take 25).all fnT=true:=by kernel_rfl
theorem nt2:((Tryz.prog.funcs.toList.drop (25*2)).take 25).all fnT=true:=by kernel_rfl
theorem nt3:((Tryz.prog.funcs.toList.drop (25*3)).take 25).all fnT=true:=by kernel_rfl
theorem nt4:((Tryz.prog.funcs.toList.drop (25*4)).take 25).all fnT=true:=by kernel_rfl
theorem nt5:((Tryz.prog.funcs.toList.drop (25*5)).take 25).all fnT=true:=by kernel_rfl
theorem nt6:((Tryz.prog.funcs.toList.drop (25*6)).take 25).all fnT=true:=by kernel_rfl
theorem nt7:((Tryz.prog.funcs.toList.drop (25*7)).take 25).all fnT=true:=by kernel_rfl
theorem nt8:((Tryz.prog.funcs.toList.drop (25*8)).take 25).all fnT=true:=by kernel_rfl
theorem nt9:((Tryz.prog.funcs.toList.drop (25*9)).take 25).all fnT=true:=by kernel_rfl
theorem ntl:Tryz.prog.funcs.toList.length≤25*10:=zR (by kernel_rfl)
theorem nt:YF Tryz.prog=true:=AFQ (AC9 25 10 (by decide) ntl fun i hi=>by
 have h:i=0∨i=1∨i=2∨i=3∨i=4∨i=5∨i=6∨i=7∨i=8∨i=9:=by omega
 rcases h with rfl|rfl|rfl|rfl|rfl|rfl|rfl|rfl|rfl|rfl
 ·exact nt0
 ·exact nt1
 ·exact nt2
 ·exact nt3
 ·exact nt4
 ·exact nt5
 ·exact nt6
 ·exact nt7
 ·exact nt8
 ·exact nt9)
theorem mo:Tryz.prog.follows .mixedOrders=true:=by kernel_rfl
theorem eqS:∀ t,JZ t=true→YL Tryz.prog t=true:=by
 intro t h;unfold JZ at h;split at h
 ·kernel_rfl
 ·kernel_rfl
 ·kernel_rfl
 ·cases h
@[simp] theorem C_P:C0.P=Tryz.prog:=(rfl)
@[simp] theorem C_G (f):C0.G f=GS f:=(rfl)
@[simp] theorem C_o (f):C0.ownArgs f=bT f:=(rfl)
@[simp] theorem C_k (f):C0.keepRes f=keepR f:=(rfl)
@[simp] theorem C_e (f):C0.eqT f=JZ f:=(rfl)
@[simp] theorem C_t:C0.tree=false:=(rfl)
theorem uJ:∀ {l:List UInt8} {j:Nat},j<l.length→∃ x:Nat,x<256∧gF (dY l) j=some [.lit (.int .u8 x)]
 | [],j,h=>by simp at h
 | b::l,0,_=>⟨b.toNat,b.toNat_lt,by simp[dY,gF]⟩
 | b::l,j+1,h=>by
  obtain⟨x,h1,h2⟩:=uJ (l:=l) (j:=j) (by simpa using h);exact⟨x,h1,by simpa [dY,gF]using h2⟩
theorem eQ:∀ (l:List UInt8),(dY l).length=l.length
 | []=>rfl
 | _::l=>by simp[dY,eQ l]
theorem wrap64 {x:Int} (h1:-9223372036854775808≤x) (h2:x<9223372036854775808):IntKind.i64.wrap x=x:=by
 unfold IntKind.wrap;simp[IntKind.signed,IntKind.bits];omega
theorem wrO {n:Int} (h1:-9223372036854775808≤n:=by omega) (h2:n<9223372036854775808:=by omega):IntKind.i64.wrap n=n:=wrap64 h1 h2
abbrev Rd (l:List UInt8) (p:Int):Option Blk:=some (.box [.i (.isl (dY l)), .int p])
set_option maxRecDepth 4000
noncomputable def C1:Ctx:={ P:=Tryz.prog,G:=GS,ownArgs:=bT,keepRes:=keepR,eqT:=JZ,prim:=fun _=>none }
@[simp] theorem Ao1:C1.P=Tryz.prog:=(rfl)
@[simp] theorem Ao2 (f):C1.G f=GS f:=(rfl)
@[simp] theorem AnY (f):C1.ownArgs f=bT f:=(rfl)
@[simp] theorem AnZ (f):C1.keepRes f=keepR f:=(rfl)
@[simp] theorem Ao0 (f):C1.eqT f=JZ f:=(rfl)
@[simp] theorem AnX:C1.tree=false:=(rfl)
theorem AOU:aH C1 91 [.i (.isl [])] []=some (.nils,[]):=by
 rw[aD rfl Tryz.func91 rfl rfl];simp
theorem AJN {ks:List Ex} (h:ks≠[]) (hl:ks.length<1000000000):aH C1 91 [.i (.isl (Ex.aB ks))] []=some (.osl 0 5 0 ks.length,[some (.arr 5 (Ex.aB ks))]):=by
 rw[aD rfl Tryz.func91 rfl rfl];have h1:56*(ks.length:Int)≤281474976710656:=by omega
 simp[h,h1];unfold over;simp
theorem rC:SoundOk C1:=nO (C:=C1) ft nt eqS mo (AED fun _=>rfl)
def ptr (p:Nat×Nat):IV:=.lit (.pointer (some ⟨p.1,p.2,none⟩))
def zc:List AV:=[.int 0, .int 0, .bool false, .int 0, .nils]
def APK (p:Nat×Nat):AS:={ env:=[(0, .i (ptr p))],st:=[] }
def AX1 (e:Ex) (p:Nat×Nat):AS:={ env:=[(0, .i (ptr p)),(2, .own 0 0),(3, .own 1 0),(4, .junk),(5, .junk),(6, .junk),(13, .junk),(37, .junk),(38, .junk),(39, .junk)],st:=[some (.box zc),some (.box (l5 e.cells))] }
def SL (b3:Nat) (todo X:KL):AS :=
 { env:=[(0, .junk),(2, .own 0 0),(3, .i (ptr (b3,0))),(4, .osl 1 1 0 todo.length),(5, .junk),(6, .junk),(13, .junk),(37, .junk),(38, .junk),(39, .junk)],st:=[some (.box zc),some (.arr 1 ((todo++X).map fun k=>[ptr k.1]))] }
theorem AEC:∀ (l:KL),∀ c∈(l.map fun k=>[ptr k.1]).flatten,∃ v,c=.lit v
 | [],c,h=>by simp at h
 | k::l,c,h=>by
  simp only[yE,z8,zT,zB6]at h
  rcases h with rfl|h
  ·exact⟨_,rfl⟩
  ·exact AEC l c h
def PP (b3:Nat) (b o n:Nat) (x:Ex) (ES:List (List IV)) (env:Nat→AV) (st:Store):Prop :=
 env 2=.own 0 0∧env 3=.i (ptr (b3,0))∧env 4=.osl 1 1 0 n∧env 5=.i (ptr (b,o))∧env 32=.i (ptr (b,o+4))∧st 0=some (.box zc)∧st 1=some (.arr 1 ES) ∧
  ((env 30=.nils∧x.kids=[])∨∃ id,env 30=.osl id 5 0 x.kids.length∧x.kids≠[]∧st id=some (.arr 5 (Ex.aB x.kids))∧2≤id)
theorem AM4:IntKind.i64.wrap 1=1:=wrO
def RW (init:KL) (b' i:Nat):List (List IV):=(init.map fun k=>[ptr k.1])++(List.range i).map fun j=>[ptr (b',j*5)]
theorem AM2 (init:KL) (b' i:Nat):(RW init b' i).length=init.length+i:=by simp[RW]
theorem AH1 (init:KL) (b' i:Nat):RW init b' i++[[ptr (b',i*5)]]=RW init b' (i+1):=by simp[RW,zB2]
theorem LJ (b:Nat):∀ (o:Nat) (l:List Ex),(jK b o l).map (fun k=>[ptr k.1])=(List.range l.length).map fun j=>[ptr (b,o+j*5)]
 | _,[]=>by simp[jK]
 | o,a::l=>by
  simp only[jK,yE,LJ b (o+5) l,zQ,List.range_succ_eq_map,List.map_map];simp only[List.cons.injEq,Nat.zero_mul,yJ,true_and];apply List.map_congr_left;intro j _;simp only[Function.comp,Nat.succ_eq_add_one];rw[show o+5+j*5=o+(j+1)*5 by omega]
theorem LK (b:Nat):∀ (o:Nat) (l:List Ex),(jK b o l).length=l.length
 | _,[]=>rfl
 | o,a::l=>by simp[jK,LK b (o+5) l]
theorem LH (b:Nat):∀ (o:Nat) (l:List Ex),((jK b o l).map fun k=>k.2.size).sum=Ex.bG l
 | _,[]=>rfl
 | o,a::l=>by simp[jK,Ex.bG,LH b (o+5) l]
def YS (b3 b' cap:Nat) (x:Ex) (init:KL) (ES:List (List IV)) (i:Nat):AS :=
 { env:=[(0, .junk),(2, .own 0 0),(3, .i (ptr (b3,0))),(4,if i=0 then .osl 1 1 0 init.length else .osl 2 1 0 (init.length+i)),(5, .i (.iref [.int x.kind, .int x.col, .bool x.val.null, .int x.val.n, .lit (.slice (some ⟨b',0,none⟩) x.kids.length cap)])),(6,jk i (.int (i-1))),(13, .junk),(37, .int x.kids.length),(38, .int i),(39,jk i (.bool true))],
   st:=some (.box zc)::if i=0 then [some (.arr 1 ES)]else [none,some (.arr 1 (RW init b' i))] }
set_option maxHeartbeats 1000000
theorem TV {e:Ex} (he:e.size<1000000000) {wi:World} {mi:Mem} {b o:Nat} (hi:Inv wi mi (fun _=>none) (bJ []))
 (hrun:∀ w',wi.heap.size≤w'.heap.size→(∀ f,f<wi.heap.size→w'.heap[f]?=wi.heap[f]?)→∃ y,(Instr.loadAt 115 (.pointer (some ⟨b,o,none⟩))).run C1.P w'=.ok y w'∧IRep mi (.agg e.cells) y) :
 Calls Tryz.prog 92 #[.pointer (some ⟨b,o,none⟩)] wi (cZ wi mi (fun _=>none) (.i (.agg e.cells)) []):=by
 refine calls_of_wp (fn:=Tryz.f92) Tryz.func92 rfl ?_
 have g0:GG wi mi 52 (fun id=>id<(APK (b,o)).st.length) [] (aX (APK (b,o)).env) (bJ (APK (b,o)).st) { tmps:=[Value.pointer (some ⟨b,o,none⟩)].toArray++Array.replicate (52-1) undef,defers:=[] } wi:=by
  refine⟨⟨mi,fun _=>none,hi,?_, .refl _ _ _,fun id h=>absurd rfl h,fun k hk=>by simp at hk⟩,by simp,rfl⟩;intro t;have:=nA (m:=mi) (φ:=fun _=>none) (52-1) (show RepL mi (fun _=>none) [.i (ptr (b,o))] [.pointer (some ⟨b,o,none⟩)]from .cons (.i (.lit _)) .nil) t
  cases t with
  | zero=>simpa [APK,aX,uO]using this
  | succ t=>simp only[APK,aX];simp;exact .junk _
 refine wp_seq (wp_mono (GG.gU rC (G:=GS 92) (S:=APK (b,o)) (e:=.normal) (S':={ env:=[(0, .i (ptr (b,o))),(2, .own 0 0),(3, .junk),(4, .junk),(5, .junk),(6, .junk),(13, .junk),(37, .junk),(38, .junk),(39, .junk)],st:=[some (.box zc)] }) (by kernel_rfl) (by simp[APK,zc,ptr]) g0) ?_);rintro _ a1 w1 ⟨rfl,g1⟩
 refine wp_seq (GG.ANC rC (os1:=[_,_]) (os2:=[_,_]) (G:=GS 92) (S:={ env:=[(0, .i (ptr (b,o))),(2, .own 0 0),(3, .junk),(4, .junk),(5, .junk),(6, .junk),(13, .junk),(37, .junk),(38, .junk),(39, .junk)],st:=[some (.box zc)] }) (S':=AX1 e (b,o)) rfl (by
  have h:∀ ops:Array Oper,ops.all (kY 52)=true→∀ o∈ops,kY 52 o=true:=fun ops h o ho=>y5.1 h o ho
  exact h _ (by kernel_rfl)) g1 (by decide) hrun ?_ ?_)
 ·rw[Ex.aA];simp[AX1,zc,ptr,Ex.aA]
 intro a2 w2 g2
 obtain⟨b3,g3⟩:=g2.pub (u:=3) (id:=1) (e:=e) (st':=bJ [some (.box zc)]) (ok':=fun id=>id<1) rfl rfl (by
  intro i blk h
  cases i with
  | zero=>simp[bJ]at h;subst h;exact⟨by omega,rfl,by simp[jP,zc]⟩
  | succ i=>simp[bJ]at h) (by
  intro i h
  cases i with
  | zero=>omega
  | succ i=>simp[bJ]at h)
 have g3:=g3 (aX [(2, .own 0 0),(3, .i (ptr (b3,0)))]) (by
  intro t;simp only[aX];by_cases h2:t=2
  ·subst h2;exact .inr (.inr ⟨rfl,by simp[AX1,aX,mE,bJ]⟩)
  ·by_cases h3:t=3
   ·subst h3;exact .inr (.inl ⟨rfl,rfl⟩)
   ·simp[h2,h3])
 refine wp_seq (wp_mono (GG.gU rC (G:=GS 92) (S:={ env:=[(2, .own 0 0),(3, .i (ptr (b3,0)))],st:=[some (.box zc)] }) (e:=.normal) (S':=SL b3 [((b3,0),e)] []) (by kernel_rfl) (by simp[SL,ptr,zc]) g3) ?_);rintro _ a3 w3 ⟨rfl,g4⟩;refine wp_seq (wp_block ?_);refine EW (fun n a w=>∃ todo X K:KL,(∀ k∈todo,k∈K)∧((b3,0),e)∈K∧(todo.map fun k=>k.2.size).sum=n∧n<1000000000∧GG wi mi 52 (fun id=>id<(SL b3 todo X).st.length) K (aX (SL b3 todo X).env) (bJ (SL b3 todo X).st) a w) ?_ (n:=e.size) ⟨[((b3,0),e)],[],[((b3,0),e)],fun k hk=>hk,by simp,by simp,he,g4⟩;rintro n a w ⟨todo,X,K,hsub,hb3,hsum,hn,g⟩
 rcases List.eq_nil_or_concat todo with rfl|⟨init,k,rfl⟩
 ·refine wp_mono (GG.gU rC (G:=GS 92) (S:=SL b3 [] X) (e:=.exit 0) (S':={ env:=[(0, .junk),(2, .own 0 0),(3, .i (ptr (b3,0))),(4, .osl 1 1 0 0),(5, .junk),(6, .junk),(13, .bool false),(37, .junk),(38, .junk),(39, .junk)],st:=[some (.box zc),some (.arr 1 (X.map fun k=>[ptr k.1]))] }) (by kernel_rfl) (by simp[SL,ptr,zc]) g) ?_;rintro _ a5 w5 ⟨rfl,g5⟩;simp only[mY,Exit.then,Exit.inBlock,if_true]
  have g6:=(g5.see (u:=3) (b:=b3) (o:=0) rfl hb3).envTo (env':=aX [(2, .own 0 0),(3, .i (.iref e.cells))]) (by
   intro t;simp only[aX,upd];by_cases h2:t=2
   ·subst h2;simp
   ·by_cases h3:t=3
    ·subst h3;simp
    ·simp[h2,h3])
  refine wp_mono (GG.gU rC (G:=GS 92) (S:={ env:=[(2, .own 0 0),(3, .i (.iref e.cells))],st:=[some (.box zc),some (.arr 1 (X.map fun k=>[ptr k.1]))] }) (e:=.ret) (S':={ env:=[(0, .junk),(2, .own 0 0),(3, .i (.iref e.cells)),(4, .junk),(5, .junk),(6, .junk),(13, .junk),(37, .junk),(38, .junk),(39, .junk)],st:=[some (.box (l5 e.cells)),some (.arr 1 (X.map fun k=>[ptr k.1]))] }) (by kernel_rfl) (by simp[zc]) g6) ?_;rintro _ a6 w6 ⟨rfl,g7⟩;obtain⟨⟨m,φ,q1,q2,q3,q4,q5⟩,q6,q7⟩:=g7
  obtain⟨v,k1,k2⟩:=gY (C:=C1) (fn:=Tryz.f92) (keep:=false) (na:=0) (S:={ env:=[(0, .junk),(2, .own 0 0),(3, .i (.iref e.cells)),(4, .junk),(5, .junk),(6, .junk),(13, .junk),(37, .junk),(38, .junk),(39, .junk)],st:=[some (.box (l5 e.cells)),some (.arr 1 (X.map fun k=>[ptr k.1]))] }) (r:=.i (.agg e.cells)) (stl':=[]) (fun id h=>absurd rfl h) ⟨⟨⟨m,φ,q1,q2,q3,q4, .nil _ _ _⟩,q6,q7⟩,zA4 _⟩ (by
   show finish C1 false [ResultVar.cell 2 115] 0 _=_
   simp)
  exact⟨q7,v,k1,k2⟩
 ·clear g0 g4 g3 g1 g2;obtain⟨⟨b,o⟩,x⟩:=k
  have hlen:∀ l:KL,l.length≤(l.map fun k=>k.2.size).sum:=by
   intro l
   induction l with
   | nil=>simp
   | cons a l ih=>have:=Ex.wT a.2;simp;omega
  have hil:=hlen init;simp at hsum;have hxk:((b,o),x)∈K:=hsub _ (by simp);have hxs:=Ex.size_eq x;have hkl:=Ex.dC x.kids;have hne:¬ ((init.length:Int)+1≤0):=by omega
  have hpos:(0:Int)<(init.length:Int)+1:=by omega
  have w1:IntKind.i64.wrap (init.length:Int)=init.length:=wrO;generalize hES:((init++[((b,o),x)]++X).map fun k=>[ptr k.1])=ES
  have hnth:gF ES init.length=some [ptr (b,o)]:=by
   rw[iU,← hES];simp
  have hlit:∀ c∈ES.flatten,∃ v,c=.lit v:=by rw[← hES];exact AEC _
  have hlt:(init.length:Int)<(init.length:Int)+1:=by omega
  have hlt2:(init.length:Int)≤(init.length:Int)+1:=by omega
  refine wp_seq (wp_mono (GG.gU rC (G:=GS 92) (S:=SL b3 (init++[((b,o),x)]) X) (e:=.normal) (S':={ env:=[(0, .junk),(2, .own 0 0),(3, .i (ptr (b3,0))),(4, .osl 1 1 0 (init.length+1)),(5, .junk),(6, .junk),(13, .bool true),(37, .junk),(38, .junk),(39, .junk)],st:=[some (.box zc),some (.arr 1 ES)] }) (by kernel_rfl) (by simp only[SL,hES];simp[ptr,zc,hpos]) (by simpa using g)) ?_);rintro _ a5 w5 ⟨rfl,g5⟩;clear g;refine wp_block ?_;refine wp_seq (wp_mono (GG.gU rC (G:=GS 92) (S:={ env:=[(0, .junk),(2, .own 0 0),(3, .i (ptr (b3,0))),(4, .osl 1 1 0 (init.length+1)),(5, .junk),(6, .junk),(13, .bool true),(37, .junk),(38, .junk),(39, .junk)],st:=[some (.box zc),some (.arr 1 ES)] }) (e:=.normal) (S':={ env:=[(0, .junk),(2, .own 0 0),(3, .i (ptr (b3,0))),(4, .osl 1 1 0 (init.length+1)),(5,(.i (ptr (b,o)))),(6, .junk),(13, .bool true),(37, .junk),(38, .junk),(39, .junk)],st:=[some (.box zc),some (.arr 1 ES)] }) (by kernel_rfl) (by simp only[ptr]at hnth;simp[ptr,zc,hnth,w1,hlt]) g5) ?_);rintro _ a6 w6 ⟨rfl,g6⟩;clear g5;refine wp_seq (wp_mono (GG.gU rC (G:=GS 92) (S:={ env:=[(0, .junk),(2, .own 0 0),(3, .i (ptr (b3,0))),(4, .osl 1 1 0 (init.length+1)),(5,(.i (ptr (b,o)))),(6, .junk),(13, .bool true),(37, .junk),(38, .junk),(39, .junk)],st:=[some (.box zc),some (.arr 1 ES)] }) (e:=.normal) (S':={ env:=[(0, .junk),(2, .own 0 0),(3, .i (ptr (b3,0))),(4, .osl 1 1 0 init.length),(5,(.i (ptr (b,o)))),(6, .junk),(13, .bool true),(37, .junk),(38, .junk),(39, .junk)],st:=[some (.box zc),some (.arr 1 ES)] }) (by kernel_rfl) (by simp[ptr,zc,w1,hlt2]) g6) ?_);rintro _ a7 w7 ⟨rfl,g7⟩;clear g6
  refine wp_seq (GG.region rC (os1:=[_,_]) (os2:=[_,_,_,_,_,_]) (u:=26) (PP:=PP b3 b o init.length x ES) rfl (by
   have h:∀ ops:Array Oper,ops.all (kY 52)=true→∀ o∈ops,kY 52 o=true:=fun ops h o ho=>y5.1 h o ho
   exact h _ (by kernel_rfl)) g7 hxk ?_ ?_)
  ·rw[Ex.aA];by_cases hx:x.kids=[]
   ·simp[ptr,zc,hx,PP,Ex.aB,AOU]
   ·simp[ptr,zc,PP,AJN hx (by omega),hx]
  ·rintro env st a8 w8 ⟨p2,p3,p4,p5,p32,q0,q1,p30⟩ g8;clear g7
   obtain⟨w9,b',ao,cap,e1,e2,hrun,hG⟩:=GG.turn (C:=C1) (ok':=fun id=>id<2) (st':=bJ [some (.box zc),some (.arr 1 ES)]) (u:=30) (t:=31) g8 (by simp) hi.mem hxk rfl (by
    rcases p30 with ⟨h1,h2⟩|⟨id,h1,h2,h3,h4⟩
    ·refine .inl ⟨h1,h2,?_⟩;intro i blk h
     rcases i with _|_|i
     ·simp[bJ]at h;subst h;exact q0
     ·simp[bJ]at h;subst h;exact q1
     ·simp[bJ]at h
    ·refine .inr ⟨id,h1,h2,h3,?_⟩;intro i blk h
     rcases i with _|_|i
     ·simp[bJ]at h;subst h;exact⟨by omega,q0⟩
     ·simp[bJ]at h;subst h;exact⟨by omega,q1⟩
     ·simp[bJ]at h) (by
    intro i blk h
    rcases i with _|_|i
    ·simp[bJ]at h;subst h;simp[jP,zc]
    ·simp[bJ]at h;subst h;exact hlit
    ·simp[bJ]at h) (by
    intro i h
    rcases i with _|_|i
    ·omega
    ·omega
    ·simp[bJ]at h)
   have ev5:=g8.ANT (t:=5) p5;have ev32:=g8.ANT (t:=32) p32
   refine ZI (C:=C1) (w':=w9) rfl (by
    show(Instr.storeAt 31 (a8.tmps.getD 32 undef) (a8.tmps.getD 30 undef)).run C1.P w8=_
    rw[ev32];exact hrun) ?_
   have g9:=hG (aX [(2, .own 0 0),(3, .i (ptr (b3,0))),(4, .osl 1 1 0 init.length),(5,(.i (.iref [.int x.kind, .int x.col, .bool x.val.null, .int x.val.n, .lit (.slice ao x.kids.length cap)])))]) (by
    intro t;simp only[aX];by_cases h2:t=2
    ·subst h2;exact .inr (.inr ⟨by simp[p2],by rw[p2];simp[mE,bJ]⟩)
    by_cases h3:t=3
    ·subst h3;exact .inr (.inr ⟨by simp[p3],by rw[p3];simp[mE,ptr]⟩)
    by_cases h4:t=4
    ·subst h4;exact .inr (.inr ⟨by simp[p4],by rw[p4];simp[mE,bJ]⟩)
    by_cases h5:t=5
    ·subst h5;exact .inr (.inl ⟨ev5,by simp⟩)
    ·simp[h2,h3,h4,h5])
   clear hG g8;show Code.wp _ _ _ _ _;refine wp_seq (wp_mono (GG.gU rC (G:=GS 92) (S:={ env:=[(2, .own 0 0),(3, .i (ptr (b3,0))),(4, .osl 1 1 0 init.length),(5,(.i (.iref [.int x.kind, .int x.col, .bool x.val.null, .int x.val.n, .lit (.slice ao x.kids.length cap)])))],st:=[some (.box zc),some (.arr 1 ES)] }) (e:=.normal) (S':={ env:=[(0, .junk),(2, .own 0 0),(3, .i (ptr (b3,0))),(4, .osl 1 1 0 init.length),(5,(.i (.iref [.int x.kind, .int x.col, .bool x.val.null, .int x.val.n, .lit (.slice ao x.kids.length cap)]))),(6, .junk),(13, .junk),(37, .int x.kids.length),(38, .int 0),(39, .junk)],st:=[some (.box zc),some (.arr 1 ES)] }) (by kernel_rfl) (by simp[ptr,zc]) g9) ?_);rintro _ a10 w10 ⟨rfl,g10⟩;clear g9;by_cases hx:x.kids=[]
   ·refine wp_mono (GG.gU rC (G:=GS 92) (S:={ env:=[(0, .junk),(2, .own 0 0),(3, .i (ptr (b3,0))),(4, .osl 1 1 0 init.length),(5,(.i (.iref [.int x.kind, .int x.col, .bool x.val.null, .int x.val.n, .lit (.slice ao x.kids.length cap)]))),(6, .junk),(13, .junk),(37, .int x.kids.length),(38, .int 0),(39, .junk)],st:=[some (.box zc),some (.arr 1 ES)] }) (e:=.normal) (S':={ env:=[(0, .junk),(2, .own 0 0),(3, .i (ptr (b3,0))),(4, .osl 1 1 0 init.length),(5,(.i (.iref [.int x.kind, .int x.col, .bool x.val.null, .int x.val.n, .lit (.slice ao x.kids.length cap)]))),(6, .junk),(13, .junk),(37, .int x.kids.length),(38, .int 0),(39, .bool false)],st:=[some (.box zc),some (.arr 1 ES)] }) (by kernel_rfl) (by
     simp only[hx,yQ];simp;rw[aF]
     simp[ptr,zc]) g10) ?_
    rintro _ a11 w11 ⟨rfl,g11⟩;simp only[mY,Exit.then,Exit.inBlock];refine⟨n-1,by omega,init,((b,o),x)::X,K++jK b' 0 x.kids,fun k hk=>yD _ (hsub k (by simp[hk])),yD _ hb3,?_,by omega,?_⟩
    ·rw[hx]at hxs;simp[Ex.bG]at hxs;omega
    ·have hES2:((init++((b,o),x)::X).map fun k=>[ptr k.1])=ES:=by rw[← hES];simp
     simp only[SL,hES2]
     exact g11.envTo (by
      intro t;simp only[aX];by_cases h2:t=2
      ·subst h2;simp
      by_cases h3:t=3
      ·subst h3;simp
      by_cases h4:t=4
      ·subst h4;simp
      ·simp[h2,h3,h4])
   ·obtain rfl:=e2 hx;have hET:ES.take init.length=RW init b' 0:=by rw[← hES];simp[RW]
    have hEL:init.length≤ES.length:=by rw[← hES];simp
    have hlim:∀ i,i≤x.kids.length→(init.length+i+1)*8≤140737488355328:=fun i hi=>by omega
    have hk0:x.kids.length≠0:=fun h=>hx (zW.1 h)
    refine wp_mono (GG.gU rC (G:=GS 92) (S:={ env:=[(0, .junk),(2, .own 0 0),(3, .i (ptr (b3,0))),(4, .osl 1 1 0 init.length),(5,(.i (.iref [.int x.kind, .int x.col, .bool x.val.null, .int x.val.n, .lit (.slice (some ⟨b',0,none⟩) x.kids.length cap)]))),(6, .junk),(13, .junk),(37, .int x.kids.length),(38, .int 0),(39, .junk)],st:=[some (.box zc),some (.arr 1 ES)] }) (e:=.normal) (S':={ env:=[(0, .junk),(2, .own 0 0),(3, .i (ptr (b3,0))),(4, .osl 2 1 0 (init.length+x.kids.length)),(5,(.i (.iref [.int x.kind, .int x.col, .bool x.val.null, .int x.val.n, .lit (.slice (some ⟨b',0,none⟩) x.kids.length cap)]))),(6, .int (x.kids.length-1)),(13, .junk),(37, .int x.kids.length),(38, .int x.kids.length),(39, .bool false)],st:=[some (.box zc),none,some (.arr 1 (RW init b' x.kids.length))] }) (by kernel_rfl) (by
     simp;rw[aQ (YS b3 b' cap x init ES) x.kids.length (by simp[YS])]
     ·rw[aF];simp[YS,hk0,bH hk0,zc,ptr]
     ·intro i hi;have w2:IntKind.i64.wrap ((i:Int)+1)=i+1:=wrO;have hi0:(i:Int)<x.kids.length:=by omega
      by_cases h0:i=0
      ·subst h0;have hl:(init.length+1)*8≤140737488355328:=by omega
       have hR:RW init b' 0++[[.lit (.pointer (some ⟨b',0,none⟩))]]=RW init b' 1:=by simpa [ptr]using AH1 init b' 0
       simp[YS,zc,ptr,AM4,hi,hET,hEL,hl,hR]
      ·have hl:=hlim i (by omega);have hT:(RW init b' i).take (init.length+i)=RW init b' i:=zY (by rw[AM2];omega);have hR:RW init b' i++[[.lit (.pointer (some ⟨b',i*5,none⟩))]]=RW init b' (i+1):=by simpa [ptr]using AH1 init b' i
       simp[YS,h0,bH h0,zc,ptr,w2,hi,hT,AM2,hl,hR,← Nat.add_assoc]) g10) ?_
    rintro _ a11 w11 ⟨rfl,g11⟩;simp only[mY,Exit.then,Exit.inBlock];refine⟨n-1,by omega,init++jK b' 0 x.kids,[],K++jK b' 0 x.kids,?_,yD _ hb3,?_,by omega,?_⟩
    ·intro k hk
     rcases zT.1 hk with h|h
     ·exact yD _ (hsub k (by simp[h]))
     ·exact List.mem_append_right _ h
    ·rw[zA3,List.sum_append,LH];omega
    ·have g12:=g11.settle [2,3,4]
     have hR:List.map (fun k:(Nat×Nat)×Ex=>[ptr k.1]) (init++jK b' 0 x.kids++[])=RW init b' x.kids.length:=by
      rw[zA2,zA3,LJ];simp[RW]
     have hl:(init++jK b' 0 x.kids).length=init.length+x.kids.length:=by rw[zJ,LK]
     simp only[SL,hR,hl]
     have hs:Av.settle [2,3,4] 0 (aX [(0, .junk),(2, .own 0 0),(3, .i (ptr (b3,0))),(4, .osl 2 1 0 (init.length+x.kids.length)),(5, .i (.iref [.int x.kind, .int x.col, .bool x.val.null, .int x.val.n, .lit (.slice (some ⟨b',0,none⟩) x.kids.length cap)])),(6, .int (x.kids.length-1)),(13, .junk),(37, .int x.kids.length),(38, .int x.kids.length),(39, .bool false)]) (bJ [some (.box zc),none,some (.arr 1 (RW init b' x.kids.length))])={ env:=[(2, .own 0 0),(3, .i (ptr (b3,0))),(4, .osl 1 1 0 (init.length+x.kids.length))],st:=[some (.box zc),some (.arr 1 (RW init b' x.kids.length))] }:=by
      simp[zc,ptr]
     rw[hs]at g12
     exact g12.envTo (by
      intro t;simp only[aX];by_cases h2:t=2
      ·subst h2;simp
      by_cases h3:t=3
      ·subst h3;simp
      by_cases h4:t=4
      ·subst h4;simp
      ·simp[h2,h3,h4])
theorem Y3 {w:World} {m:Mem} {φ:Pl} {st:Store} {t:TypeId} {a v:AV} {x:Value} (hi:Inv w m φ st) (hr:Rep m φ a x) (h:GZ C1 t a st=some v):∃ y,(Instr.loadAt t x).run C1.P w=.ok y w∧Rep m φ v y:=by
 obtain⟨ad,y,k1,k2,k3⟩:=vO hi hr h;exact⟨y,by subst k1;simpa [Instr.loadAt,Instr.sureAddr]using k2,k3⟩
theorem AJ6 {w:World} {m:Mem} (h:nI w m):Inv w m (fun _=>none) (bJ []):=⟨h,fun id blk e=>(by simp[bJ]at e),fun i j b b' n n' b1 b2 f e=>(by simp[bJ]at e),fun _ _ _ _ e=>(by cases e)⟩
theorem DT {e:Ex} (he:e.size<1000000000) {wi:World} {mi:Mem} {φ:Pl} {vs:List Value} (hi:Inv wi mi φ (bJ [])) (hr:RepL mi φ [.i (.iref e.cells)] vs) (h0:∀ id,φ id≠none→id<0) :
 Calls Tryz.prog 92 vs.toArray wi (cZ wi mi φ (.i (.agg e.cells)) []):=by
 obtain rfl:φ=fun _=>none:=by
  funext id
  cases h:φ id with
  | none=>rfl
  | some p=>exact absurd (h0 id (by rw[h];simp)) (xK _)
 cases hr with
 | cons h1 h2 =>
  cases h2
  have hp:=h1
  cases h1 with
  | i h1=>cases h1 with
   | iref ha =>
    refine TV he hi fun w' hs hw=>?_
    obtain⟨y,k1,k2⟩:=Y3 (t:=115) (v:=.i (.agg e.cells)) (hi.later hs hw) hp (by rw[Ex.aA];simp)
    cases k2 with
    | i k2=>exact⟨y,k1,k2⟩
theorem MF {e:Ex} (he:e.size<1000000000) {w:World} {m:Mem} {φ:Pl} {vs:List Value} {es:List (List IV)} {j:Nat} (hes:es[j]?=some e.cells) (hi:Inv w m φ (bJ [some (.arr 5 es)])) (hr:RepL m φ [.ownE 0 5 j 0] vs) (h0:∀ id,φ id≠none→id<1) :
 Calls Tryz.prog 92 vs.toArray w (cZ w m φ (.i (.agg e.cells)) [some (.arr 5 es)]):=by
 cases hr with
 | cons h1 h2 =>
  cases h2
  have hp:=h1
  cases h1 with
  | ownE hφ =>
   refine(TV he (AJ6 hi.mem) fun w' hs hw=>?_).mono ?_
   ·obtain⟨y,k1,k2⟩:=Y3 (t:=115) (v:=.i (.agg e.cells)) (hi.later hs hw) hp (by
     have h5:=hes;rw[← iU]at h5
     rw[Ex.aA]at h5 ⊢;simp[h5])
    cases k2 with
    | i k2=>exact⟨y,k1,k2⟩
   ·rintro en w' ⟨v,m',φ',rfl,j1,j2,j3,j4⟩;have free0:∀ b,l9 (fun _=>none) b:=fun b id r n e=>by cases e
    have hsame:∀ f,f<w.heap.size→w'.heap[f]?=w.heap[f]?:=fun f hf=>j3.block f hf (free0 f)
    refine⟨v,m',φ,rfl,?_,⟨j2.mem,fun id blk hb=>?_,hi.inj,fun id b n f e ho=>zD (hi.low id b n f e ho) j3.size⟩,⟨j3.size,j3.os,j3.tape,j3.output,fun b hb' _=>hsame b hb',j3.mle,fun b hb' _ o=>j3.mnew b hb' (free0 b) o, .refl _,fun _ _ _ _ e ho=>.inr (l9.not e ho)⟩,h0⟩
    ·cases j1 with
     | i j1=>exact .i j1
    ·obtain⟨b,n,k1,k2,k3⟩:=hi.live id blk hb;exact⟨b,n,k1,⟨k2.1,fun f hf=>zD (k2.2 f hf) j3.size⟩,k3.mono k2.1 (fun f hf=>hsame f (k2.2 f hf)) j3.mle (.refl _) fun f hf o=>j3.mnew f (k2.2 f hf) (free0 f) o⟩
end Go.Proofs.YtjdfjgmebalaaaaGreat
namespace Go.Proofs.YtjdfjgmebalaaaaGreat.G
open Go Go.Av
set_option maxRecDepth 4000
set_option maxHeartbeats 4000000
noncomputable def ANJ:FuncId→Option (List AV→StL→Option (AV×StL))
 | 92=>some J6
 | _=>none
noncomputable def C2:Ctx:={ P:=Tryz.prog,G:=GS,ownArgs:=bT,keepRes:=keepR,eqT:=JZ,prim:=ANJ }
@[simp] theorem AnV:C2.P=Tryz.prog:=(rfl)
@[simp] theorem AnW (f):C2.G f=GS f:=(rfl)
@[simp] theorem AnS (f):C2.ownArgs f=bT f:=(rfl)
@[simp] theorem AnT (f):C2.keepRes f=keepR f:=(rfl)
@[simp] theorem AnU (f):C2.eqT f=JZ f:=(rfl)
@[simp] theorem AnR:C2.tree=false:=(rfl)
theorem AIQ:PrimOk C2:=by
 have key:∀ g q,C2.prim g=some q→g=92∧q=J6:=by
  intro g q h;have h:ANJ g=some q:=h;unfold ANJ at h;split at h
  ·injection h with h;exact⟨rfl,h.symm⟩
  ·cases h
 constructor
 ·intro g args st p h;unfold bX at h
  cases hq:C2.prim g with
  | none=>rw[hq]at h;cases h
  | some q =>
   obtain⟨rfl,rfl⟩:=key g q hq;exact⟨Tryz.f92,Tryz.func92,by decide,rfl⟩
 ·intro g args stl r stl' h w m φ vs hi hr h0;unfold bX at h
  cases hq:C2.prim g with
  | none=>rw[hq]at h;cases h
  | some q =>
   obtain⟨rfl,rfl⟩:=key g q hq;rw[hq]at h;obtain⟨e,he,hres,hor⟩:=MC h;injection hres with h1 h2;subst h1;subst h2
   rcases hor with ⟨rfl,rfl⟩|⟨j,es,rfl,rfl,hes⟩
   ·exact DT he hi hr h0
   ·exact MF he hes hi hr h0
theorem jT:SoundOk C2:=nO (C:=C2) ft nt eqS mo AIQ
theorem AT6:aH C2 91 [.i (.isl [])] []=some (.nils,[]):=by
 rw[aD rfl Tryz.func91 rfl rfl];simp
theorem AP7 {ks:List Ex} (h:ks≠[]) (hl:ks.length<1000000000):aH C2 91 [.i (.isl (Ex.aB ks))] []=some (.osl 0 5 0 ks.length,[some (.arr 5 (Ex.aB ks))]):=by
 rw[aD rfl Tryz.func91 rfl rfl];have h1:56*(ks.length:Int)≤281474976710656:=by omega
 simp[h,h1];unfold over;simp
theorem ALY:aH C2 93 [.i (.isl [])] []=some (.nils,[]):=by
 rw[aD rfl Tryz.func93 rfl rfl];simp
theorem AGA {l:List Int} (h:l≠[]) (hl:l.length<1000000000):aH C2 93 [.i (.isl (aG l))] []=some (.osl 0 1 0 l.length,[some (.arr 1 (aG l))]):=by
 rw[aD rfl Tryz.func93 rfl rfl];have h1:8*(l.length:Int)≤281474976710656:=by omega
 simp[h,h1];unfold over;simp
theorem Z4:aH C2 94 [.i (.isl [])] []=some (.nils,[]):=by
 rw[aD rfl Tryz.func94 rfl rfl];simp
theorem OV {ks:List Pn} (h:ks≠[]) (hl:ks.length<1000000000):aH C2 94 [.i (.isl (Pn.aB ks))] []=some (.osl 0 5 0 ks.length,[some (.arr 5 (Pn.aB ks))]):=by
 rw[aD rfl Tryz.func94 rfl rfl];have h1:88*(ks.length:Int)≤281474976710656:=by omega
 simp[h,h1];unfold over;simp
theorem AT5 {e:Ex} {es:List (List IV)} {j:Nat} (h:e.size<1000000000) (he:gF es j=some e.cells):aH C2 92 [.ownE 0 5 j 0] [some (.arr 5 es)]=some (.i (.agg e.cells),[some (.arr 5 es)]):=by
 rw[aP (p:=J6) rfl];exact AG0 h (by rw[← iU];exact he)
def zp:List AV:=[.int 0, .int 0, .nils, .nils, .nils]
def EV (b3:Nat) (v4 v5 v6 v7 v14 v38 v39 v40 v76 v77 v78:AV):List (Nat×AV):=[(0, .junk),(2, .own 0 0),(3, .i (ptr (b3,0))),(4,v4),(5,v5),(6,v6),(7,v7),(14,v14),(38,v38),(39,v39),(40,v40),(76,v76),(77,v77),(78,v78)]
def lD (l:PL):List (List IV):=l.map fun k=>[ptr k.1]
def SLp (b3:Nat) (todo X:PL):AS:={ env:=EV b3 (.osl 1 1 0 todo.length) .junk .junk .junk .junk .junk .junk .junk .junk .junk .junk,st:=[some (.box zp),some (.arr 1 (lD (todo++X)))] }
def SRp (b3 n o:Nat) (ES:List (List IV)) (v6 v7 v14 v38 v39 v40 v76 v77 v78:AV) (cells:List AV) (L:StL):AS:={ env:=EV b3 (.osl 1 1 0 n) (.own 2 o) v6 v7 v14 v38 v39 v40 v76 v77 v78,st:=some (.box zp)::some (.arr 1 ES)::some (.box cells)::L }
theorem NJ:∀ (l:PL),∀ c∈(lD l).flatten,∃ v,c=.lit v
 | [],c,h=>by simp[lD]at h
 | k::l,c,h=>by
  simp only[lD,yE,z8,zT,zB6]at h
  rcases h with rfl|h
  ·exact⟨_,rfl⟩
  ·exact NJ l c h
theorem FI (a b x:Option Blk):upd (bJ [a,b]) 2 x=bJ [a,b,x]:=by
 funext i;rcases i with _|_|_|i<;>simp[bJ,upd]
theorem AWG (b3:Nat) (v4 v5 v5' v6 v7 v14 v38 v39 v40 v76 v77 v78:AV):upd (aX (EV b3 v4 v5 v6 v7 v14 v38 v39 v40 v76 v77 v78)) 5 v5'=aX (EV b3 v4 v5' v6 v7 v14 v38 v39 v40 v76 v77 v78):=by
 funext t;simp only[upd,EV,aX];by_cases h5:t=5
 ·subst h5;simp
 ·simp only[h5,if_false]
def XS (b3 n:Nat) (ES:List (List IV)) (pre post:List Value) (k t:Int) (es:List Ex) (aC aK:AV) (v14:AV) (i:Nat):AS :=
 SRp b3 n pre.length ES (jk i (.int (i-1))) .junk v14 (.int es.length) (.int i) (jk i (.bool true)) .junk .junk .junk (kU pre [.int k, .int t, .osl 3 5 0 es.length,aC,aK] post) [some (.arr 5 (Ex.aB es))]
set_option maxHeartbeats 8000000
def jj:List (Nat×AV):=[(4, .junk),(5, .junk),(6, .junk),(7, .junk),(14, .junk),(38, .junk),(39, .junk),(40, .junk),(76, .junk),(77, .junk),(78, .junk)]
theorem mM:AHK (fun _ _ _=>True):=fun _ _ _ _ _ _ _ _=>trivial
theorem AM3:IntKind.i64.wrap 1=1:=wrO
def RWp (init:PL) (b' i:Nat):List (List IV):=lD init++(List.range i).map fun j=>[ptr (b',j*5)]
theorem AH0 (init:PL) (b' i:Nat):(RWp init b' i).length=init.length+i:=by simp[RWp,lD]
theorem AKF (init:PL) (b' i:Nat):RWp init b' i++[[ptr (b',i*5)]]=RWp init b' (i+1):=by simp[RWp,zB2]
theorem LG (b:Nat):∀ (o:Nat) (l:List Pn),lD (lW b o l)=(List.range l.length).map fun j=>[ptr (b,o+j*5)]
 | _,[]=>by simp[lW,lD]
 | o,a::l=>by
  have ih:=LG b (o+5) l;simp only[lD]at ih ⊢;simp only[lW,yE,ih,zQ,List.range_succ_eq_map,List.map_map];simp only[List.cons.injEq,Nat.zero_mul,yJ,true_and];apply List.map_congr_left;intro j _;simp only[Function.comp,Nat.succ_eq_add_one];rw[show o+5+j*5=o+(j+1)*5 by omega]
theorem SV (b:Nat):∀ (o:Nat) (l:List Pn),(lW b o l).length=l.length
 | _,[]=>rfl
 | o,a::l=>by simp[lW,SV b (o+5) l]
theorem SQ (b:Nat):∀ (o:Nat) (l:List Pn),((lW b o l).map fun k=>k.2.size).sum=Pn.bG l
 | _,[]=>by simp[lW,Pn.bG]
 | o,a::l=>by simp[lW,Pn.bG,SQ b (o+5) l]
theorem SS {b:Nat}:∀ {o:Nat} {l:List Pn},∀ q∈lW b o l,q.2∈l∧q.1.1=b
 | _,[],q,h=>by simp[lW]at h
 | o,a::l,q,h=>by
  simp only[lW,zO]at h
  rcases h with rfl|h
  ·simp
  ·have:=SS q h;exact⟨by simp[this.1],this.2⟩
def iE (es:List Ex):Nat:=if es.length=0 then 100 else 3
def lE (es:List Ex):StL:=if es.length=0 then []else [some (.arr 5 (Ex.aB es))]
def iC (es:List Ex) (cs:List Int):Nat:=if cs.length=0 then 101 else 3+(lE es).length
def lC (es:List Ex) (cs:List Int):StL:=if cs.length=0 then lE es else lE es++[some (.arr 1 (aG cs))]
def iK (es:List Ex) (cs:List Int) (ks:List Pn):Nat:=if ks.length=0 then 102 else 3+(lC es cs).length
def lK (es:List Ex) (cs:List Int) (ks:List Pn):StL:=if ks.length=0 then lC es cs else lC es cs++[some (.arr 5 (Pn.aB ks))]
def YP (b3 n o:Nat) (ES:List (List IV)) (init:PL) (b' nk:Nat) (cells:List AV) (i:Nat):AS :=
 { env:=EV b3 (if i=0 then .osl 1 1 0 n else .osl 3 1 0 (n+i)) (.own 2 o) .junk (jk i (.int (i-1))) (.bool true) .junk .junk .junk (.int nk) (.int i) (jk i (.bool true)),
   st:=some (.box zp)::(if i=0 then some (.arr 1 ES)else none)::some (.box cells)::(if i=0 then []else [some (.arr 1 (RWp init b' i))]) }
theorem ADG (a b c:Option Blk):∀ (l:StL) {x:Option Blk},bJ (a::b::c::(l++[x])) (3+l.length)=x:=by
 intro l x;rw[XK]
 have:(a::b::c::(l++[x]))[3+l.length]?=some x:=by
  rw[show 3+l.length=l.length+1+1+1 by omega];simp
 rw[this];rfl
theorem tH {p:Pn} (hsz:p.size<1000000000) (hth:p.thin) (hty:p.tiny) {wi:World} {mi:Mem} {vs:List Value} (hi:Inv wi mi (fun _=>none) (bJ [])) (hr:RepL mi (fun _=>none) [.i (.iref p.cells)] vs) :
 Calls Tryz.prog 59 vs.toArray wi (PE wi mi p):=by
 refine calls_of_wp (fn:=Tryz.f59) Tryz.func59 rfl ?_;have hv1:vs.length=1:=by simpa using hr.length.symm
 have g0:GR wi mi 91 (fun id=>id<({ env:=[(0, .i (.iref p.cells))],st:=[] }:AS).st.length) (fun _ _ _=>True) (aX [(0, .i (.iref p.cells))]) (bJ []) { tmps:=vs.toArray++Array.replicate (91-vs.toArray.size) undef,defers:=[] } wi:=by
  refine⟨⟨mi,fun _=>none,hi,?_, .refl _ _ _,fun id h=>absurd rfl h,trivial⟩,by simp;omega,rfl⟩;intro t;have:=nA (m:=mi) (φ:=fun _=>none) (91-vs.toArray.size) hr t
  cases t with
  | zero=>simpa [aX,uO]using this
  | succ t=>simp only[aX];simp;exact .junk _
 refine wp_seq (wp_mono (GR.gU jT (G:=GS 59) (S:={ env:=[(0, .i (.iref p.cells))],st:=[] }) (e:=.normal) (S':={ env:=[(0, .i (.iref p.cells)),(2, .own 0 0),(3, .junk)]++jj,st:=[some (.box zp)] }) mM (by kernel_rfl) (by simp[zp,jj]) g0) ?_);rintro _ a1 w1 ⟨rfl,g1⟩;refine wp_seq (wp_mono (GR.gU jT (G:=GS 59) (S:={ env:=[(0, .i (.iref p.cells)),(2, .own 0 0),(3, .junk)]++jj,st:=[some (.box zp)] }) (e:=.normal) (S':={ env:=[(0, .i (.iref p.cells)),(2, .own 0 0),(3, .own 1 0)]++jj,st:=[some (.box zp),some (.box (l5 p.cells))] }) mM (by kernel_rfl) (by rw[Pn.aA];simp[zp,jj]) g1) ?_);rintro _ a2 w2 ⟨rfl,g2⟩
 obtain⟨b3,g3⟩:=g2.AYE (u:=3) (id:=1) (p:=p) (st':=bJ [some (.box zp)]) rfl rfl (by
  intro i blk h
  cases i with
  | zero=>simp[bJ]at h;subst h;exact⟨by omega,rfl,by simp[jP,zp]⟩
  | succ i=>simp[bJ]at h)
 have g3:=g3 (aX [(2, .own 0 0),(3, .i (ptr (b3,0)))]) (by
  intro t;simp only[aX];by_cases h2:t=2
  ·subst h2;exact .inr (.inr ⟨rfl,by simp[aX,mE,bJ,jj]⟩)
  ·by_cases h3:t=3
   ·subst h3;exact .inr (.inl ⟨rfl,rfl⟩)
   ·simp[h2,h3])
 have g3:=g3.ok' (ok':=fun id=>id<({ env:=[(2, .own 0 0),(3, .i (ptr (b3,0)))],st:=[some (.box zp)] }:AS).st.length) (by
  intro i h
  cases i with
  | zero=>simp
  | succ i=>simp[bJ]at h)
 refine wp_seq (wp_mono (GR.gU jT (G:=GS 59) (S:={ env:=[(2, .own 0 0),(3, .i (ptr (b3,0)))],st:=[some (.box zp)] }) (e:=.normal) (S':=SLp b3 [((b3,0),p)] []) (RAW.PI _ _ _ _ _) (by kernel_rfl) (by simp[SLp,EV,lD,ptr,zp]) g3) ?_);rintro _ a3 w3 ⟨rfl,g4⟩;clear g0 g1 g2 g3;refine wp_seq (wp_block ?_);refine EW (fun n a w=>∃ (todo X H:PL) (F:List Nat),H.Perm todo∧(todo.map fun k=>k.2.size).sum=n∧n<1000000000∧(∀ q∈todo,q.2.thin∧q.2.tiny)∧GR wi mi 91 (fun id=>id<(SLp b3 todo X).st.length) (RAW wi b3 p F H) (aX (SLp b3 todo X).env) (bJ (SLp b3 todo X).st) a w) ?_ (n:=p.size) ⟨[((b3,0),p)],[],[((b3,0),p)],[], .refl _,by simp,hsz,by simpa using ⟨hth,hty⟩,g4⟩;clear g4;rintro n a w ⟨todo,X,H,F,hperm,hsum,hn,hall,g⟩
 rcases List.eq_nil_or_concat todo with rfl|⟨init,k,rfl⟩
 ·obtain rfl:=List.perm_nil.1 hperm;refine wp_mono (GR.gU jT (G:=GS 59) (S:=SLp b3 [] X) (e:=.exit 0) (S':={ env:=EV b3 (.osl 1 1 0 0) .junk .junk .junk (.bool false) .junk .junk .junk .junk .junk .junk,st:=[some (.box zp),some (.arr 1 (lD X))] }) (RAW.PI _ _ _ _ _) (by kernel_rfl) (by simp[SLp,EV,zp]) g) ?_;rintro _ a5 w5 ⟨rfl,g5⟩;simp only[mY,Exit.then,Exit.inBlock,if_true];obtain⟨v0,v1,v2,v3,v4,post,hone,g6⟩:=g5.ATG (u:=3) (k:=2) rfl rfl (by simp)
  have g6:=(g6 (aX [(2, .own 0 0),(3, .own 2 0)]) (by
   intro t;simp only[aX];by_cases h2:t=2
   ·subst h2;exact .inr (.inr (by simp[aX,EV]))
   ·by_cases h3:t=3
    ·subst h3;exact .inr (.inl ⟨rfl,rfl⟩)
    ·simp[h2,h3])).ok' (ok':=fun id=>id<({ env:=[(2, .own 0 0),(3, .own 2 0)],st:=[some (.box zp),some (.arr 1 (lD X)),some (.box (dH [v0,v1,v2,v3,v4]++dH post))] }:AS).st.length) (by
   intro i h
   simp at h ⊢;omega)
  rw[FI]at g6
  refine wp_mono (GR.gU jT (G:=GS 59) (S:={ env:=[(2, .own 0 0),(3, .own 2 0)],st:=[some (.box zp),some (.arr 1 (lD X)),some (.box (dH [v0,v1,v2,v3,v4]++dH post))] }) (e:=.ret) (S':={ env:=[(0, .junk),(2, .own 0 0),(3, .own 2 0)]++jj,st:=[some (.box (dH [v0,v1,v2,v3,v4])),some (.arr 1 (lD X)),some (.box (dH [v0,v1,v2,v3,v4]++dH post))] }) (CPY.PI _ _ _ _ _ _ _ _) (by kernel_rfl) (by
   have hz:dH [v0,v1,v2,v3,v4]=[.i (.lit v0), .i (.lit v1), .i (.lit v2), .i (.lit v3), .i (.lit v4)]:=rfl;rw[hz]
   simp[zp,jj,I5,KU]) g6) ?_
  rintro _ a6 w6 ⟨rfl,g7⟩;obtain⟨⟨m,φ,q1,q2,q3,q4,q5⟩,q6,q7⟩:=g7
  obtain⟨v,k1,k2⟩:=gY (C:=C2) (fn:=Tryz.f59) (keep:=false) (na:=0) (S:={ env:=[(0, .junk),(2, .own 0 0),(3, .own 2 0)]++jj,st:=[some (.box (dH [v0,v1,v2,v3,v4])),some (.arr 1 (lD X)),some (.box (dH [v0,v1,v2,v3,v4]++dH post))] }) (r:=.i (.agg [.lit v0, .lit v1, .lit v2, .lit v3, .lit v4])) (stl':=[]) (fun id h=>absurd rfl h) ⟨⟨⟨m,φ,q1,q2,q3,q4, .nil _ _ _⟩,q6,q7⟩,zA4 _⟩ (by
   show finish C2 false [ResultVar.cell 2 34] 0 _=_;have hz:dH [v0,v1,v2,v3,v4]=[.i (.lit v0), .i (.lit v1), .i (.lit v2), .i (.lit v3), .i (.lit v4)]:=rfl;rw[hz]
   simp)
  have hv:v=.agg #[v0,v1,v2,v3,v4]:=by
   obtain⟨_,_,_,e,r,_⟩:=k2;injection e with e;subst e
   cases r with
   | i r=>cases r with
    | agg r =>
     cases r with|cons a0 _ r=>cases r with|cons a1 _ r=>cases r with|cons a2 _ r=>cases r with|cons a3 _ r=>cases r with|cons a4 _ r =>
     cases r
     rw[mV a0,mV a1,mV a2,mV a3,mV a4]
  subst hv;refine⟨q7,_,k1,v0,v1,v2,v3,v4,F,m,rfl,hone,q1.mem,⟨q3.size,q3.os,q3.tape,q3.output,q3.block,q3.mle,q3.mnew, .refl _,fun _ _ _ _ e=>by cases e⟩,q5.th,q5.cells,q5.nd,fun f hf=>?_⟩;obtain⟨z1,z2,z3,z4,z5⟩:=q5.all f hf;exact⟨z1,z2,(by intro _ _ _ e;cases e),z4,z5⟩
 ·obtain⟨⟨b,o⟩,x⟩:=k;rw[List.concat_eq_append]at hperm hsum hall g
  have hlen:∀ l:PL,l.length≤(l.map fun k=>k.2.size).sum:=by
   intro l
   induction l with
   | nil=>simp
   | cons a l ih=>have:=Pn.wT a.2;simp;omega
  have hil:=hlen init;simp at hsum;have hq:((b,o),x)∈H:=hperm.mem_iff.2 (by simp);have hxs:=Pn.size_eq x;have hkl:=Pn.dC x.kids;have hpos:(0:Int)<(init.length:Int)+1:=by omega
  have w1:IntKind.i64.wrap (init.length:Int)=init.length:=wrO;generalize hES:lD (init++[((b,o),x)]++X)=ES at *
  have hnth:gF ES init.length=some [ptr (b,o)]:=by
   rw[iU,← hES];simp[lD]
  have hlit:∀ c∈ES.flatten,∃ v,c=.lit v:=by rw[← hES];exact NJ _
  have htake:ES.take init.length=lD init:=by rw[← hES];simp[lD]
  have hESl:init.length≤ES.length:=by rw[← hES];simp[lD]
  have hlt:(init.length:Int)<(init.length:Int)+1:=by omega
  have hlt2:(init.length:Int)≤(init.length:Int)+1:=by omega
  obtain⟨hxt,hxy⟩:=hall ((b,o),x) (by simp);simp only at hxt hxy;refine wp_seq (wp_mono (GR.gU jT (G:=GS 59) (S:=SLp b3 (init++[((b,o),x)]) X) (e:=.normal) (S':={ env:=EV b3 (.osl 1 1 0 (init.length+1)) .junk .junk .junk (.bool true) .junk .junk .junk .junk .junk .junk,st:=[some (.box zp),some (.arr 1 ES)] }) (RAW.PI _ _ _ _ _) (by kernel_rfl) (by simp only[SLp,hES];simp[EV,zp,hpos]) g) ?_);rintro _ a5 w5 ⟨rfl,g5⟩;clear g;refine wp_block ?_;refine wp_seq (wp_mono (GR.gU jT (G:=GS 59) (S:={ env:=EV b3 (.osl 1 1 0 (init.length+1)) .junk .junk .junk (.bool true) .junk .junk .junk .junk .junk .junk,st:=[some (.box zp),some (.arr 1 ES)] }) (e:=.normal) (S':={ env:=EV b3 (.osl 1 1 0 (init.length+1)) (.i (ptr (b,o))) .junk .junk (.bool true) .junk .junk .junk .junk .junk .junk,st:=[some (.box zp),some (.arr 1 ES)] }) (RAW.PI _ _ _ _ _) (by kernel_rfl) (by simp only[ptr]at hnth;simp[EV,ptr,zp,hnth,w1,hlt]) g5) ?_);rintro _ a6 w6 ⟨rfl,g6⟩;clear g5;refine wp_seq (wp_mono (GR.gU jT (G:=GS 59) (S:={ env:=EV b3 (.osl 1 1 0 (init.length+1)) (.i (ptr (b,o))) .junk .junk (.bool true) .junk .junk .junk .junk .junk .junk,st:=[some (.box zp),some (.arr 1 ES)] }) (e:=.normal) (S':={ env:=EV b3 (.osl 1 1 0 init.length) (.i (ptr (b,o))) .junk .junk (.bool true) .junk .junk .junk .junk .junk .junk,st:=[some (.box zp),some (.arr 1 ES)] }) (RAW.PI _ _ _ _ _) (by kernel_rfl) (by simp[EV,ptr,zp,w1,hlt2]) g6) ?_);rintro _ a7 w7 ⟨rfl,g7⟩;clear g6;obtain⟨pre,post,us,ma,e1,e2,e3,e4,e5,g8⟩:=g7.adopt (u:=5) (y:=x) rfl (by simp) hq rfl;clear g7;rw[AWG,FI]at g8;subst e3;obtain⟨kd,tb,es,cs,ks⟩:=x;obtain⟨t1,t2,t3,t4,t5⟩:=(Pn.bL _).1 hxt;obtain⟨y1,y2⟩:=(Pn.N7 _).1 hxy;simp only[Pn.iW,Pn.dF,Pn.fV]at t1 t2 t3 t4 t5 y1 y2 hxs hkl;rw[Pn.aW]at g8;have hst:=ADP.PI wi b3 p F H b us w7 ma
  refine wp_seq (wp_mono (GR.gU jT (G:=GS 59) (S:=SRp b3 init.length pre.length ES .junk .junk (.bool true) .junk .junk .junk .junk .junk .junk (kU pre [.int kd, .int tb, .i (.isl (Ex.aB es)), .i (.isl (aG cs)), .i (.isl (Pn.aB ks))] post) []) (e:=.normal) (S':=SRp b3 init.length pre.length ES .junk .junk (.bool true) .junk .junk .junk .junk .junk .junk (kU pre [.int kd, .int tb,slA es.length (iE es) 5, .i (.isl (aG cs)), .i (.isl (Pn.aB ks))] post) (lE es)) hst (by kernel_rfl) (by
   by_cases he:es=[]
   ·subst he;simp[SRp,EV,zp,APT,AAD,bD,bV,Ex.aB,AT6,slA,lE]
   ·have hel:es.length≠0:=fun h=>he (zW.1 h)
    simp[SRp,EV,zp,APT,AAD,bD,bV,AP7 he t1,slA,lE,iE,he]) (g8.ok' fun id h=>by simp at h ⊢;simp[SRp];omega)) ?_)
  rintro _ a9 w9 ⟨rfl,g9⟩;clear g8
  refine wp_seq (wp_mono (GR.AT0 jT (G:=GS 59) (S:=SRp b3 init.length pre.length ES .junk .junk (.bool true) .junk .junk .junk .junk .junk .junk (kU pre [.int kd, .int tb,slA es.length (iE es) 5, .i (.isl (aG cs)), .i (.isl (Pn.aB ks))] post) (lE es)) hst
   (PP:=fun e S'=>e=.normal∧∃ v6 v38 v39 v40,S'=SRp b3 init.length pre.length ES v6 .junk (.bool true) v38 v39 v40 .junk .junk .junk (kU pre [.int kd, .int tb,slA es.length (iE es) 5, .i (.isl (aG cs)), .i (.isl (Pn.aB ks))] post) (lE es)) (by kernel_rfl) (by
   by_cases he:es=[]
   ·subst he;refine⟨.normal,SRp b3 init.length pre.length ES .junk .junk (.bool true) (.int 0) (.int 0) (.bool false) .junk .junk .junk (kU pre [.int kd, .int tb,slA 0 (iE []) 5, .i (.isl (aG cs)), .i (.isl (Pn.aB ks))] post) (lE []),?_,rfl,_,_,_,_,rfl⟩;simp[SRp,EV,zp,APT,AAD,bD,bV,slA,lE];rw[aF];simp[bD,bV]
   ·have hel:es.length≠0:=fun h=>he (zW.1 h)
    refine⟨.normal,SRp b3 init.length pre.length ES (.int (es.length-1)) .junk (.bool true) (.int es.length) (.int es.length) (.bool false) .junk .junk .junk (kU pre [.int kd, .int tb,slA es.length (iE es) 5, .i (.isl (aG cs)), .i (.isl (Pn.aB ks))] post) (lE es),?_,rfl,_,_,_,_,rfl⟩;simp[SRp,EV,zp,APT,AAD,bD,bV,slA,lE,iE,he];rw[aQ (XS b3 init.length ES pre post kd tb es (.i (.isl (aG cs))) (.i (.isl (Pn.aB ks))) (.bool true)) es.length (by simp[XS,SRp,EV,zp])]
    ·rw[aF];simp[XS,SRp,EV,zp,APT,AAD,bD,bV,bH hel]
    ·intro i hi;have h3:=zX hi;have hs:=y1 _ (zV h3);have r2:=Ex.aO h3;generalize es[i]=a at h3 hs r2;have hk:=AT5 hs r2;have hput:=Ex.uG h3;have w2:IntKind.i64.wrap ((i:Int)+1)=i+1:=wrO;rw[Ex.aA]at r2 hk hput
     simp[XS,SRp,EV,zp,APT,AAD,bD,bV,hi,r2,hk,w2,hput]) g9) ?_)
  rintro _ a10 w10 ⟨e,S',rfl,⟨rfl,v6,v38,v39,v40,rfl⟩,g10⟩;clear g9
  have g10:=(g10.envTo (env':=aX (SRp b3 init.length pre.length ES .junk .junk (.bool true) .junk .junk .junk .junk .junk .junk (kU pre [.int kd, .int tb,slA es.length (iE es) 5, .i (.isl (aG cs)), .i (.isl (Pn.aB ks))] post) (lE es)).env) (by
   intro t;simp only[SRp,EV,aX];by_cases h6:t=6
   ·subst h6;simp
   by_cases h38:t=38
   ·subst h38;simp
   by_cases h39:t=39
   ·subst h39;simp
   by_cases h40:t=40
   ·subst h40;simp
   ·simp[h6,h38,h39,h40]))
  refine wp_seq (wp_mono (GR.gU jT (G:=GS 59) (S:=SRp b3 init.length pre.length ES .junk .junk (.bool true) .junk .junk .junk .junk .junk .junk (kU pre [.int kd, .int tb,slA es.length (iE es) 5, .i (.isl (aG cs)), .i (.isl (Pn.aB ks))] post) (lE es)) (e:=.normal) (S':=SRp b3 init.length pre.length ES .junk .junk (.bool true) .junk .junk .junk .junk .junk .junk (kU pre [.int kd, .int tb,slA es.length (iE es) 5,slA cs.length (iC es cs) 1, .i (.isl (Pn.aB ks))] post) (lC es cs)) hst (by kernel_rfl) (by
   by_cases he:es=[]<;>by_cases hc:cs=[]
   ·subst he;subst hc;simp[SRp,EV,zp,ATT,AIA,bD,bV,aG,ALY,slA,lE,lC]
   ·have hcl:cs.length≠0:=fun h=>hc (zW.1 h)
    subst he;simp[SRp,EV,zp,ATT,AIA,bD,bV,AGA hc t3,slA,lE,lC,iC,hc]
   ·have hel:es.length≠0:=fun h=>he (zW.1 h)
    subst hc;simp[SRp,EV,zp,ATT,AIA,bD,bV,aG,ALY,slA,lE,lC,iE,he]
   ·have hel:es.length≠0:=fun h=>he (zW.1 h)
    have hcl:cs.length≠0:=fun h=>hc (zW.1 h)
    simp[SRp,EV,zp,ATT,AIA,bD,bV,AGA hc t3,slA,lE,lC,iE,iC,he,hc]) g10) ?_)
  rintro _ a11 w11 ⟨rfl,g11⟩;clear g10
  refine wp_seq (wp_mono (GR.gU jT (G:=GS 59) (S:=SRp b3 init.length pre.length ES .junk .junk (.bool true) .junk .junk .junk .junk .junk .junk (kU pre [.int kd, .int tb,slA es.length (iE es) 5,slA cs.length (iC es cs) 1, .i (.isl (Pn.aB ks))] post) (lC es cs)) (e:=.normal) (S':=SRp b3 init.length pre.length ES .junk .junk (.bool true) .junk .junk .junk .junk .junk .junk (kU pre [.int kd, .int tb,slA es.length (iE es) 5,slA cs.length (iC es cs) 1,slA ks.length (iK es cs ks) 5] post) (lK es cs ks)) hst (by kernel_rfl) (by
   by_cases he:es=[]<;>by_cases hc:cs=[]<;>by_cases hk:ks=[]
   all_goals (try subst he)
   all_goals (try subst hc)
   all_goals (try subst hk)
   ·simp[SRp,EV,zp,ZR,QG,bD,bV,Pn.aB,Z4,slA,lE,lC,lK]
   ·simp[SRp,EV,zp,ZR,QG,bD,bV,OV hk t4,slA,lE,lC,lK,iK,hk]
   ·simp[SRp,EV,zp,ZR,QG,bD,bV,Pn.aB,Z4,slA,lE,lC,lK,iC,hc]
   ·simp[SRp,EV,zp,ZR,QG,bD,bV,OV hk t4,slA,lE,lC,lK,iC,iK,hc,hk]
   ·simp[SRp,EV,zp,ZR,QG,bD,bV,Pn.aB,Z4,slA,lE,lC,lK,iE,he]
   ·simp[SRp,EV,zp,ZR,QG,bD,bV,OV hk t4,slA,lE,lC,lK,iE,iK,he,hk]
   ·simp[SRp,EV,zp,ZR,QG,bD,bV,Pn.aB,Z4,slA,lE,lC,lK,iE,iC,he,hc]
   ·simp[SRp,EV,zp,ZR,QG,bD,bV,OV hk t4,slA,lE,lC,lK,iE,iC,iK,he,hc,hk]) g11) ?_)
  rintro _ a12 w12 ⟨rfl,g12⟩;clear g11
  obtain⟨F',H',us',b',cap,vE,vC,m2,hpm,hus,hone,hbn,g13⟩:=g12.AVA (u:=5) (st':=bJ [some (.box zp),some (.arr 1 ES)]) (env':=aX (EV b3 (.osl 1 1 0 init.length) (.own 2 pre.length) .junk .junk (.bool true) .junk .junk .junk .junk .junk .junk)) (idE:=iE es) (idC:=iC es cs) (idK:=iK es cs ks) (oq:=pre.length) e1 e2 rfl e4 hq rfl
   (fun h=>by simp[SRp,iE,lE,lC,lK,h];split<;>split<;>simp[bJ])
   (fun h=>by simp only[SRp,iC,lC,lK,h,if_false];cases hh:lE es with
    | nil=>split<;>simp[bJ]
    | cons a l =>
     have:l=[]:=by unfold lE at hh;split at hh<;>simp_all
     subst this;split<;>simp[bJ])
   (fun h=>by simp only[SRp,iK,lK,h,if_false];exact ADG _ _ _ _)
   (by unfold iE iC iK lC lE;repeat' split<;>simp_all)
   (by
    intro i blk h
    rcases i with _|_|i
    ·simp[bJ]at h;subst h;exact⟨by omega,rfl,by simp[jP,zp]⟩
    ·simp[bJ]at h;subst h;exact⟨by omega,rfl,hlit⟩
    ·simp[bJ]at h)
   (by
    intro t;simp only[SRp,EV,aX];by_cases h0:t=0
    ·subst h0;simp
    by_cases h2:t=2
    ·subst h2;exact .inr ⟨by simp, .inr (by simp[mE,bJ])⟩
    by_cases h3:t=3
    ·subst h3;exact .inr ⟨by simp, .inr (by simp[mE,ptr])⟩
    by_cases h4:t=4
    ·subst h4;exact .inr ⟨by simp, .inr (by simp[mE,bJ])⟩
    by_cases h5:t=5
    ·subst h5;exact .inr ⟨by simp, .inl (by simp)⟩
    by_cases h14:t=14
    ·subst h14;exact .inr ⟨by simp, .inr (by simp[mE])⟩
    simp[h0,h2,h3,h4,h5,h14])
  clear g12;rw[FI]at g13;have hbx:dH us'=kU pre [.i (.lit (.int .i64 kd)), .i (.lit (.int .i64 tb)), .i (.lit vE), .i (.lit vC), .i (.lit (if ks.length=0 then .slice none 0 0 else .slice (some ⟨b',0,none⟩) ks.length cap))] post:=by rw[hus];simp[kU,dH]
  rw[hbx]at g13;have hst':=ADP.PI wi b3 p F' H' b us' w12 m2
  refine wp_mono (GR.AT0 jT (G:=GS 59) (S:=SRp b3 init.length pre.length ES .junk .junk (.bool true) .junk .junk .junk .junk .junk .junk (kU pre [.i (.lit (.int .i64 kd)), .i (.lit (.int .i64 tb)), .i (.lit vE), .i (.lit vC), .i (.lit (if ks.length=0 then .slice none 0 0 else .slice (some ⟨b',0,none⟩) ks.length cap))] post) []) hst'
   (PP:=fun e S'=>e=.normal∧∃ v7 v76 v77 v78,S'={ env:=EV b3 (if ks.length=0 then .osl 1 1 0 init.length else .osl 3 1 0 (init.length+ks.length)) (.own 2 pre.length) .junk v7 (.bool true) .junk .junk .junk v76 v77 v78,st:=some (.box zp)::(if ks.length=0 then some (.arr 1 ES)else none)::some (.box (kU pre [.i (.lit (.int .i64 kd)), .i (.lit (.int .i64 tb)), .i (.lit vE), .i (.lit vC), .i (.lit (if ks.length=0 then .slice none 0 0 else .slice (some ⟨b',0,none⟩) ks.length cap))] post))::(if ks.length=0 then []else [some (.arr 1 (RWp init b' ks.length))]) }) (by kernel_rfl) (by
   by_cases h0:ks.length=0
   ·refine⟨.normal,{ env:=EV b3 (.osl 1 1 0 init.length) (.own 2 pre.length) .junk .junk (.bool true) .junk .junk .junk (.int 0) (.int 0) (.bool false),st:=some (.box zp)::some (.arr 1 ES)::some (.box (kU pre [.i (.lit (.int .i64 kd)), .i (.lit (.int .i64 tb)), .i (.lit vE), .i (.lit vC), .i (.lit (if ks.length=0 then .slice none 0 0 else .slice (some ⟨b',0,none⟩) ks.length cap))] post))::[] },?_,rfl, .junk, .int 0, .int 0, .bool false,by simp[h0]⟩;simp[SRp,EV,zp,ZR,bD,bV,h0];rw[aF];simp[bD,bV]
   ·refine⟨.normal,{ env:=EV b3 (.osl 3 1 0 (init.length+ks.length)) (.own 2 pre.length) .junk (.int (ks.length-1)) (.bool true) .junk .junk .junk (.int ks.length) (.int ks.length) (.bool false),st:=some (.box zp)::none::some (.box (kU pre [.i (.lit (.int .i64 kd)), .i (.lit (.int .i64 tb)), .i (.lit vE), .i (.lit vC), .i (.lit (if ks.length=0 then .slice none 0 0 else .slice (some ⟨b',0,none⟩) ks.length cap))] post))::[some (.arr 1 (RWp init b' ks.length))] },?_,rfl, .int (ks.length-1), .int ks.length, .int ks.length, .bool false,by simp[h0]⟩;simp only[h0,if_false];simp[SRp,EV,zp,ZR,bD,bV];rw[aQ (YP b3 init.length pre.length ES init b' ks.length (kU pre [.i (.lit (.int .i64 kd)), .i (.lit (.int .i64 tb)), .i (.lit vE), .i (.lit vC), .i (.lit (if ks.length=0 then .slice none 0 0 else .slice (some ⟨b',0,none⟩) ks.length cap))] post)) ks.length (by simp[YP,EV,zp,h0])]
    ·rw[aF];simp[YP,EV,zp,ZR,bD,bV,h0,bH h0]
    ·intro i hi;have w2:IntKind.i64.wrap ((i:Int)+1)=i+1:=wrO;by_cases hi0:i=0
     ·subst hi0;have hR:lD init++[[.lit (.pointer (some ⟨b',0,none⟩))]]=RWp init b' 1:=by simp[RWp,ptr]
      have hl:(init.length+1)*8≤140737488355328:=by omega
      simp[YP,EV,zp,ZR,bD,bV,h0,AM3,hi,htake,hR,hl,hESl]
     ·have hl:(init.length+i+1)*8≤140737488355328:=by omega
      have hT:(RWp init b' i).take (init.length+i)=RWp init b' i:=zY (by rw[AH0];omega);have hR:RWp init b' i++[[.lit (.pointer (some ⟨b',i*5,none⟩))]]=RWp init b' (i+1):=by simpa [ptr]using AKF init b' i
      simp[YP,EV,zp,ZR,bD,bV,h0,hi0,bH hi0,w2,hi,hT,AH0,hl,hR,← Nat.add_assoc]) (g13.ok' fun id h=>by simp[SRp];omega)) ?_
  rintro _ a13 w13 ⟨e,S',rfl,⟨rfl,v7,v76,v77,v78,rfl⟩,g14⟩;clear g13;simp only[mY,Exit.then,Exit.inBlock]
  have hpm2:H'.Perm (init++lW b' 0 ks):=by
   have h1:(((b,pre.length),Pn.mk kd tb es cs ks)::H').Perm (((b,pre.length),Pn.mk kd tb es cs ks)::(init++lW b' 0 ks)):=by
    refine hpm.trans ((hperm.append_right _).trans ?_);rw[yZ];exact zC3
   exact(List.perm_cons _).1 h1
  have hszx:(Pn.mk kd tb es cs ks).size=1+Pn.bG ks:=hxs
  have hall2:∀ q∈init++lW b' 0 ks,q.2.thin∧q.2.tiny:=by
   intro q hq'
   rcases zT.1 hq' with h|h
   ·exact hall q (by simp[h])
   ·have:=(SS q h).1;exact⟨t5 _ this,y2 _ this⟩
  have hsum2:((init++lW b' 0 ks).map fun k=>k.2.size).sum=n-1:=by
   rw[zA3,List.sum_append,SQ];omega
  by_cases hk0:ks.length=0
  ·have hks:ks=[]:=zW.1 hk0;subst hks;simp only[yQ,if_true]at g14 hbx
   have g15:=g14.YD (st':=bJ [some (.box zp),some (.arr 1 ES)]) (env':=aX (EV b3 (.osl 1 1 0 init.length) .junk .junk .junk .junk .junk .junk .junk .junk .junk .junk)) (by rw[hbx];rfl) (by
    intro i blk h
    rcases i with _|_|i
    ·simp[bJ]at h;subst h;exact⟨by omega,rfl,by simp[jP,zp]⟩
    ·simp[bJ]at h;subst h;exact⟨by omega,rfl,hlit⟩
    ·simp[bJ]at h) (by
    intro t;simp only[EV,aX];by_cases h0:t=0
    ·subst h0;simp
    by_cases h2:t=2
    ·subst h2;exact .inr ⟨by simp,by simp[mE,bJ]⟩
    by_cases h3:t=3
    ·subst h3;exact .inr ⟨by simp,by simp[mE,ptr]⟩
    by_cases h4:t=4
    ·subst h4;exact .inr ⟨by simp,by simp[mE,bJ]⟩
    simp[h0,h2,h3,h4])
   simp only[lW,zA2]at hpm2 hall2 hsum2;refine⟨n-1,by omega,init,[((b,pre.length),Pn.mk kd tb es cs [])]++X,H',F',hpm2,hsum2,by omega,hall2,?_⟩;have hES2:lD (init++([((b,pre.length),Pn.mk kd tb es cs [])]++X))=ES:=by rw[← hES,yZ]
   simp only[SLp,hES2]
   exact g15.ok' (by
    intro i h
    rcases i with _|_|i
    ·simp
    ·simp
    ·simp[bJ]at h)
  ·simp only[hk0,if_false]at g14 hbx
   have g15:=g14.YD (st':=bJ [some (.box zp),none,none,some (.arr 1 (RWp init b' ks.length))]) (env':=aX [(2, .own 0 0),(3, .i (ptr (b3,0))),(4, .osl 3 1 0 (init.length+ks.length))]) (by rw[hbx];rfl) (by
    intro i blk h
    rcases i with _|_|_|_|i
    ·simp[bJ]at h;subst h;exact⟨by omega,rfl,by simp[jP,zp]⟩
    ·simp[bJ]at h
    ·simp[bJ]at h
    ·simp[bJ]at h;subst h;exact⟨by omega,rfl,by
      intro c hc;rw[List.mem_flatten]at hc;obtain⟨r,hr1,hr2⟩:=hc;unfold RWp at hr1
      rcases zT.1 hr1 with h|h
      ·exact NJ init c (List.mem_flatten.2 ⟨r,h,hr2⟩)
      ·obtain⟨j,_,rfl⟩:=yF.1 h
       simp at hr2;subst hr2;exact⟨_,rfl⟩⟩
    ·simp[bJ]at h) (by
    intro t;simp only[EV,aX];by_cases h2:t=2
    ·subst h2;exact .inr ⟨by simp,by simp[mE,bJ]⟩
    by_cases h3:t=3
    ·subst h3;exact .inr ⟨by simp,by simp[mE,ptr]⟩
    by_cases h4:t=4
    ·subst h4;exact .inr ⟨by simp,by simp[mE,bJ]⟩
    simp[h2,h3,h4])
   have g16:=g15.settle (fun w m φ ids h=>RAW.keep ids h) [2,3,4]
   have hs:Av.settle [2,3,4] 0 (aX [(2, .own 0 0),(3, .i (ptr (b3,0))),(4, .osl 3 1 0 (init.length+ks.length))]) (bJ [some (.box zp),none,none,some (.arr 1 (RWp init b' ks.length))])={ env:=[(2, .own 0 0),(3, .i (ptr (b3,0))),(4, .osl 1 1 0 (init.length+ks.length))],st:=[some (.box zp),some (.arr 1 (RWp init b' ks.length))] }:=by
    simp[zp,ptr]
   rw[hs]at g16;refine⟨n-1,by omega,init++lW b' 0 ks,[],H',F',hpm2,hsum2,by omega,hall2,?_⟩
   have hR:lD (init++lW b' 0 ks++[])=RWp init b' ks.length:=by
    rw[zA2];have:=LG b' 0 ks;simp only[lD]at this;simp only[lD,RWp,zA3,this,zI]
   have hl:(init++lW b' 0 ks).length=init.length+ks.length:=by rw[zJ,SV]
   simp only[SLp,hR,hl]
   exact g16.envTo (by
    intro t;simp only[EV,aX];by_cases h0:t=0
    ·subst h0;simp
    by_cases h2:t=2
    ·subst h2;simp
    by_cases h3:t=3
    ·subst h3;simp
    by_cases h4:t=4
    ·subst h4;simp
    ·simp[h0,h2,h3,h4])
theorem OL {p:Pn} (hsz:p.size<1000000000) (hth:p.thin) (hty:p.tiny) {wi:World} {mi:Mem} {φ:Pl} {vs:List Value} (hi:Inv wi mi φ (bJ [])) (hr:RepL mi φ [.i (.iref p.cells)] vs) (h0:∀ id,φ id≠none→id<0) :
 Calls Tryz.prog 59 vs.toArray wi (cZ wi mi φ (.i (.agg p.cells)) []):=by
 obtain rfl:φ=fun _=>none:=by
  funext id
  cases h:φ id with
  | none=>rfl
  | some p=>exact absurd (h0 id (by rw[h];simp)) (xK _)
 exact(tH hsz hth hty hi hr).mono fun _ _ h=>h.tree
end Go.Proofs.YtjdfjgmebalaaaaGreat.G

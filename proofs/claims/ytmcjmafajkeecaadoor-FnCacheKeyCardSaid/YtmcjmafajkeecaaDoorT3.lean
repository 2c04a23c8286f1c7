/- Part 3 of what the proof rests on: the executor and what it is worth, and the program's functions as it runs them. No condition. -/
import Derived.Test.YtmcjmafajkeecaaDoorT2
import Derived.Test.YtmcjmafajkeecaaDoorProg
import Derived.KernelRfl
set_option linter.unusedVariables false
set_option linter.unusedSimpArgs false
namespace Go.Av
structure RAW (wi:World) (root:Nat) (p:Pn) (F:List Nat) (H:PL) (w:World) (m:Mem) (φ:Pl):Prop where
 th:TH w m p root 0 F H
 nr:root ∉ F
 nd:F.Nodup
 all:∀ f∈root::F,wi.heap.size≤f∧f<w.heap.size∧fJ φ f∧(∀ o,m f o=none)∧∃ (vs:List Value) (T:TypeId),w.heap[f]?=some (.cells vs.toArray T (0,0))∧∀ v∈vs,v.oneCell'=true
theorem jR {w w':World} {f:Nat} (h:w'.heap[f]?=w.heap[f]?) (j:Nat):w'.cell? ⟨f,j,none⟩=w.cell? ⟨f,j,none⟩:=cell_of_heap h
theorem RAW.ABD (wi:World) (root:Nat) (p:Pn) (F:List Nat) (H:PL):AIO (RAW wi root p F H):=by
 intro w m φ w' m' φ' ha h;have hs:∀ f∈root::F,w'.heap[f]?=w.heap[f]?:=fun f hf=>ha.block f (h.all f hf).2.1 (h.all f hf).2.2.1
 refine⟨h.th.frame ha.mle (fun j _ _=>jR (hs root (by simp)) j) (fun f hf j=>jR (hs f (by simp[hf])) j),h.nr,h.nd,fun f hf=>?_⟩;obtain⟨k1,k2,k3,k4,vs,T,k5,k6⟩:=h.all f hf;exact⟨k1,yZ k2 ha.size,ha.range k2 k3,fun o=>(ha.mnew f k2 k3 o).trans (k4 o),vs,T,by rw[hs f hf];exact k5,k6⟩
structure ADP (wi:World) (root:Nat) (p:Pn) (F:List Nat) (H:PL) (bq:Nat) (us:List Value) (wa:World) (ma:Mem) (w:World) (m:Mem) (φ:Pl):Prop where
 th:TH wa ma p root 0 F H
 nr:root ∉ F
 nd:F.Nodup
 le:MLe ma m
 inF:bq∈root::F
 own:∃ n,φ 2=some (bq,n)
 row:∃ T,wa.heap[bq]?=some (.cells us.toArray T (0,0))
 bqn:wi.heap.size≤bq
 oth:∀ f∈root::F,f≠bq→wi.heap.size≤f∧f<w.heap.size∧fJ φ f∧(∀ o,m f o=none)∧w.heap[f]?=wa.heap[f]?∧∃ (vs:List Value) (T:TypeId),wa.heap[f]?=some (.cells vs.toArray T (0,0))∧∀ v∈vs,v.oneCell'=true
theorem ADP.ABD (wi:World) (root:Nat) (p:Pn) (F:List Nat) (H:PL) (bq:Nat) (us:List Value) (wa:World) (ma:Mem):AIO (ADP wi root p F H bq us wa ma):=by
 intro w m φ w' m' φ' ha h;refine⟨h.th,h.nr,h.nd,h.le.trans ha.mle,h.inF,?_,h.row,h.bqn,fun f hf hne=>?_⟩
 ·obtain⟨n,e⟩:=h.own;obtain⟨n',e',_⟩:=ha.ple _ _ _ e;exact⟨n',e'⟩
 ·obtain⟨k1,k2,k3,k4,k5,k6⟩:=h.oth f hf hne;exact⟨k1,yZ k2 ha.size,ha.range k2 k3,fun o=>(ha.mnew f k2 k3 o).trans (k4 o),(ha.block f k2 k3).trans k5,k6⟩
theorem QZ {us:List Value} {o:Nat} {v0 v1 v2 v3 v4:Value} (h0:us[o]?=some v0) (h1:us[o+1]?=some v1) (h2:us[o+2]?=some v2) (h3:us[o+3]?=some v3) (h4:us[o+4]?=some v4):us=us.take o++([v0,v1,v2,v3,v4]++us.drop (o+5)):=by
 have g:∀ {o:Nat} {v:Value},us[o]?=some v→us.drop o=v::us.drop (o+1):=by
  intro o v h;obtain⟨hl,rfl⟩:=zW.1 h;exact yJ hl
 have:us.drop o=[v0,v1,v2,v3,v4]++us.drop (o+5):=by rw[g h0,g h1,g h2,g h3,g h4];rfl
 rw[← this,xJ]
mutual
theorem TH.hole {w:World} {m:Mem} {x:Pn} {b o:Nat} {F:List Nat} {H:PL}:TH w m x b o F H→∀ q∈H,∃ v0 v1 v2 v3 v4,ICells m q.2.cells [v0,v1,v2,v3,v4]∧At5 w q.1.1 q.1.2 v0 v1 v2 v3 v4
 | .fresh h1 h2,q,hq=>by simp at hq;subst hq;exact⟨_,_,_,_,_,h1,h2⟩
 | .leaf _ _ _ _,q,hq=>by simp at hq
 | .node _ _ _ _ _ h6 _ _,q,hq=>THL.hole h6 q hq
theorem THL.hole {w:World} {m:Mem} {xs:List Pn} {b o:Nat} {F:List Nat} {H:PL}:THL w m xs b o F H→∀ q∈H,∃ v0 v1 v2 v3 v4,ICells m q.2.cells [v0,v1,v2,v3,v4]∧At5 w q.1.1 q.1.2 v0 v1 v2 v3 v4
 | .nil _ _,q,hq=>by simp at hq
 | .cons h1 h2,q,hq=>by
  rcases zV.1 hq with h|h
  ·exact TH.hole h1 q h
  ·exact THL.hole h2 q h
end
theorem SB {m:Mem} {φ:Pl}:∀ {cs:List IV} {vs:List Value},ICells m cs vs→RepC m φ (kQ cs) vs
 | [],_, .nil=>.nil
 | c::cs,_, .cons a o b=>.cons (.i a) o (SB b)
section
variable {wi:World} {mi:Mem} {nt:Nat}
def gB (pre:List Value) (row:List AV) (post:List Value):List AV:=dO pre++(row++dO post)
theorem GR.QO {ok:Nat→Prop} {root:Nat} {p:Pn} {F:List Nat} {H:PL} {env:Nat→AV} {st:Store} {a:Act} {w:World} {u bq oq:Nat} {y:Pn} (h:GR wi mi nt ok (RAW wi root p F H) env st a w) (hst:st 2=none) (hok:¬ ok 2) (hq:((bq,oq),y)∈H) (hu:env u=.i (.lit (.pointer (some ⟨bq,oq,none⟩)))) :
 ∃ pre post us ma,us.take oq=pre∧us.drop (oq+5)=post∧pre.length=oq∧us.length=oq+5+post.length∧(∀ v∈us,v.oneCell'=true) ∧
   GR wi mi nt (fun id=>ok id∨id=2) (ADP wi root p F H bq us w ma) (upd env u (.own 2 oq)) (upd st 2 (some (.box (gB pre (kQ y.cells) post)))) a w:=by
 obtain⟨⟨m,φ,hi,henv,hadv,hk,hr⟩,h6,h7⟩:=h;obtain⟨v0,v1,v2,v3,v4,hc,h5⟩:=hr.th.hole _ hq;simp only at hc h5
 have hinF:bq∈root::F:=by
  rcases hr.th.holes _ hq with e|e
  ·simp at e;simp[e]
  ·simp at e;simp[e]
 obtain⟨k1,k2,k3,k4,us,T,k5,k6⟩:=hr.all bq hinF;have gc:∀ {o:Nat} {v:Value},w.cell? ⟨bq,o,none⟩=some v→us[o]?=some v:=fun h=>by rwa [bT k5]at h
 have hrow:=QZ (gc h5.c0) (gc h5.c1) (gc h5.c2) (gc h5.c3) (gc h5.c4);have hl4:=(zW.1 (gc h5.c4)).1;refine⟨us.take oq,us.drop (oq+5),us,m,rfl,rfl,by rw[xO];omega,by rw[zB0];omega,k6,?_⟩
 have hφ2:φ 2=none:=by
  cases e:φ 2 with
  | none=>rfl
  | some q=>exact absurd (hk 2 (by rw[e];simp)) hok
 have hrep:RepC m (upd φ 2 (some (bq,one bq us.length))) (gB (us.take oq) (kQ y.cells) (us.drop (oq+5))) us:=by
  have h1:=kD (m:=m) (φ:=upd φ 2 (some (bq,one bq us.length))) (vs:=us.take oq) fun v hv=>k6 v (zK hv)
  have h2:=kD (m:=m) (φ:=upd φ 2 (some (bq,one bq us.length))) (vs:=us.drop (oq+5)) fun v hv=>k6 v (yL hv)
  have h3:=CL h1 (CL (SB hc) h2);rw[← hrow]at h3;exact h3
 have hp:PLe φ (upd φ 2 (some (bq,one bq us.length))):=fun i r n e=>by
  refine⟨n,?_,rfl,fun _ h=>h⟩;have:i≠2:=fun h=>by rw[h,hφ2]at e;cases e
  simp[upd,this,e]
 refine⟨⟨m,upd φ 2 (some (bq,one bq us.length)),hi.QO hst hφ2 k3 k4 k5 hrep,fun t=>?_,hadv.QO k1,fun id hid=>?_,?_⟩,h6,h7⟩
 ·by_cases ht:t=u
  ·subst ht;have:=henv t;rw[hu]at this;simp only[upd,if_true];rw[this.bX];exact .own (n:=one bq us.length) (by simp[upd])
  ·simp only[upd,ht,if_false];exact(henv t).mono (.refl _) hp
 ·by_cases e:id=2
  ·exact .inr e
  ·simp[upd,e]at hid;exact .inl (hk id hid)
 ·refine⟨hr.th,hr.nr,hr.nd, .refl _,hinF,⟨one bq us.length,by simp[upd]⟩,⟨T,k5⟩,k1,fun f hf hne=>?_⟩;obtain⟨q1,q2,q3,q4,q5⟩:=hr.all f hf;refine⟨q1,q2,fun i r n e ho=>?_,q4,rfl,q5⟩;by_cases e2:i=2
  ·subst e2;simp[upd]at e;obtain⟨rfl,rfl⟩:=e;exact hne ho
  ·simp[upd,e2]at e;exact q3 i r n e ho
def slA (n id k:Nat):AV:=if n=0 then .nils else .osl id k 0 n
def kV (b:Nat):Nat→List Pn→PL
 | _,[]=>[]
 | o,x::l=>((b,o),x)::kV b (o+5) l
theorem Inv.AOH {w:World} {m:Mem} {φ:Pl} {st:Store} {id b:Nat} {n:Ext} {blk blk':Blk} (hi:Inv w m φ st) (h:st id=some blk) (e:φ id=some (b,n)) (hb:BlkOk w m φ b n blk'):Inv w m φ (upd st id (some blk')):=by
 refine⟨hi.mem,?_,?_,hi.low⟩
 ·intro i bl hbl;by_cases hid:i=id
  ·subst hid;simp[upd]at hbl;subst hbl;exact⟨b,n,e,(bS hi e h).1,hb⟩
  ·simp[upd,hid]at hbl;exact hi.live i bl hbl
 ·intro i j r r' n1 n2 b1 b2 f e1 e2 p1 p2 o1 o2
  have g:∀ i b1,upd st id (some blk') i=some b1→∃ b2,st i=some b2:=fun i b1 h1=>by
   by_cases hid:i=id
   ·subst hid;exact⟨blk,h⟩
   ·simp[upd,hid]at h1;exact⟨b1,h1⟩
  obtain⟨x1,y1⟩:=g i b1 e1;obtain⟨x2,y2⟩:=g j b2 e2;exact hi.inj i j r r' n1 n2 x1 x2 f y1 y2 p1 p2 o1 o2
theorem I5 {w:World} {m:Mem} {b:Nat}:∀ {ks:List Pn} {o:Nat} {vs:List Value},ICells m (Pn.aA ks).flatten vs→(∀ j v,vs[j]?=some v→w.cell? ⟨b,o+j,none⟩=some v)→THL w m ks b o [] (kV b o ks)
 | [],o,_,_,_=>.nil b o
 | k::ks,o,vs,h,hw=>by
  simp only[Pn.aA,zF]at h;have h1:=h.take 5;have h2:=h.drop 5;rw[List.take_left' (Pn.cO k)]at h1;rw[List.drop_left' (Pn.cO k)]at h2;have hl:=h1.length;rw[Pn.cO]at hl;have hlen:5≤vs.length:=by rw[xO]at hl;omega
  have hf:THL w m (k::ks) b o ([]++[]) ([((b,o),k)]++kV b (o+5) ks):=by
   refine .cons ?_ (I5 h2 fun j v hj=>?_)
   ·have e:vs.take 5=[vs[0],vs[1],vs[2],vs[3],vs[4]]:=by
     apply List.ext_getElem (by simp;omega);intro i l1 l2;simp at l1 l2
     rcases i with _|_|_|_|_|i
     ·simp
     ·simp
     ·simp
     ·simp
     ·simp
     ·omega
    rw[e]at h1;exact .fresh h1 ⟨hw 0 _ (by simp),hw 1 _ (by simp),hw 2 _ (by simp),hw 3 _ (by simp),hw 4 _ (by simp)⟩
   ·rw[yM]at hj;have:=hw (5+j) v hj
    rwa [← Nat.add_assoc]at this
  exact hf
theorem TCells.rows {w:World}:∀ {cs:List IV} {vs:List Value} {F:List Nat},TCells w cs vs F→∀ f∈F,∃ (us:List Value) (T:TypeId),w.heap[f]?=some (.cells us.toArray T (0,0))∧∀ v∈us,v.oneCell'=true
 | _,_,_, .nil,f,hf=>by simp at hf
 | _,_,_, .lit _ r,f,hf=>r.rows f hf
 | _,_,_, .isl0 _ r,f,hf=>r.rows f hf
 | _,_,_, .isl _ ⟨T,h1,h2⟩ _ _ _ _ g r,f,hf=>by
  rw[yT,zQ,zV]at hf
  rcases hf with e|e|e
  ·rw[e];exact⟨_,T,h1,h2⟩
  ·exact g.rows f e
  ·exact r.rows f e
theorem NL:∀ l:List Ex,iQ (Ex.aA l)=true
 | []=>rfl
 | e::l=>by simp only[Ex.aA,iQ,NL l,Bool.and_true];rw[Ex.aB];rfl
theorem kX:∀ l:List Int,fI (aI l)=true
 | []=>rfl
 | n::l=>by simp only[aI,fI,kX l,Bool.and_true];rfl
theorem ASP {st:Store} {es:List Ex} {cs:List Int} {idE idC:Nat} (hE:es.length≠0→st idE=some (.tre 5 (Ex.aA es))) (hC:cs.length≠0→st idC=some (.arr 1 (aI cs))) (hne:idE≠idC) :
 ∃ st2,oZ st [slA es.length idE 5,slA cs.length idC 1]=some ([.isl (Ex.aA es), .isl (aI cs)],st2)∧∀ i,i≠idE→i≠idC→st2 i=st i:=by
 have hp:=NL es;have hb:=kX cs;have tE:(Ex.aA es).take es.length=Ex.aA es:=zY (by simp);have tC:(aI cs).take cs.length=aI cs:=zY (by simp);by_cases h1:es.length=0<;>by_cases h2:cs.length=0
 ·have:=zZ.1 h1;have:=zZ.1 h2;subst es;subst cs;exact⟨st,by simp[slA,oZ,AB,bnd,Ex.aA,aI],fun _ _ _=>rfl⟩
 ·have:=zZ.1 h1;subst es;refine⟨upd st idC none,by simp[slA,oZ,AB,bnd,Ex.aA,h2,hC h2,rM,tst,hb,window,tC],fun i _ h=>by simp[upd,h]⟩
 ·have:=zZ.1 h2;subst cs;refine⟨upd st idE none,by simp[slA,oZ,AB,bnd,aI,h1,hE h1,rM,tst,hp,window,tE],fun i h _=>by simp[upd,h]⟩
 ·have hC':upd st idE none idC=some (.arr 1 (aI cs)):=by simp[upd,Ne.symm hne,hC h2]
  refine⟨upd (upd st idE none) idC none,by simp[slA,oZ,AB,bnd,h1,h2,hE h1,hC',rM,tst,hp,hb,window,tE,tC],fun i h h'=>by simp[upd,h,h']⟩
theorem GR.AOF {ok:Nat→Prop} {root:Nat} {p:Pn} {F:List Nat} {H:PL} {env env':Nat→AV} {st st':Store} {a:Act} {w wa:World} {ma:Mem} {u bq oq idE idC idK:Nat} {pre post us:List Value} {k t:Int} {es:List Ex} {cs:List Int} {ks:List Pn}
 (h:GR wi mi nt ok (ADP wi root p F H bq us wa ma) env st a w) (h1:us.take oq=pre) (h2:us.drop (oq+5)=post) (h3:pre.length=oq) (h4:us.length=oq+5+post.length)
 (hq:((bq,oq),Pn.mk k t es cs ks)∈H) (hbox:st 2=some (.box (gB pre [.int k, .int t,slA es.length idE 5,slA cs.length idC 1,slA ks.length idK 5] post)))
 (hE:es.length≠0→st idE=some (.tre 5 (Ex.aA es))) (hC:cs.length≠0→st idC=some (.arr 1 (aI cs))) (hK:ks.length≠0→st idK=some (.arr 5 (Pn.aA ks)))
 (hd:2<idE∧2<idC∧2<idK∧idE≠idC∧idE≠idK∧idC≠idK)
 (hst:∀ i blk,st' i=some blk→i<2∧st i=some blk∧fQ blk) (he:∀ t,env' t=.junk∨(env' t=env t∧(env t=.own 2 oq∨iX st' (env t)))) :
 ∃ F' H' us' b' cap vE vC m2,(((bq,oq),Pn.mk k t es cs ks)::H').Perm (H++kV b' 0 ks)∧us'=pre++([.int .i64 k, .int .i64 t,vE,vC,if ks.length=0 then .slice none 0 0 else .slice (some ⟨b',0,none⟩) ks.length cap]++post)∧(∀ v∈us',v.oneCell'=true)∧(∀ q∈H,q.1.1≠b') ∧
   GR wi mi nt (fun id=>id≤2) (ADP wi root p F' H' bq us' w m2) env' (upd st' 2 (some (.box (dO us')))) a w:=by
 obtain⟨⟨m,φ,hi,henv,hadv,hk,hr⟩,h6,h7⟩:=h;obtain⟨n2,e2⟩:=hr.own;obtain⟨hb2,hok2⟩:=bS hi e2 hbox;obtain⟨d1,d2,d3,d4,d5,d6⟩:=hd
 cases hok2 with
 | @box T _ vs hh hl hrc hm =>
  have hone:=hrc.one;obtain⟨vp,x,rfl,r1,r2⟩:=lF hrc;obtain⟨vr,vq,rfl,r3,r4⟩:=lF r2;obtain rfl:=(qK r1).symm;obtain rfl:=(qK r4).symm
  cases r3 with
  | cons a0 o0 r3 =>
  cases r3 with
  | cons a1 o1 r3 =>
  cases r3 with
  | @cons _ vE _ _ aE oE r3 =>
  cases r3 with
  | @cons _ vC _ _ aC oC r3 =>
  cases r3 with
  | @cons _ vK _ _ aK oK r3 =>
  cases r3
  obtain rfl:=a0.bX;obtain rfl:=a1.bX;obtain⟨st2,ha2,s2⟩:=ASP hE hC d4;obtain⟨FO,O,ab⟩:=l7 hi (.cons aE oE (.cons aC oC .nil)) ha2;obtain⟨FE,FC,hFO,tE,tC⟩:=ab.cells.split 1
  have hfree:∀ f∈FE++FC,wi.heap.size≤f∧f<w.heap.size∧(∀ o,m f o=none)∧(∃ (vs:List Value) (T:TypeId),w.heap[f]?=some (.cells vs.toArray T (0,0))∧∀ v∈vs,v.oneCell'=true)∧O f:=by
   intro f hf;rw[← hFO]at hf;obtain⟨y1,y2,id,b,n,blk,y3,y4,y5⟩:=ab.free f (ab.own f hf);exact⟨D7 hadv y4 y5,y2,y1,ab.cells.rows f hf,ab.own f hf⟩
  have hsub:∀ i blk,st2 i=some blk→st i=some blk:=fun i blk e=>(ab.less i blk e).1
  have i2:Inv w m φ st2:=hi.forget hsub;have hA:=hadv;have hm2:∀ o,m bq o=none:=hm;have hlit:BlkOk w m φ bq n2 (.box (dO (pre++([.int .i64 k, .int .i64 t,vE,vC,vK]++post)))):=.box hh hl (kD hone) hm2;have i3:=i2.AOH (by rw[s2 2 (by omega) (by omega)];exact hbox) e2 hlit;generalize hus:pre++([.int .i64 k, .int .i64 t,vE,vC,vK]++post)=us' at hh hl hone hlit i3
  have hst2:∀ i blk,upd st' 2 (some (.box (dO us'))) i=some blk→upd st2 2 (some (.box (dO us'))) i=some blk∧fQ blk:=by
   intro i blk hb;by_cases hid:i=2
   ·subst hid;simp[upd]at hb ⊢;refine⟨hb,?_⟩;subst hb;intro c hc;obtain⟨v,_,rfl⟩:=y7.1 hc;exact .inl ⟨v,rfl⟩
   ·simp[upd,hid]at hb ⊢;obtain⟨q1,q2,q3⟩:=hst i blk hb;exact⟨by rw[s2 i (by omega) (by omega)];exact q2,q3⟩
  have i4:=i3.cut hst2
  have hat:At5 w bq oq (.int .i64 k) (.int .i64 t) vE vC vK:=by
   have g:∀ (j:Nat) (v:Value),[Value.int .i64 k, .int .i64 t,vE,vC,vK][j]?=some v→w.cell? ⟨bq,oq+j,none⟩=some v:=by
    intro j v hj;have hj5:=(zW.1 hj).1;rw[bT hh,← hus,zA (by omega),h3,xQ,yV hj5];exact hj
   exact⟨g 0 _ rfl,g 1 _ rfl,g 2 _ rfl,g 3 _ rfl,g 4 _ rfl⟩
  have hHlt:∀ q∈H,q.1.1∈root::F:=fun q hq=>by
   rcases hr.th.holes q hq with e|e
   ·simp[e]
   ·simp[e]
  have hlt:∀ f∈root::F,f<w.heap.size:=fun f hf=>by
   by_cases hne:f=bq
   ·subst hne;exact(zG.1 hh).1
   ·exact(hr.oth f hf hne).2.1
  have hmon:=hr.le;have h22:=s2 2 (by omega) (by omega)
  have hG0:∀ f∈FE++FC,wi.heap.size≤f∧f<w.heap.size∧fJ (OL (upd st' 2 (some (.box (dO us')))) φ) f∧(∀ o,m f o=none)∧(∃ (vs:List Value) (T:TypeId),w.heap[f]?=some (.cells vs.toArray T (0,0))∧∀ v∈vs,v.oneCell'=true)∧f≠bq∧f ∉ root::F:=by
   intro f hf;obtain⟨y1,y2,y3,y4,y5⟩:=hfree f hf;have hfb:f≠bq:=fun e=>(ab.less 2 _ (h22.trans hbox)).2 _ _ e2 bq hb2.1 (e ▸ y5)
   refine⟨y1,y2,fun id r n e ho=>?_,y3,y4,hfb,fun hm'=>?_⟩
   ·obtain⟨z1,z2⟩:=iH e;by_cases hid:id=2
    ·subst hid;exact(ab.less 2 _ (h22.trans hbox)).2 _ _ z1 f ho y5
    ·simp[upd,hid]at z2
     cases hx:st' id with
     | none=>exact z2 hx
     | some blk =>
      obtain⟨u1,u2,_⟩:=hst id blk hx;exact(ab.less id blk ((s2 id (by omega) (by omega)).trans u2)).2 _ _ z1 f ho y5
   ·obtain⟨_,_,id,b,n,blk,x3,x4,x5⟩:=ab.free f y5;exact(hr.oth f hm' hfb).2.2.1 id b n x4 x5
  have hnd0:(FE++FC).Nodup:=hFO ▸ ab.nodup;have kE:KCells w [.isl (Ex.aA es)] [vE] FE:=by simpa using tE.toK
  have kC:KCells w [.isl (aI cs)] [vC] FC:=by simpa using tC.toK
  have hnil:(es=[]→vE=.slice none 0 0)∧(cs=[]→vC=.slice none 0 0):=by
   refine⟨fun h=>?_,fun h=>?_⟩
   ·subst h;simp only[slA,zI,if_true]at aE;cases aE;rfl
   ·subst h;simp only[slA,zI,if_true]at aC;cases aC;rfl
  obtain⟨b',cap,G,hvK,hTH,hG,hGn,hbn⟩:∃ b' cap G,vK=(if ks.length=0 then Value.slice none 0 0 else Value.slice (some ⟨b',0,none⟩) ks.length cap)∧TH w m (.mk k t es cs ks) bq oq G (kV b' 0 ks) ∧
   (∀ f∈G,wi.heap.size≤f∧f<w.heap.size∧fJ (OL (upd st' 2 (some (.box (dO us')))) φ) f∧(∀ o,m f o=none)∧(∃ (vs:List Value) (T:TypeId),w.heap[f]?=some (.cells vs.toArray T (0,0))∧∀ v∈vs,v.oneCell'=true)∧f≠bq∧f ∉ root::F)∧G.Nodup∧∀ q∈H,q.1.1≠b':=by
   by_cases h0:ks.length=0
   ·have hks:ks=[]:=zZ.1 h0;subst hks;simp only[slA,zI,if_true]at aK
    cases aK
    exact⟨w.heap.size,0,FE++FC,rfl, .leaf hat kE kC hnil,hG0,hnd0,fun q hq e=>by have:=hlt _ (hHlt q hq);omega⟩
   ·simp only[slA,h0,if_false]at aK
    cases aK with
    | @osl _ _ _ _ cap b' nK ao eK l1 l2 l3 l4 =>
     have hao:=l3 (by omega);subst hao;have hK2:st2 idK=some (.arr 5 (Pn.aA ks)):=by rw[s2 idK (by omega) (by omega)];exact hK h0
     obtain⟨hbK,hokK⟩:=bS i2 eK hK2
     cases hokK with
     | @arr TK _ _ vk q1 q2 q3 q4 q5 q6 q7 q8 q9 =>
      have hb'q:b'≠bq:=fun e=>by
       subst e;have:=hi.inj idK 2 b' b' nK n2 _ _ b' (hK h0) hbox eK e2 hbK.1 hb2.1;omega
      have hnF:b' ∉ root::F:=fun hm=>by
       exact(hr.oth b' hm hb'q).2.2.1 idK b' nK eK hbK.1
      have hb0:b' ∉ FE++FC:=fun hm'=>(ab.less idK _ hK2).2 _ _ eK b' hbK.1 (hfree b' hm').2.2.2.2
      refine⟨b',cap,FE++FC++(b'::[]),by simp[h0],?_,?_,?_,fun q hq e=>hnF (e ▸ hHlt q hq)⟩
      ·refine .node hat kE kC (fun e=>h0 (by rw[e];rfl)) (by omega) ?_ (by
        rw[bT q1];have:5*cap-1<vk.length:=by omega
        rw[zX this];rfl) hnil
       rw[Pn.aT]at q5
       exact I5 q5 fun j v hj=>by
        rw[zM,bT q1];rw[zH]at hj;split at hj
        ·exact hj
        ·cases hj
      rotate_left
      ·rw[zN];refine⟨hnd0,by simp,fun x hx y hy e=>?_⟩;simp at hy;subst hy;subst e;exact hb0 hx
      ·intro f hf
       rcases zV.1 hf with hf|hf
       ·exact hG0 f hf
       simp at hf;subst hf;refine⟨D7 hadv eK hbK.1,hbK.2 _ hbK.1,?_,q7,⟨vk,TK,q1,q9⟩,hb'q,hnF⟩;refine pV i3 hst2 (id:=idK) (blk:=.arr 5 (Pn.aA ks)) (by simp[upd,show idK≠2 by omega,hK2]) ?_ eK hbK.1;have:idK≠2:=by omega
       simp only[upd,this,if_false]
       cases hx:st' idK with
       | none=>rfl
       | some blk=>have:=(hst idK blk hx).1;omega
  obtain⟨T0,hrow0⟩:=hr.row
  have hsame:∀ f∈root::F,∀ j,(f≠bq∨j<oq∨oq+5≤j)→w.cell? ⟨f,j,none⟩=wa.cell? ⟨f,j,none⟩:=by
   intro f hf j hj;by_cases hne:f=bq
   ·subst hne;rw[bT hh,bT hrow0,← hus]
    rcases hj with hj|hj|hj
    ·exact absurd rfl hj
    ·rw[yV (by omega),← h1,zH];simp[hj]
    ·rw[zA (by omega),zA (by simp;omega),← h2,yM];simp only[zS,zI,h3];congr 1;omega
   ·exact jR (hr.oth f hf hne).2.2.2.2.1 j
  obtain⟨F1,H1,k1,k2,k3⟩:=TH.fill hmon hTH hr.th hr.nr hr.nd hq hsame;have hF1:∀ f,f∈F1↔f∈F∨f∈G:=fun f=>by rw[k2.mem_iff,zV]
  refine⟨F1,H1,us',b',cap,vE,vC,m,k3,by rw[← hus,hvK],hone,hbn,⟨⟨m,OL (upd st' 2 (some (.box (dO us')))) φ,i4,fun x=>?_,hA.cut,fun id hid=>?_,?_⟩,h6,h7⟩⟩
  ·rcases he x with e|⟨e,e'|e'⟩
   ·rw[e];exact .junk _
   ·rw[e,e'];have hx:=henv x;rw[e']at hx;generalize a.tmps.getD x undef=yy at hx ⊢
    cases hx with
    | own e3=>exact .own (by rw[vM (by simp[upd])];exact e3)
   ·rw[e];refine iX.rep e' (fun i hi'=>?_) (henv x);refine vM ?_;by_cases hid:i=2
    ·subst hid;simp[upd]
    ·simpa [upd,hid]using hi'
  ·cases hx:OL (upd st' 2 (some (.box (dO us')))) φ id with
   | none=>exact absurd hx hid
   | some q =>
    have:=(iH hx).2;by_cases hid2:id=2
    ·omega
    ·simp[upd,hid2]at this
     cases hy:st' id with
     | none=>exact absurd hy this
     | some blk=>have:=(hst id blk hy).1;omega
  ·refine⟨k1,fun hm=>?_,?_, .refl _,?_,⟨n2,by rw[vM (by simp[upd])];exact e2⟩,⟨T,hh⟩,hr.bqn,fun f hf hne=>?_⟩
   ·rcases(hF1 root).1 hm with h|h
    ·exact hr.nr h
    ·exact(hG root h).2.2.2.2.2.2 (by simp)
   ·rw[k2.nodup_iff];exact zN.2 ⟨hr.nd,hGn,fun x hx y hy e=>(hG y hy).2.2.2.2.2.2 (by rw[← e];simp[hx])⟩
   ·rcases zQ.1 hr.inF with e|e
    ·simp[e]
    ·simp[(hF1 bq).2 (.inl e)]
   ·have hf':f∈root::F∨f∈G:=by
     rcases zQ.1 hf with e|e
     ·exact .inl (by simp[e])
     ·rcases(hF1 f).1 e with e|e
      ·exact .inl (by simp[e])
      ·exact .inr e
    rcases hf' with hf'|hf'
    ·obtain⟨q1,q2,q3,q4,q5,vs,T',q6,q7⟩:=hr.oth f hf' hne;refine⟨q1,q2,q3.cut,fun o=>?_,rfl,vs,T',by rw[q5];exact q6,q7⟩;exact q4 o
    ·obtain⟨q1,q2,q3,q4,q5,_⟩:=hG f hf';exact⟨q1,q2,q3,q4,rfl,q5⟩
theorem GR.SE {ok:Nat→Prop} {root:Nat} {p:Pn} {F:List Nat} {H:PL} {env env':Nat→AV} {st st':Store} {a:Act} {w wa:World} {ma:Mem} {bq:Nat} {us:List Value}
 (h:GR wi mi nt ok (ADP wi root p F H bq us wa ma) env st a w) (hbox:st 2=some (.box (dO us)))
 (hst:∀ i blk,st' i=some blk→i≠2∧st i=some blk∧fQ blk) (he:∀ t,env' t=.junk∨(env' t=env t∧iX st' (env t))) :
 GR wi mi nt (fun id=>st' id≠none) (RAW wi root p F H) env' st' a w:=by
 obtain⟨⟨m,φ,hi,henv,hadv,hk,hr⟩,h6,h7⟩:=h;obtain⟨n2,e2⟩:=hr.own;obtain⟨hb2,hok2⟩:=bS hi e2 hbox;have hst2:∀ i blk,st' i=some blk→st i=some blk∧fQ blk:=fun i blk hb=>(hst i blk hb).2
 cases hok2 with
 | @box T _ vs hh hl hrc hm =>
  have hone:=hrc.one;obtain rfl:=(qK hrc).symm;obtain⟨T0,hrow0⟩:=hr.row
  have hcell:∀ f∈root::F,∀ j,w.cell? ⟨f,j,none⟩=wa.cell? ⟨f,j,none⟩:=by
   intro f hf j;by_cases hne:f=bq
   ·subst hne;rw[bT hh,bT hrow0]
   ·exact jR (hr.oth f hf hne).2.2.2.2.1 j
  refine⟨⟨m,OL st' φ,hi.cut hst2,fun x=>?_,hadv.cut,fun id hid=>?_,?_⟩,h6,h7⟩
  ·rcases he x with e|⟨e,e'⟩
   ·rw[e];exact .junk _
   ·rw[e];exact e'.rep (fun i hi'=>vM hi') (henv x)
  ·cases hx:OL st' φ id with
   | none=>exact absurd hx hid
   | some q=>exact(iH hx).2
  ·refine⟨hr.th.frame hr.le (fun j _ _=>hcell root (by simp) j) (fun f hf j=>hcell f (by simp[hf]) j),hr.nr,hr.nd,fun f hf=>?_⟩;by_cases hne:f=bq
   ·subst hne;refine⟨hr.bqn,(zG.1 hh).1,?_,hm,us,T,hh,hone⟩;refine pV hi hst2 hbox ?_ e2 hb2.1
    cases hx:st' 2 with
    | none=>rfl
    | some blk=>exact absurd rfl (hst 2 blk hx).1
   ·obtain⟨q1,q2,q3,q4,q5,vs',T',q6,q7⟩:=hr.oth f hf hne;exact⟨q1,q2,q3.cut,q4,vs',T',by rw[q5];exact q6,q7⟩
end
theorem M4 {m:Mem} {φ:Pl}:∀ {cs:List IV} {vs:List Value},RepC m φ (kQ cs) vs→ICells m cs vs
 | [],_, .nil=>.nil
 | c::cs,_, .cons a o b=>by
  cases a with
  | i a=>exact .cons a o (M4 b)
section
variable {wi:World} {mi:Mem} {nt:Nat}
theorem GR.ARW {ok:Nat→Prop} {R:World→Mem→Pl→Prop} {p:Pn} {env:Nat→AV} {st st':Store} {a:Act} {w:World} {u id:Nat} (h:GR wi mi nt ok R env st a w) (hu:env u=.own id 0) (hbox:st id=some (.box (kQ p.cells)))
 (hst:∀ i blk,st' i=some blk→i≠id∧st i=some blk∧fQ blk) :
 ∃ b3,∀ env',(∀ t,env' t=.junk∨(t=u∧env' t=.i (.lit (.pointer (some ⟨b3,0,none⟩))))∨(env' t=env t∧iX st' (env t)))→GR wi mi nt (fun i=>st' i≠none) (RAW wi b3 p [] [((b3,0),p)]) env' st' a w:=by
 obtain⟨⟨m,φ,hi,henv,hadv,hk,_⟩,h6,h7⟩:=h;have hr:=henv u;rw[hu]at hr;generalize hy:a.tmps.getD u undef=yy at hr
 cases hr with
 | @own _ _ b3 n3 e3 =>
  obtain⟨hb,hok⟩:=bS hi e3 hbox;have hst2:∀ i blk,st' i=some blk→st i=some blk∧fQ blk:=fun i blk hb=>(hst i blk hb).2
  cases hok with
  | @box T _ vs hh hl hrc hm =>
   have hc:=M4 hrc;have hlen:=hc.length;rw[Pn.cO]at hlen
   obtain⟨v0,v1,v2,v3,v4,rfl⟩:∃ v0 v1 v2 v3 v4,vs=[v0,v1,v2,v3,v4]:=by
    match vs,hlen with
    | [v0,v1,v2,v3,v4],_=>exact⟨v0,v1,v2,v3,v4,rfl⟩
   refine⟨b3,fun env' he=>⟨⟨m,OL st' φ,hi.cut hst2,fun t=>?_,hadv.cut,fun i hi'=>?_,?_⟩,h6,h7⟩⟩
   ·rcases he t with e|⟨rfl,e⟩|⟨e,e'⟩
    ·rw[e];exact .junk _
    ·rw[e,hy];exact .i (.lit _)
    ·rw[e];exact e'.rep (fun i hi'=>vM hi') (henv t)
   ·cases hx:OL st' φ i with
    | none=>exact absurd hx hi'
    | some q=>exact(iH hx).2
   ·refine⟨.fresh hc ⟨by rw[bT hh];rfl,by rw[bT hh];rfl,by rw[bT hh];rfl,by rw[bT hh];rfl,by rw[bT hh];rfl⟩,by simp,List.nodup_nil,fun f hf=>?_⟩;simp at hf;subst hf;refine⟨D7 hadv e3 hb.1,hb.2 _ hb.1,?_,hm,_,T,hh,hrc.one⟩;refine pV hi hst2 hbox ?_ e3 hb.1
    cases hx:st' id with
    | none=>rfl
    | some blk=>exact absurd rfl (hst id blk hx).1
theorem GR.fin {ok:Nat→Prop} {root:Nat} {p:Pn} {F:List Nat} {env:Nat→AV} {st:Store} {a:Act} {w:World} (h:GR wi mi nt ok (RAW wi root p F []) env st a w) (hst:∀ i blk,st i=some blk→fQ blk) {u:Nat} (hu:env u=.i (.lit (.pointer (some ⟨root,0,none⟩)))) {env':Nat→AV} (he:∀ t,env' t=.junk∨(t=u∧env' t=.i (.iref p.cells))∨(env' t=env t∧iX st (env t))) :
 GR wi mi nt ok (fun _ _ _=>True) env' st a w:=by
 classical
 obtain⟨⟨m,φ,hi,henv,hadv,hk,hr⟩,h6,h7⟩:=h
 let m':Mem:=fun f o=>if f∈root::F then w.cell? ⟨f,o,none⟩else m f o
 have hin:∀ f,f∈root::F→∀ o,m' f o=w.cell? ⟨f,o,none⟩:=fun f hf o=>by show(if f∈root::F then _ else _)=_;rw[if_pos hf]
 have hout:∀ f,f ∉ root::F→∀ o,m' f o=m f o:=fun f hf o=>by show(if f∈root::F then _ else _)=_;rw[if_neg hf]
 have hle:MLe m m':=fun f o v e=>by
  by_cases hf:f∈root::F
  ·rw[(hr.all f hf).2.2.2.1 o]at e;cases e
  ·rw[hout f hf];exact e
 have hmem:lW w m':=fun f o v e=>by
  by_cases hf:f∈root::F
  ·rw[hin f hf]at e;exact e
  ·rw[hout f hf]at e;exact hi.mem f o v e
 have hat:IAt m' root 0 p.cells:=hr.th.iat hle (fun j _ _=>hin root (by simp) j) (fun f hf j=>hin f (by simp[hf]) j);refine⟨⟨m',φ,⟨hmem,fun i blk hb=>?_,hi.inj,hi.low⟩,fun t=>?_,⟨hadv.size,hadv.os,hadv.tape,hadv.output,hadv.block,hadv.mle.trans hle,fun f hf hfr o=>?_,hadv.ple,hadv.pnew⟩,hk,trivial⟩,h6,h7⟩
 ·obtain⟨b,n,q1,q2,q3⟩:=hi.live i blk hb;refine⟨b,n,q1,q2,q3.OI (hst i blk hb) rfl fun o ho=>?_⟩;rw[hout b (fun hf=>(hr.all b hf).2.2.1 i b n q1 q2.1)];exact ho
 ·rcases he t with e|⟨rfl,e⟩|⟨e,e'⟩
  ·rw[e];exact .junk _
  ·have hx:=henv t;rw[hu]at hx;rw[e,hx.bX];exact .i (.iref hat)
  ·rw[e];exact e'.rep (fun _ _=>rfl) (henv t)
 ·rw[hout f (fun hf'=>by have:=(hr.all f hf').1;omega)];exact hadv.mnew f hf hfr o
theorem RAW.keep {root:Nat} {p:Pn} {F:List Nat} {H:PL} {w:World} {m:Mem} {φ:Pl} (ids:List Nat) (h:RAW wi root p F H w m φ):RAW wi root p F H w m (eG ids φ):=by
 refine⟨h.th,h.nr,h.nd,fun f hf=>?_⟩;obtain⟨k1,k2,k3,k4,k5⟩:=h.all f hf;refine⟨k1,k2,fun id r n e=>?_,k4,k5⟩;unfold eG at e
 cases hx:ids[id]? with
 | none=>rw[hx]at e;cases e
 | some j=>rw[hx]at e;exact k3 j r n e
theorem GR.settle {ok:Nat→Prop} {R:World→Mem→Pl→Prop} (hR:∀ w m φ ids,R w m φ→R w m (eG ids φ)) {env:Nat→AV} {st:Store} {a:Act} {w:World} (G:List Nat) (h:GR wi mi nt ok R env st a w) :
 GR wi mi nt (fun id=>id<(Av.settle G 0 env st).st.length) R (aW (Av.settle G 0 env st).env) (aV (Av.settle G 0 env st).st) a w:=by
 obtain⟨⟨m,φ,hi,henv,hadv,hok,hK⟩,hsz,hdf⟩:=h;unfold Av.settle rQ;generalize hids:gP st 0 (uH env G)=ids;have hd:ids.Nodup:=by rw[← hids];exact fM _ _ _
 refine⟨⟨m,eG ids φ,hi.keep hd,?_,hadv.keep (fun id h=>absurd rfl h) (fun j hj=>absurd hj (xH j)),?_,hR _ _ _ ids hK⟩,hsz,hdf⟩
 ·intro t
  have key:∀ G:List Nat,Rep m (eG ids φ) (aW (kM (gI ids) env G) t) (a.tmps.getD t undef):=by
   intro G
   induction G with
   | nil=>exact .junk _
   | cons u G ih =>
    simp only[kM,aW];by_cases e:t=u
    ·subst e;simp only[if_true];exact(henv t).ren (kF ids φ)
    ·simp only[e,if_false];exact ih
  exact key G
 ·intro id hne;simp only[fT];unfold eG at hne
  cases hx:ids[id]? with
  | none=>rw[hx]at hne;exact absurd rfl hne
  | some i=>exact(zW.1 hx).1
theorem GR.envTo {ok:Nat→Prop} {R:World→Mem→Pl→Prop} {env env':Nat→AV} {st:Store} {a:Act} {w:World} (h:GR wi mi nt ok R env st a w) (he:∀ t,env' t=.junk∨env' t=env t):GR wi mi nt ok R env' st a w:=by
 refine h.turn fun m φ h1 h2 h3 h4 h5=>⟨m,φ,h1,fun t=>?_,h3,h4,h5⟩
 rcases he t with e|e
 ·rw[e];exact .junk _
 ·rw[e];exact h2 t
theorem GR.ok' {ok ok':Nat→Prop} {R:World→Mem→Pl→Prop} {env:Nat→AV} {st:Store} {a:Act} {w:World} (h:GR wi mi nt ok R env st a w) (he:∀ id,ok id→ok' id):GR wi mi nt ok' R env st a w :=
 h.turn fun m φ h1 h2 h3 h4 h5=>⟨m,φ,h1,h2,h3,fun id hi=>he id (h4 id hi),h5⟩
theorem GR.AMC {C:Ctx} (hS:SoundOk C) {G:List Nat} {c:Code} {S:AS} {a:Act} {w:World} {R:World→Mem→Pl→Prop} (hR:AIO R) {PP:AExit→AS→Prop} (hc:codeOk nt c=true) (hx:∃ e S',eQ C G S.st.length c S=some (e,S')∧PP e S') (h:GR wi mi nt (fun id=>id<S.st.length) R (aW S.env) (aV S.st) a w) (hnr:bI c=true:=by rfl) :
 c.wp C.P (fun e' a' w'=>∃ e S',e'=jH e∧PP e S'∧GR wi mi nt (fun id=>id<S'.st.length) R (aW S'.env) (aV S'.st) a' w') a w:=by
 obtain⟨e,S',h1,h2⟩:=hx;refine wp_mono (GR.iA hS hR hc h1 h hnr) ?_;rintro e' a' w' ⟨rfl,hg⟩;exact⟨e,S',rfl,h2,hg⟩
end
@[simp] theorem wO (a:List Value):(dO a).length=a.length:=by simp[dO]
theorem NT {α:Type}:∀ (a b:List α) (n:Nat),dropE (a.length+n) (a++b)=dropE n b
 | [],b,n=>by simp
 | x::a,b,n=>by
  rw[zS,show a.length+1+n=(a.length+n)+1 by omega];exact NT a b n
theorem GL {α:Type}:∀ (a b:List α) (n:Nat) (xs:List α),splice (a++b) (a.length+n) xs=bnd (splice b n xs) fun l=>some (a++l)
 | [],b,n,xs=>by simp;cases splice b n xs<;>rfl
 | x::a,b,n,xs=>by
  rw[zS,show a.length+1+n=(a.length+n)+1 by omega];show bnd (splice (a++b) (a.length+n) xs) _=_;rw[GL a b n xs]
  cases splice b n xs<;>rfl
theorem K5 (pre post:List Value) (row:List AV) (j n:Nat):cut (gB pre row post) (pre.length+j) n=cut (row++dO post) j n:=by
 unfold cut gB;have:=NT (dO pre) (row++dO post) j;rw[wO]at this;rw[this]
theorem rP (pre post:List Value) (row:List AV) (j:Nat) (xs:List AV):splice (gB pre row post) (pre.length+j) xs=bnd (splice (row++dO post) j xs) fun l=>some (dO pre++l):=by
 unfold gB;have:=GL (dO pre) (row++dO post) j xs;rw[wO]at this;exact this
theorem sG (a:List Value):aY (dO a)=[]:=by
 induction a with
 | nil=>rfl
 | cons v a ih=>simpa [dO,aY,cZ]using ih
theorem uT (r:Nat→Option Nat) (a:List Value):uL r (dO a)=dO a:=by
 induction a with
 | nil=>rfl
 | cons v a ih=>simpa [dO,uL,ren]using ih
theorem I9 (a b:List AV):aY (a++b)=aY a++aY b:=by
 induction a with
 | nil=>rfl
 | cons c a ih=>simp[aY,ih]
theorem RA (r:Nat→Option Nat) (a b:List AV):uL r (a++b)=uL r a++uL r b:=by
 induction a with
 | nil=>rfl
 | cons c a ih=>simp[uL,ih]
theorem bA (pre post:List Value) (row:List AV):aY (gB pre row post)=aY row:=by
 simp[gB,I9,sG]
theorem bO (r:Nat→Option Nat) (pre post:List Value) (row:List AV):uL r (gB pre row post)=gB pre (uL r row) post:=by
 simp[gB,RA,uT]
section
variable (pre post:List Value) (a0 a1 a2 a3 a4 x:AV)
theorem API:cut (gB pre [a0,a1,a2,a3,a4] post) (pre.length+2) 1=some [a2]:=by rw[K5];rfl
theorem APH:cut (gB pre [a0,a1,a2,a3,a4] post) (pre.length+3) 1=some [a3]:=by rw[K5];rfl
theorem APG:cut (gB pre [a0,a1,a2,a3,a4] post) (pre.length+4) 1=some [a4]:=by rw[K5];rfl
theorem OX:splice (gB pre [a0,a1,a2,a3,a4] post) (pre.length+2) [x]=some (gB pre [a0,a1,x,a3,a4] post):=by rw[rP];rfl
theorem AC6:splice (gB pre [a0,a1,a2,a3,a4] post) (pre.length+3) [x]=some (gB pre [a0,a1,a2,x,a4] post):=by rw[rP];rfl
theorem LP:splice (gB pre [a0,a1,a2,a3,a4] post) (pre.length+4) [x]=some (gB pre [a0,a1,a2,a3,x] post):=by rw[rP];cases post<;>rfl
theorem AFZ:mO 1 (dropE (pre.length+2) (gB pre [a0,a1,a2,a3,a4] post))=some [a2]:=API pre post a0 a1 a2 a3 a4
theorem AN3:mO 1 (dropE (pre.length+3) (gB pre [a0,a1,a2,a3,a4] post))=some [a3]:=APH pre post a0 a1 a2 a3 a4
theorem TR:mO 1 (dropE (pre.length+4) (gB pre [a0,a1,a2,a3,a4] post))=some [a4]:=APG pre post a0 a1 a2 a3 a4
end
mutual
theorem TH.ASA {w:World} {m m':Mem} (hm:MLe m m') {x:Pn} {b o:Nat} {F:List Nat} {H:PL}:TH w m x b o F H→(∀ j,o≤j→j<o+5→m' b j=w.cell? ⟨b,j,none⟩)→(∀ f∈F,∀ j,m' f j=w.cell? ⟨f,j,none⟩)→IAt m' b o x.cells
 | .fresh h1 h2,hb,hF=>by
  refine IAt.mk o (h1.mono hm) fun j v hj=>?_
  rcases j with _|_|_|_|_|j
  ·simp at hj;subst hj;exact(hb _ (by omega) (by omega)).trans h2.c0
  ·simp at hj;subst hj;exact(hb _ (by omega) (by omega)).trans h2.c1
  ·simp at hj;subst hj;exact(hb _ (by omega) (by omega)).trans h2.c2
  ·simp at hj;subst hj;exact(hb _ (by omega) (by omega)).trans h2.c3
  ·simp at hj;subst hj;exact(hb _ (by omega) (by omega)).trans h2.c4
  ·simp at hj
 | .leaf h1 h2 h3 h4,hb,hF=>by
  rw[Pn.bD];exact .cons ((hb _ (by omega) (by omega)).trans h1.c0) (.lit _) rfl (.cons ((hb _ (by omega) (by omega)).trans h1.c1) (.lit _) rfl (.cons ((hb _ (by omega) (by omega)).trans h1.c2) (h2.rep fun f hf=>hF f (by simp[hf])) h2.one (.cons ((hb _ (by omega) (by omega)).trans h1.c3) (h3.rep fun f hf=>hF f (by simp[hf])) h3.one (.cons ((hb _ (by omega) (by omega)).trans h1.c4) (.isl0 _ _ fun _=>rfl) rfl (.nil _ _)))))
 | .node h1 h2 h3 h4 h5 h6 h7 h8,hb,hF=>by
  rename_i ks b' cap vE vC FE FC F;rw[Pn.bD];have he:=THL.AP5 hm h6 (fun j _ _=>hF b' (by simp) j) (fun f hf=>hF f (by simp[hf]));have hl:(Pn.aA ks).length=ks.length:=by simp
  have hn:Pn.aA ks≠[]:=fun e=>by rw[e]at hl;simp at hl;exact h4 (zZ.1 hl.symm)
  have hk:IRep m' (.isl (Pn.aA ks)) (.slice (some ⟨b',0,none⟩) ks.length cap):=by
   have:=IRep.isl (cap:=cap) hn he (by omega)
   rwa [hl]at this
  exact .cons ((hb _ (by omega) (by omega)).trans h1.c0) (.lit _) rfl (.cons ((hb _ (by omega) (by omega)).trans h1.c1) (.lit _) rfl (.cons ((hb _ (by omega) (by omega)).trans h1.c2) (h2.rep fun f hf=>hF f (by simp[hf])) h2.one (.cons ((hb _ (by omega) (by omega)).trans h1.c3) (h3.rep fun f hf=>hF f (by simp[hf])) h3.one (.cons ((hb _ (by omega) (by omega)).trans h1.c4) hk rfl (.nil _ _)))))
theorem THL.AP5 {w:World} {m m':Mem} (hm:MLe m m') {xs:List Pn} {b o:Nat} {F:List Nat} {H:PL}:THL w m xs b o F H→(∀ j,o≤j→j<o+5*xs.length→m' b j=w.cell? ⟨b,j,none⟩)→(∀ f∈F,∀ j,m' f j=w.cell? ⟨f,j,none⟩)→IElems m' b o 5 (Pn.aA xs)
 | .nil b o,hb,hF=>by simp only[Pn.aA];exact .nil b o 5
 | .cons h1 h2,hb,hF=>by
  simp only[Pn.aA];exact .cons (TH.ASA hm h1 (fun j l1 l2=>hb j l1 (by simp only[zS];omega)) (fun f hf=>hF f (by simp[hf]))) (Pn.cO _) (THL.AP5 hm h2 (fun j l1 l2=>hb j (by omega) (by simp only[zS];omega)) (fun f hf=>hF f (by simp[hf])))
end
theorem THL.nth {w:World} {m:Mem} {b:Nat}:∀ {xs:List Pn} {o:Nat} {F:List Nat} {i:Nat} {x:Pn},THL w m xs b o F []→xs[i]?=some x →
 ∃ Fa Fi Fz,F=Fa++(Fi++Fz)∧TH w m x b (o+5*i) Fi []∧∀ {w':World} {m':Mem} {y:Pn} {G:List Nat} {HY:PL},MLe m m'→(∀ j,o≤j→j<o+5*xs.length→(j<o+5*i∨o+5*i+5≤j)→w'.cell? ⟨b,j,none⟩=w.cell? ⟨b,j,none⟩) →
   (∀ f∈Fa++Fz,∀ j,w'.cell? ⟨f,j,none⟩=w.cell? ⟨f,j,none⟩)→TH w' m' y b (o+5*i) G HY→THL w' m' (xs.set i y) b o (Fa++(G++Fz)) HY:=by
 intro xs
 induction xs with
 | nil=>intro o F i x _ h;simp at h
 | cons a xs ih =>
  intro o F i x h hx;generalize hH:([]:PL)=H at h
  cases h with
  | @cons _ _ _ _ F1 F2 H1 H2 h1 h2 =>
   obtain⟨rfl,rfl⟩:=zA8.1 hH.symm
   cases i with
   | zero =>
    simp at hx;subst hx;refine⟨[],F1,F2,by simp,by simpa using h1,fun {w' m' y G HY} hm hw hF hy=>?_⟩;have k2:=THL.frame hm (fun j l1 l2=>hw j (by omega) (by simp only[zS];omega) (.inr (by omega))) (fun f hf=>hF f (by simp[hf])) h2;have:=THL.cons hy k2;simpa using this
   | succ i =>
    obtain⟨Fa,Fi,Fz,e,h3,h4⟩:=ih h2 (by simpa using hx);subst e;refine⟨F1++Fa,Fi,Fz,by simp,by rw[show o+5*(i+1)=o+5+5*i by omega];exact h3,fun {w' m' y G HY} hm hw hF hy=>?_⟩;rw[show o+5*(i+1)=o+5+5*i by omega]at hy;have k1:=TH.frame hm (fun j l1 l2=>hw j l1 (by simp only[zS];omega) (.inl (by omega))) (fun f hf=>hF f (by simp[hf])) h1;have k2:=h4 hm (fun j l1 l2 l3=>hw j (by omega) (by simp only[zS];omega) (by omega)) (fun f hf=>hF f (by rcases zV.1 hf with h|h<;>simp[h])) hy;have:=THL.cons k1 k2;simpa using this
theorem ACF {path:List Int} {x y z:Pn} {i:Nat} (h:Pn.at path x=some y):Pn.put (path++[(i:Int)]) x z=Pn.put path x (.mk y.kind y.table y.exprs y.cols (y.kids.set i z)):=by
 induction path generalizing x with
 | nil =>
  simp only[Pn.at,Option.some.injEq]at h;subst h
  cases hk:x.kids[i]? with
  | none =>
   have:x.kids.length≤i:=by simpa using hk
   simp[Pn.put,hk,List.set_eq_of_length_le this,Pn.eta]
  | some k=>simp[Pn.put,hk]
 | cons j path ih =>
  simp only[Pn.at]at h;split at h
  ·rename_i h0
   cases hk:x.kids[j.toNat]? with
   | none=>rw[hk]at h;cases h
   | some k =>
    rw[hk]at h;have:=ih h;simp[Pn.put,hk,this]
  ·cases h
structure AtP (w:World) (m:Mem) (x:Pn) (b o:Nat) (F:List Nat) (path:List Int) (y:Pn) (bq oq:Nat) (Fa Fy Fz:List Nat):Prop where
 eq:F=Fa++(Fy++Fz)
 inb:bq∈b::Fa
 nr:b ∉ F
 nd:F.Nodup
 is:Pn.at path x=some y
 th:TH w m y bq oq Fy []
 fill:∀ {w':World} {m':Mem} {y':Pn} {G:List Nat} {HY:PL},MLe m m'→(∀ f∈b::(Fa++Fz),∀ j,(f≠bq∨j<oq∨oq+5≤j)→w'.cell? ⟨f,j,none⟩=w.cell? ⟨f,j,none⟩)→TH w' m' y' bq oq G HY→TH w' m' (Pn.put path x y') b o (Fa++(G++Fz)) HY
theorem AtP.start {w:World} {m:Mem} {x:Pn} {b o:Nat} {F:List Nat} (h:TH w m x b o F []) (hr:b ∉ F) (hn:F.Nodup):AtP w m x b o F [] x b o [] F [] :=
 ⟨by simp,by simp,hr,hn,rfl,h,fun _ _ hy=>by simpa [Pn.put]using hy⟩
theorem AtP.mem {w:World} {m:Mem} {x:Pn} {b o:Nat} {F:List Nat} {path:List Int} {y:Pn} {bq oq:Nat} {Fa Fy Fz:List Nat} (h:AtP w m x b o F path y bq oq Fa Fy Fz):bq∈b::F:=by
 rw[h.eq]
 rcases zQ.1 h.inb with e|e
 ·simp[e]
 ·simp[e]
theorem AtP.frame {w w':World} {m m':Mem} {x:Pn} {b o:Nat} {F:List Nat} {path:List Int} {y:Pn} {bq oq:Nat} {Fa Fy Fz:List Nat} (h:AtP w m x b o F path y bq oq Fa Fy Fz) (hm:MLe m m') (hF:∀ f∈b::F,∀ j,w'.cell? ⟨f,j,none⟩=w.cell? ⟨f,j,none⟩):AtP w' m' x b o F path y bq oq Fa Fy Fz:=by
 refine⟨h.eq,h.inb,h.nr,h.nd,h.is,h.th.frame hm (fun j _ _=>hF bq h.mem j) (fun f hf j=>hF f (by rw[h.eq];simp[hf]) j),fun hm' hw hy=>h.fill (hm.trans hm') (fun f hf j hj=>?_) hy⟩;rw[hw f hf j hj];refine hF f ?_ j;rw[h.eq]
 rcases zQ.1 hf with e|e
 ·simp[e]
 ·rcases zV.1 e with e|e<;>simp[e]
theorem AtP.step {w:World} {m:Mem} {x:Pn} {b o:Nat} {F:List Nat} {path:List Int} {y z:Pn} {bq oq:Nat} {Fa Fy Fz:List Nat} {i:Nat} (h:AtP w m x b o F path y bq oq Fa Fy Fz) (hz:y.kids[i]?=some z) :
 ∃ b' cap,w.cell? ⟨bq,oq+4,none⟩=some (.slice (some ⟨b',0,none⟩) y.kids.length cap)∧y.kids.length≤cap∧∃ Fa' Fy' Fz',AtP w m x b o F (path++[(i:Int)]) z b' (5*i) Fa' Fy' Fz':=by
 have ht:=h.th;have hFq:=h.eq;generalize hH:([]:PL)=H at ht
 cases ht with
 | fresh=>cases hH
 | leaf h1 h2 h3 h4=>simp[Pn.kids]at hz
 | @node k t es cs ks _ _ b' cap vE vC FE FC F1 _ h1 h2 h3 h4 h5 h6 h7 h8 =>
  subst hH;have hz:ks[i]?=some z:=hz;obtain⟨Ga,Gi,Gz,e,t1,t2⟩:=h6.nth hz;subst e;have hnd:=h.nd;rw[hFq]at hnd;have hnr:=h.nr;rw[hFq]at hnr
  have hne:bq≠b':=by
   intro e
   rcases zQ.1 h.inb with e'|e'
   ·exact hnr (by rw[← e',e];simp)
   ·rw[zN]at hnd;exact hnd.2.2 _ e' b' (by simp) e
  have hb1:FE++FC++(b'::(Ga++(Gi++Gz))++Fz) |>.Nodup:=by
   have hb:=(zN.1 hnd).2.1
   rwa [yS (FE++FC)]at hb
  have hdis:∀ f∈FE++FC,f≠b':=fun f hf=>(zN.1 hb1).2.2 f hf b' (by simp)
  have hb2:=(zN.1 hb1).2.1;simp only[yT,z8]at hb2;refine⟨b',cap,h1.c4,h5,Fa++(FE++FC++(b'::Ga)),Gi,Gz++Fz,by rw[hFq];simp,by simp,h.nr,h.nd,?_,by simpa using t1,fun {w' m' y' G HY} hm hw hy=>?_⟩
  ·rw[O9 path x _ [(i:Int)] h.is];simp[Pn.at,Pn.kids,hz]
  ·rw[ACF h.is]
   have hK:THL w' m' (ks.set i y') b' 0 (Ga++(G++Gz)) HY:=by
    refine t2 hm (fun j _ _ hj=>hw b' (by simp) j (.inr (by omega))) (fun f hf j=>hw f (by rcases zV.1 hf with e|e<;>simp[e]) j (.inl ?_)) (by simpa using hy);intro e;subst e;exact hb2.1 (by rcases zV.1 hf with e|e<;>simp[e])
   have hlen:(ks.set i y').length=ks.length:=by simp
   have hn:ks.set i y'≠[]:=fun e=>by rw[e]at hlen;simp at hlen;exact h4 (zZ.1 hlen.symm)
   have hbq:bq∈b::((Fa++(FE++FC++(b'::Ga)))++(Gz++Fz)):=by
    rcases zQ.1 h.inb with e'|e'
    ·simp[e']
    ·simp[e']
   have hA:=h1.frame (w':=w') (fun j l1 l2=>hw bq hbq j (.inl hne));rw[← hlen]at hA
   have hY:TH w' m' (.mk k t es cs (ks.set i y')) bq oq (FE++FC++(b'::(Ga++(G++Gz)))) HY :=
    .node hA (h2.frame fun f hf j=>hw f (by simp[hf]) j (.inl (hdis f (by simp[hf])))) (h3.frame fun f hf j=>hw f (by simp[hf]) j (.inl (hdis f (by simp[hf])))) hn (by rw[hlen];exact h5) hK (by
     by_cases hj:5*cap-1<5*i∨5*i+5≤5*cap-1
     ·rw[hw b' (by simp) _ (.inr hj)];exact h7
     ·obtain⟨d,hd,e⟩:∃ d,d<5∧5*cap-1=5*i+d:=⟨5*cap-1-5*i,by omega,by omega⟩
      rw[e];exact hy.at5 d hd) h8
   have:=h.fill hm (fun f hf j hj=>hw f (by
    rcases zQ.1 hf with e|e
    ·simp[e]
    ·rcases zV.1 e with e|e<;>simp[e]) j (by
    by_cases e:f=b'
    ·subst e;exfalso
     rcases zQ.1 hf with e|e
     ·exact hnr (by rw[← e];simp)
     ·rcases zV.1 e with e|e
      ·exact(zN.1 hnd).2.2 _ e f (by simp) rfl
      ·exact hb2.1 (by simp[e])
    ·exact .inl e)) hY
   simpa [Pn.kind,Pn.table,Pn.exprs,Pn.cols,Pn.kids]using this
def AIN:Blk→Prop
 | .box cs=>∀ c∈cs,(∃ v,c=.i v)∨c=.nils
 | .loop _ _ _=>False
 | _=>True
theorem RepC.tree {m:Mem} {φ φ':Pl}:∀ {cs:List AV} {vs:List Value},(∀ c∈cs,(∃ v,c=.i v)∨c=.nils)→RepC m φ cs vs→RepC m φ' cs vs
 | [],_,_, .nil=>.nil
 | c::cs,_,h, .cons a o r=>by
  have hr:=RepC.tree (m:=m) (φ':=φ') (fun d hd=>h d (by simp[hd])) r
  rcases h c (by simp)with ⟨v,rfl⟩|rfl
  ·cases a with|i a=>exact .cons (.i a) o hr
  ·cases a;exact .cons .nils o hr
theorem BlkOk.tree {w:World} {m:Mem} {φ φ':Pl} {b:Nat} {n:Ext} {blk:Blk} (hl:AIN blk) (h:BlkOk w m φ b n blk):BlkOk w m φ' b n blk:=by
 cases h with
 | box h1 h2 h3 h4=>exact .box h1 h2 (h3.tree hl) h4
 | arr h1 h2 h3 h4 h5 h6 h7 h8 h9=>exact .arr h1 h2 h3 h4 h5 h6 h7 h8 h9
 | frz h1 h2=>exact .frz h1 h2
 | fbox h1=>exact .fbox h1
 | tre h1 h2 h3 h4 h5 h6 h7 h8 h9 h10=>exact .tre h1 h2 h3 h4 h5 h6 h7 h8 h9 h10
 | loop=>cases hl
def AB3 (st':Store):AV→Prop
 | .i _=>True
 | .own id _=>st' id≠none
 | .osl id _ _ _=>st' id≠none
 | .nils=>True
 | _=>False
theorem AB3.rep {m:Mem} {φ φ':Pl} {st':Store} {v:AV} {x:Value} (h:AB3 st' v) (he:∀ i,st' i≠none→φ' i=φ i) (hr:Rep m φ v x):Rep m φ' v x:=by
 unfold AB3 at h;split at h
 ·cases hr with|i k=>exact .i k
 ·cases hr with
  | own e=>exact .own (by rw[he _ h];exact e)
 ·cases hr with
  | osl e a b c d=>exact .osl (by rw[he _ h];exact e) a b c d
 ·cases hr;exact .nils
 ·cases h
structure CPY (wi:World) (p:Pn) (F:List Nat) (v0 v1 v2 v3 v4:Value) (w:World) (m:Mem) (φ:Pl):Prop where
 th:∀ {w':World} {m':Mem} {b o:Nat},MLe m m'→(∀ f∈F,∀ j,w'.cell? ⟨f,j,none⟩=w.cell? ⟨f,j,none⟩)→At5 w' b o v0 v1 v2 v3 v4→TH w' m' p b o F []
 cells:∀ {m':Mem},MLe m m'→(∀ f∈F,∀ j,m' f j=w.cell? ⟨f,j,none⟩)→ICells m' p.cells [v0,v1,v2,v3,v4]
 nd:F.Nodup
 all:∀ f∈F,wi.heap.size≤f∧f<w.heap.size∧fJ φ f∧(∀ o,m f o=none)∧∃ (vs:List Value) (T:TypeId),w.heap[f]?=some (.cells vs.toArray T (0,0))∧∀ v∈vs,v.oneCell'=true
 kc:KCells w p.cells [v0,v1,v2,v3,v4] F∧(p.exprs=[]→v2=.slice none 0 0)∧(p.cols=[]→v3=.slice none 0 0)∧(p.kids=[]→v4=.slice none 0 0)
theorem CPY.ABD (wi:World) (p:Pn) (F:List Nat) (v0 v1 v2 v3 v4:Value):AIO (CPY wi p F v0 v1 v2 v3 v4):=by
 intro w m φ w' m' φ' ha h;have hs:∀ f∈F,w'.heap[f]?=w.heap[f]?:=fun f hf=>ha.block f (h.all f hf).2.1 (h.all f hf).2.2.1
 refine⟨fun hm hw h5=>h.th (ha.mle.trans hm) (fun f hf j=>(hw f hf j).trans (jR (hs f hf) j)) h5,fun hm hw=>h.cells (ha.mle.trans hm) fun f hf j=>(hw f hf j).trans (jR (hs f hf) j),h.nd,fun f hf=>?_,h.kc.1.frame fun f hf j=>jR (hs f hf) j,h.kc.2⟩;obtain⟨k1,k2,k3,k4,vs,T,k5,k6⟩:=h.all f hf;exact⟨k1,yZ k2 ha.size,ha.range k2 k3,fun o=>(ha.mnew f k2 k3 o).trans (k4 o),vs,T,by rw[hs f hf];exact k5,k6⟩
theorem TH.cells {w:World} {m:Mem} {x:Pn} {b o:Nat} {F:List Nat} (h:TH w m x b o F []):∃ v0 v1 v2 v3 v4,At5 w b o v0 v1 v2 v3 v4∧(∀ v∈[v0,v1,v2,v3,v4],v.oneCell'=true)∧(∃ ao cap,v4=.slice ao x.kids.length cap)∧(∀ {w':World} {m':Mem} {b' o':Nat},MLe m m'→(∀ f∈F,∀ j,w'.cell? ⟨f,j,none⟩=w.cell? ⟨f,j,none⟩)→At5 w' b' o' v0 v1 v2 v3 v4→TH w' m' x b' o' F []) ∧
 ∀ {m':Mem},MLe m m'→(∀ f∈F,∀ j,m' f j=w.cell? ⟨f,j,none⟩)→ICells m' x.cells [v0,v1,v2,v3,v4]:=by
 generalize hH:([]:PL)=H at h
 cases h with
 | fresh=>cases hH
 | leaf h1 h2 h3 h4 =>
  refine⟨_,_,_,_,_,h1,(by intro v hv;simp only[zQ,List.not_mem_nil,or_false]at hv;rcases hv with rfl|rfl|rfl|rfl|rfl<;>first|rfl|exact h2.one|exact h3.one),⟨_,_,rfl⟩,fun hm hF h5=>.leaf h5 (h2.frame fun f hf=>hF f (by simp[hf])) (h3.frame fun f hf=>hF f (by simp[hf])) h4,fun hm hF=>?_⟩;rw[Pn.bD];exact .cons (.lit _) rfl (.cons (.lit _) rfl (.cons (h2.rep fun f hf=>hF f (by simp[hf])) h2.one (.cons (h3.rep fun f hf=>hF f (by simp[hf])) h3.one (.cons (.isl0 _ _ fun _=>rfl) rfl .nil))))
 | @node k t es cs ks _ _ b' cap vE vC FE FC F1 _ h1 h2 h3 h4 h5 h6 h7 h8 =>
  subst hH;refine⟨_,_,_,_,_,h1,(by intro v hv;simp only[zQ,List.not_mem_nil,or_false]at hv;rcases hv with rfl|rfl|rfl|rfl|rfl<;>first|rfl|exact h2.one|exact h3.one),⟨_,_,rfl⟩,fun hm hF k5=>.node k5 (h2.frame fun f hf=>hF f (by simp[hf])) (h3.frame fun f hf=>hF f (by simp[hf])) h4 h5 (h6.frame hm (fun j _ _=>hF _ (by simp) j) fun f hf=>hF f (by simp[hf])) (by rw[hF _ (by simp)];exact h7) h8,fun hm hF=>?_⟩;rw[Pn.bD];have he:=THL.AP5 hm h6 (fun j _ _=>hF b' (by simp) j) (fun f hf=>hF f (by simp[hf]));have hl:(Pn.aA ks).length=ks.length:=by simp
  have hn:Pn.aA ks≠[]:=fun e=>by rw[e]at hl;simp at hl;exact h4 (zZ.1 hl.symm)
  have hk:=IRep.isl (cap:=cap) hn he (by omega);rw[hl]at hk;exact .cons (.lit _) rfl (.cons (.lit _) rfl (.cons (h2.rep fun f hf=>hF f (by simp[hf])) h2.one (.cons (h3.rep fun f hf=>hF f (by simp[hf])) h3.one (.cons hk rfl .nil))))
structure RAT (wi:World) (root:Nat) (p:Pn) (F:List Nat) (path:List Int) (y:Pn) (bq oq:Nat) (Fa Fy Fz:List Nat) (w:World) (m:Mem) (φ:Pl):Prop where
 raw:RAW wi root p F [] w m φ
 pos:AtP w m p root 0 F path y bq oq Fa Fy Fz
structure ADK (wi:World) (root:Nat) (p:Pn) (F:List Nat) (path:List Int) (y:Pn) (bq oq:Nat) (Fa Fy Fz:List Nat) (k:Nat) (wa:World) (ma:Mem) (w:World) (m:Mem) (φ:Pl):Prop where
 pos:AtP wa ma p root 0 F path y bq oq Fa Fy Fz
 le:MLe ma m
 own:∃ n,φ k=some (bq,n)
 bqn:wi.heap.size≤bq
 oth:∀ f∈root::F,f≠bq→wi.heap.size≤f∧f<w.heap.size∧fJ φ f∧(∀ o,m f o=none)∧w.heap[f]?=wa.heap[f]?∧∃ (vs:List Value) (T:TypeId),wa.heap[f]?=some (.cells vs.toArray T (0,0))∧∀ v∈vs,v.oneCell'=true
def vS (wi:World) (mi:Mem) (p:Pn) (e:Ending) (w:World):Prop :=
 ∃ v0 v1 v2 v3 v4 F m,e=.returned (.agg #[v0,v1,v2,v3,v4])∧(∀ v∈[v0,v1,v2,v3,v4],v.oneCell'=true)∧lW w m∧Adv wi mi (fun _=>none) w m (fun _=>none)∧CPY wi p F v0 v1 v2 v3 v4 w m (fun _=>none)
theorem vS.tree {wi:World} {mi:Mem} {p:Pn} {e:Ending} {w:World} (h:vS wi mi p e w):bR wi mi (fun _=>none) (.i (.agg p.cells)) [] e w:=by
 classical
 obtain⟨v0,v1,v2,v3,v4,F,m,rfl,hone,hm,ha,hc⟩:=h
 let m':Mem:=fun f o=>if f∈F then w.cell? ⟨f,o,none⟩else m f o
 have hin:∀ f,f∈F→∀ o,m' f o=w.cell? ⟨f,o,none⟩:=fun f hf o=>by show(if f∈F then _ else _)=_;rw[if_pos hf]
 have hout:∀ f,f ∉ F→∀ o,m' f o=m f o:=fun f hf o=>by show(if f∈F then _ else _)=_;rw[if_neg hf]
 have hle:MLe m m':=fun f o v e=>by
  by_cases hf:f∈F
  ·rw[(hc.all f hf).2.2.2.1 o]at e;cases e
  ·rw[hout f hf];exact e
 have hmem:lW w m':=fun f o v e=>by
  by_cases hf:f∈F
  ·rw[hin f hf]at e;exact e
  ·rw[hout f hf]at e;exact hm f o v e
 refine⟨_,m',fun _=>none,rfl, .i (.agg (hc.cells hle hin)),⟨hmem,fun id blk e=>by simp[aV]at e,fun id id' b b' n n' blk blk' f e=>by simp[aV]at e,fun _ _ _ _ e=>by cases e⟩,⟨ha.size,ha.os,ha.tape,ha.output,ha.block,ha.mle.trans hle,fun f hf hfr o=>?_, .refl _,fun _ _ _ _ e=>by cases e⟩,fun id h=>absurd rfl h⟩;rw[hout f (fun hf'=>by have:=(hc.all f hf').1;omega)];exact ha.mnew f hf hfr o
section
variable {C:Ctx} {wi:World} {mi:Mem} {nt:Nat}
theorem GR.ops (hS:SoundOk C) {ops:Array Oper} {Q:Exit→Act→World→Prop} {base:Nat} {js:List Nat} {R:World→Mem→Pl→Prop} (hR:AIO R) (hs:ops.all (iT nt)=true) {os:List Oper} {i:Nat} {R0 R1:RS} {a:Act} {w:World} (hl:∀ j,j<os.length→os[j]?=ops[i+j]?) (hx:dF C (aH C) ops.toList false base os i R0=some R1)
 (h:GR wi mi nt (H9 base fun j=>j<i) R R0.env R0.st a w) (hQ:∀ a' w',GR wi mi nt (H9 base fun j=>j<i+os.length) R R1.env R1.st a' w'→wpOpsIn (FR none) 0 C.P ops Q js a' w'):wpOpsIn (FR none) 0 C.P ops Q (List.range' i os.length++js) a w:=by
 obtain⟨⟨m,φ,h1,h2,h3,h4,h5⟩,h6,h7⟩:=h;refine jD hS.ctx (aZ hS) (fun o ho=>yG.1 hs o ho) os i R0 R1 a w hl hx ⟨⟨m,φ,h1,h2, .refl _ _ _,h4, .nil _ _ _⟩,h6,h7⟩ fun a' w' k=>hQ a' w' ?_
 obtain⟨⟨m',φ',k1,k2,k3,k4,_⟩,k5,k6⟩:=k;exact⟨⟨m',φ',k1,k2,h3.trans k3,k4,hR _ _ _ _ _ _ k3 h5⟩,k5,k6⟩
theorem GR.put {ok:Nat→Prop} {R:World→Mem→Pl→Prop} {env:Nat→AV} {st:Store} {a:Act} {w:World} {d:Nat} {x:AV} {v:Value} (hd:d<nt) (h:GR wi mi nt ok R env st a w) (hr:∀ m φ,R w m φ→Rep m φ x v):GR wi mi nt ok R (upd env d x) st (a.put (some d) v) w:=by
 obtain⟨⟨m,φ,hi,henv,hadv,hok,hK⟩,hsz,hdf⟩:=h;exact⟨⟨m,φ,hi,JH (dst:=some d) henv hsz (by simpa [ADC]using hd) (hr m φ hK),hadv,hok,hK⟩,by rw[JF];exact hsz,by rw[rT];exact hdf⟩
theorem GR.AMO {ok:Nat→Prop} {root:Nat} {p:Pn} {F:List Nat} {env:Nat→AV} {st:Store} {a:Act} {w:World} {u k:Nat} (h:GR wi mi nt ok (RAW wi root p F []) env st a w) (hu:env u=.i (.lit (.pointer (some ⟨root,0,none⟩)))) (hk:st k=none) (hok:¬ ok k) :
 ∃ v0 v1 v2 v3 v4 post,(∀ v∈[v0,v1,v2,v3,v4],v.oneCell'=true)∧∀ env',(∀ t,env' t=.junk∨(t=u∧env' t=.own k 0)∨env' t=env t) →
   GR wi mi nt (fun id=>ok id∨id=k) (CPY wi p F v0 v1 v2 v3 v4) env' (upd st k (some (.box (dO [v0,v1,v2,v3,v4]++dO post)))) a w:=by
 obtain⟨⟨m,φ,hi,henv,hadv,hid,hr⟩,h6,h7⟩:=h;obtain⟨k1,k2,k3,k4,us,T,k5,k6⟩:=hr.all root (by simp);obtain⟨v0,v1,v2,v3,v4,h5,_,_,hth,hce⟩:=hr.th.cells;obtain⟨_,_,_,_,_,g5,gk,gn⟩:=hr.th.kc fun f hf=>(hr.all f (by simp[hf])).2.2.2.2
 obtain⟨rfl,rfl,rfl,rfl,rfl⟩:=h5.uniq g5;have gc:∀ {o:Nat} {v:Value},w.cell? ⟨root,o,none⟩=some v→us[o]?=some v:=fun h=>by rwa [bT k5]at h
 have hrow:=QZ (gc h5.c0) (gc h5.c1) (gc h5.c2) (gc h5.c3) (gc h5.c4);simp only[List.take_zero,yO,zM]at hrow
 have hφk:φ k=none:=by
  cases e:φ k with
  | none=>rfl
  | some q=>exact absurd (hid k (by rw[e];simp)) hok
 refine⟨v0,v1,v2,v3,v4,us.drop 5,fun v hv=>k6 v (by rw[hrow];exact yN _ hv),fun env' he=>?_⟩
 have hrep:RepC m (upd φ k (some (root,one root us.length))) (dO [v0,v1,v2,v3,v4]++dO (us.drop 5)) us:=by
  have h1:=kD (m:=m) (φ:=upd φ k (some (root,one root us.length))) (vs:=us) k6
  have:dO us=dO [v0,v1,v2,v3,v4]++dO (us.drop 5):=by
   conv=>lhs;rw[hrow]
   simp[dO]
  rwa [this]at h1
 have hp:PLe φ (upd φ k (some (root,one root us.length))):=fun i r n e=>by
  refine⟨n,?_,rfl,fun _ h=>h⟩;have:i≠k:=fun h=>by rw[h,hφk]at e;cases e
  simp[upd,this,e]
 refine⟨⟨m,upd φ k (some (root,one root us.length)),hi.QO hk hφk k3 k4 k5 hrep,fun t=>?_,hadv.QO k1,fun id hne=>?_,?_⟩,h6,h7⟩
 ·rcases he t with e|⟨rfl,e⟩|e
  ·rw[e];exact .junk _
  ·have:=henv t;rw[hu]at this;rw[e,this.bX];exact .own (n:=one root us.length) (by simp[upd])
  ·rw[e];exact(henv t).mono (.refl _) hp
 ·by_cases e:id=k
  ·exact .inr e
  ·simp[upd,e]at hne;exact .inl (hid id hne)
 ·refine⟨hth,hce,hr.nd,fun f hf=>?_,gk,gn⟩;obtain⟨q1,q2,q3,q4,q5⟩:=hr.all f (by simp[hf]);refine⟨q1,q2,fun i r n e ho=>?_,q4,q5⟩;by_cases e2:i=k
  ·subst e2;simp[upd]at e;obtain⟨rfl,rfl⟩:=e;have:f=root:=ho;exact hr.nr (this ▸ hf)
  ·simp[upd,e2]at e;exact q3 i r n e ho
end
theorem DW:∀ {l m:List Int},aI l=aI m→l=m:=by
 intro l
 induction l with
 | nil=>intro m h;cases m with
  | nil=>rfl
  | cons b m=>simp[aI]at h
 | cons a l ih=>intro m h;cases m with
  | nil=>simp[aI]at h
  | cons b m =>
   simp only[aI,List.cons.injEq]at h;rw[show a=b by simpa using h.1,ih h.2]
theorem Ex.IR:∀ (a b:Ex),a.cells=b.cells→a=b:=by
 intro a
 induction a using Ex.ind with
 | h k c v ks ih =>
  intro b h;obtain⟨k',c',v',ks'⟩:=b
  have key:∀ {l m:List Ex},(∀ a∈l,∀ b,a.cells=b.cells→a=b)→Ex.aA l=Ex.aA m→l=m:=by
   intro l
   induction l with
   | nil=>intro m _ h;cases m with
    | nil=>rfl
    | cons b m=>simp[Ex.aA]at h
   | cons a l ihl=>intro m hi h;cases m with
    | nil=>simp[Ex.aA]at h
    | cons b m =>
     simp only[Ex.aA,List.cons.injEq]at h;rw[hi a (by simp) b h.1,ihl (fun x hx=>hi x (by simp[hx])) h.2]
  rw[Ex.aB,Ex.aB]at h;simp only[List.cons.injEq,IV.lit.injEq,Value.int.injEq,Value.bool.injEq,IV.isl.injEq,true_and,and_true]at h;obtain⟨h1,h2,h3,h4,h5⟩:=h;have h5:=key ih h5;obtain⟨b1,n1⟩:=v;obtain⟨b2,n2⟩:=v';simp only[Ex.kind,Ex.col,Ex.val,Ex.kids]at h1 h2 h3 h4 h5;subst h1 h2 h3 h4 h5;rfl
theorem Ex.QJ:∀ {l m:List Ex},Ex.aA l=Ex.aA m→l=m:=by
 intro l
 induction l with
 | nil=>intro m h;cases m with
  | nil=>rfl
  | cons b m=>simp[Ex.aA]at h
 | cons a l ihl=>intro m h;cases m with
  | nil=>simp[Ex.aA]at h
  | cons b m =>
   simp only[Ex.aA,List.cons.injEq]at h;rw[Ex.IR a b h.1,ihl h.2]
theorem Pn.ER:∀ (a b:Pn),a.cells=b.cells→a=b:=by
 intro a
 induction a using Pn.ind with
 | h k t es cs ks ih =>
  intro b h;obtain⟨k',t',es',cs',ks'⟩:=b
  have key:∀ {l m:List Pn},(∀ a∈l,∀ b,a.cells=b.cells→a=b)→Pn.aA l=Pn.aA m→l=m:=by
   intro l
   induction l with
   | nil=>intro m _ h;cases m with
    | nil=>rfl
    | cons b m=>simp[Pn.aA]at h
   | cons a l ihl=>intro m hi h;cases m with
    | nil=>simp[Pn.aA]at h
    | cons b m =>
     simp only[Pn.aA,List.cons.injEq]at h;rw[hi a (by simp) b h.1,ihl (fun x hx=>hi x (by simp[hx])) h.2]
  rw[Pn.bD,Pn.bD]at h;simp only[List.cons.injEq,IV.lit.injEq,Value.int.injEq,IV.isl.injEq,true_and,and_true]at h;obtain⟨h1,h2,h3,h4,h5⟩:=h;rw[h1,h2,Ex.QJ h3,DW h4,key ih h5]
def ApA (args:List AV) (x:Pn×List Int×Int×List Int):Prop:=args=[.i (.agg x.1.cells), .i (.isl (aI x.2.1)), .i (.agg [.int x.2.2.1, .isl (aI x.2.2.2)])]
theorem ApA.inj {args:List AV} {x y:Pn×List Int×Int×List Int} (hx:ApA args x) (hy:ApA args y):x=y:=by
 unfold ApA at hx hy;rw[hx]at hy;simp only[List.cons.injEq,AV.i.injEq,IV.agg.injEq,IV.isl.injEq,IV.lit.injEq,Value.int.injEq,true_and,and_true]at hy;obtain⟨h1,h2,h3,h4⟩:=hy;obtain⟨a,b,c,d⟩:=x;obtain⟨a',b',c',d'⟩:=y;simp only at h1 h2 h3 h4;rw[Pn.ER _ _ h1,DW h2,h3,DW h4]
noncomputable def AK6 (C:Ctx) (G:List Nat) (na:Nat) (b:Code) (S:AS):XR:=eQ C G na b S
@[simp] theorem AJE {C:Ctx} {G:List Nat} {na:Nat} (a b:Code) (S:AS):eQ C G na (.seq a b) S=UH (eQ C G na a S) (AK6 C G na b):=AA2 a b
@[simp] theorem AN4 {C:Ctx} {G:List Nat} {na:Nat} (b:Code) (e:List (Nat×AV)) (st:StL):AK6 C G na b ⟨e,st⟩=eQ C G na b ⟨e,st⟩:=(rfl)
def AAG (C:Ctx) (call:dB) (all:List Oper) (draw:Bool) (base:Nat) (os:List Oper) (i:Nat) (env:Nat→AV) (dst:Option Tmp) (log:List (Nat×List Nat×Bool)) (p:AV×Store):Option RS:=dF C call all draw base os i ⟨sV env dst p.1,p.2,log⟩
@[simp] theorem ANW {C:Ctx} {call:dB} (all:List Oper) (draw:Bool) (base:Nat) (os:List Oper) (i:Nat) (env:Nat→AV) (dst:Option Tmp) (log:List (Nat×List Nat×Bool)) (v:AV) (st:Store):AAG C call all draw base os i env dst log (v,st)=dF C call all draw base os i ⟨sV env dst v,st,log⟩:=(rfl)
attribute [simp] NN VR Q5 VO AA3 VQ XX
@[simp] theorem AIR (k:Nat):gJ k []=true:=(rfl)
@[simp] theorem AFL (k:Nat) (e:List IV) (es:List (List IV)):gJ k (e::es)=(e.length == k && gJ k es):=(rfl)
@[simp] theorem AF4:iM (.slice none 0 0)=.nils:=(rfl)
@[simp] theorem AJ2:uX (.slice none 0 0)=.nils:=(rfl)
@[simp] theorem AF5 (b:Bool):iM (.bool b)=.i (.lit (.bool b)):=(rfl)
@[simp] theorem AJ3 (b:Bool):uX (.bool b)=.i (.lit (.bool b)):=(rfl)
@[simp] theorem AFH (b:Bool):cellsOf (.i (.lit (.bool b)))=some [.i (.lit (.bool b))]:=(rfl)
@[simp] theorem AGZ (k:IntKind) (n:Int):iM (.int k n)=.i (.lit (.int k n)):=(rfl)
@[simp] theorem ALJ (k:IntKind) (n:Int):uX (.int k n)=.i (.lit (.int k n)):=(rfl)
@[simp] theorem AIC (k:IntKind) (n:Int):cellsOf (.i (.lit (.int k n)))=some [.i (.lit (.int k n))]:=(rfl)
@[simp] theorem ABH (s:ByteArray):iM (.string s)=.i (.lit (.string s)):=(rfl)
@[simp] theorem AF6 (s:ByteArray):uX (.string s)=.i (.lit (.string s)):=(rfl)
@[simp] theorem ABL (s:ByteArray):cellsOf (.i (.lit (.string s)))=some [.i (.lit (.string s))]:=(rfl)
@[simp] theorem ZN (a:Option Addr):iM (.pointer a)=.i (.lit (.pointer a)):=(rfl)
@[simp] theorem ACY (a:Option Addr):uX (.pointer a)=.i (.lit (.pointer a)):=(rfl)
@[simp] theorem AAK (a:Option Addr):cellsOf (.i (.lit (.pointer a)))=some [.i (.lit (.pointer a))]:=(rfl)
@[simp] theorem AGY (r:Option Nat):iM (.map r)=.i (.lit (.map r)):=(rfl)
@[simp] theorem ALI (r:Option Nat):uX (.map r)=.i (.lit (.map r)):=(rfl)
@[simp] theorem AIA (r:Option Nat):cellsOf (.i (.lit (.map r)))=some [.i (.lit (.map r))]:=(rfl)
@[simp] theorem ZO :iM (.nilFunc)=.i (.lit (.nilFunc)):=(rfl)
@[simp] theorem ACZ :uX (.nilFunc)=.i (.lit (.nilFunc)):=(rfl)
@[simp] theorem AAL :cellsOf (.i (.lit (.nilFunc)))=some [.i (.lit (.nilFunc))]:=(rfl)
@[simp] theorem XH :iM (.nilIface)=.i (.lit (.nilIface)):=(rfl)
@[simp] theorem ABJ :uX (.nilIface)=.i (.lit (.nilIface)):=(rfl)
@[simp] theorem XI :cellsOf (.i (.lit (.nilIface)))=some [.i (.lit (.nilIface))]:=(rfl)
@[simp] theorem ACW (a:Array Value):iM (.tuple a)=.i (.lit (.tuple a)):=(rfl)
@[simp] theorem AH0 (a:Array Value):uX (.tuple a)=.i (.lit (.tuple a)):=(rfl)
@[simp] theorem ALK (cs:Array Value):uX (.agg cs)=MU (dZ cs.toList):=(rfl)
attribute [simp] dZ.eq_1 dZ.eq_2 cellsOf.eq_3 cellsOf.eq_4
@[simp] theorem AFF :cellsOf .nils=some [.nils]:=(rfl)
@[simp] theorem AI8 (i o:Nat):cellsOf (.own i o)=some [(.own i o)]:=(rfl)
@[simp] theorem AFE (i k j o:Nat):cellsOf (.ownE i k j o)=some [(.ownE i k j o)]:=(rfl)
@[simp] theorem AI9 (i k o l:Nat):cellsOf (.osl i k o l)=some [(.osl i k o l)]:=(rfl)
@[simp] theorem AJI (f:Fn) (cs:List AV):cellsOf (.fn f cs)=some [(.fn f cs)]:=(rfl)
@[simp] theorem ADQ (a:Option Addr) (l c:Nat):cellsOf (.i (.lit (.slice a l c)))=some [(.i (.lit (.slice a l c)))]:=(rfl)
@[simp] theorem AIB (es:List (List IV)):cellsOf (.i (.isl es))=some [(.i (.isl es))]:=(rfl)
@[simp] theorem AFG (cs:List IV):cellsOf (.i (.iref cs))=some [(.i (.iref cs))]:=(rfl)
@[simp] theorem AJG  (x:Option (List IV)):NW .nils x=none:=by cases x<;>rfl
@[simp] theorem AM2 (st:Store) :oV st .nils=bnd (frz st uE .nils) fun p=>some (p.1,iF st p.2):=(rfl)
@[simp] theorem AII (st:Store) :iV st .nils=bnd (oV st .nils) fun p=>some (.i p.1,p.2):=(rfl)
@[simp] theorem AMA (i o:Nat) (x:Option (List IV)):NW (.own i o) x=none:=by cases x<;>rfl
@[simp] theorem ANP (st:Store) (i o:Nat):oV st (.own i o)=bnd (frz st uE (.own i o)) fun p=>some (p.1,iF st p.2):=(rfl)
@[simp] theorem AJK (st:Store) (i o:Nat):iV st (.own i o)=bnd (oV st (.own i o)) fun p=>some (.i p.1,p.2):=(rfl)
@[simp] theorem AMB (i k o l:Nat) (x:Option (List IV)):NW (.osl i k o l) x=none:=by cases x<;>rfl
@[simp] theorem ANQ (st:Store) (i k o l:Nat):oV st (.osl i k o l)=bnd (frz st uE (.osl i k o l)) fun p=>some (p.1,iF st p.2):=(rfl)
@[simp] theorem AJL (st:Store) (i k o l:Nat):iV st (.osl i k o l)=bnd (oV st (.osl i k o l)) fun p=>some (.i p.1,p.2):=(rfl)
@[simp] theorem ANR (st:Store) (cs:List AV):oV st (.agg cs)=bnd (frz st uE (.agg cs)) fun p=>some (p.1,iF st p.2):=(rfl)
@[simp] theorem AJM (st:Store) (cs:List AV):iV st (.agg cs)=bnd (oV st (.agg cs)) fun p=>some (.i p.1,p.2):=(rfl)
@[simp] theorem APT (v:IV) (l:List IV):NW (.i v) (some l)=some (v::l):=(rfl)
@[simp] theorem ANX (v:IV):NW (.i v) none=none:=(rfl)
@[simp] theorem AQN (st:Store) (v:IV):oV st (.i v)=some (v,st):=(rfl)
@[simp] theorem AO1 (st:Store) (v:IV):iV st (.i v)=some (.i v,st):=(rfl)
@[simp] theorem AMM (st:Store) (f:Fn) (cs:List AV):iV st (.fn f cs)=some (.fn f cs,st):=(rfl)
@[simp] theorem AJN:uN (some .strct)=some true:=(rfl)
@[simp] theorem AJO (e:TypeId):uN (some (.slice e))=some false:=(rfl)
@[simp] theorem AO2 (k:IntKind):uN (some (.int k))=some false:=(rfl)
@[simp] theorem AIM:uN (some .string)=some false:=(rfl)
@[simp] theorem AMN:uN (some .bool)=some false:=(rfl)
@[simp] theorem AJP:uN (some .other)=some false:=(rfl)
@[simp] theorem AJQ (n:Nat) (e:TypeId):uN (some (.array n e))=some true:=(rfl)
@[simp] theorem AHJ:eB .add=false:=(rfl)
@[simp] theorem AH6:eB .sub=false:=(rfl)
@[simp] theorem AHC:eB .mul=false:=(rfl)
@[simp] theorem AHA:eB .quo=false:=(rfl)
@[simp] theorem AH9:eB .rem=false:=(rfl)
@[simp] theorem AHI:eB .and=false:=(rfl)
@[simp] theorem AJ9:eB .or=false:=(rfl)
@[simp] theorem AH5:eB .xor=false:=(rfl)
@[simp] theorem ABK:eB .andNot=false:=(rfl)
@[simp] theorem AHH:eB .eql=false:=(rfl)
@[simp] theorem AHB:eB .neq=false:=(rfl)
@[simp] theorem AHD:eB .lss=false:=(rfl)
@[simp] theorem AHE:eB .leq=false:=(rfl)
@[simp] theorem AHF:eB .gtr=false:=(rfl)
@[simp] theorem AHG:eB .geq=false:=(rfl)
@[simp] theorem AH8:eB .shl=true:=(rfl)
@[simp] theorem AH7:eB .shr=true:=(rfl)
@[simp] theorem AN8:H5 []=.tup []:=(rfl)
@[simp] theorem AN7 (v:AV):H5 [v]=v:=(rfl)
@[simp] theorem AN6 (a b:AV) (l:List AV):H5 (a::b::l)=.tup (a::b::l):=(rfl)
attribute [simp] pM.eq_1 pM.eq_2 gW.eq_1 gW.eq_2 gW.eq_3
section
variable (C:Ctx) (call:dB) (env:Nat→AV) (st:Store) (nb:Nat)
@[simp] theorem AG4 (x:Operand):bZ C call (.move x) env st nb=some (ev env x,st):=(rfl)
@[simp] theorem AC4 (x:Operand):bZ C call (.assign x) env st nb=some (ev env x,st):=(rfl)
@[simp] theorem AG3 (c a b:Operand):bZ C call (.pick c a b) env st nb=bnd (Z5 (ev env a) (ev env b) (ev env c)) fun v=>some (v,st):=(rfl)
@[simp] theorem AET (t:TypeId):bZ C call (.alloc t) env st nb=bnd (zeroOf C.P t) fun z=>some (.own nb 0,upd st nb (some (.box (dZ z)))):=(rfl)
@[simp] theorem AIX (t:TypeId) (x:Operand):bZ C call (.box t x) env st nb=bnd (cellsOf (ev env x)) fun cs=>some (.own nb 0,upd st nb (some (.box cs))):=(rfl)
@[simp] theorem AER (t:TypeId) (ps:Array (Nat×Operand)):bZ C call (.build t ps) env st nb=bnd (uN (bE C.P t)) fun g=>tst g (bnd (zeroOf C.P t) fun z=>bnd (partsOf env ps.toList) fun ps=>bnd (JY (D5 C.P t) (dZ z) ps) fun cs=>some (MU cs,st)):=(rfl)
@[simp] theorem U1 (t:TypeId) (n:Nat) (ps:Array (Nat×Operand)):bZ C call (.buildSlice t n ps) env st nb=bnd (AP (bE C.P t)) fun e=>bnd (partsOf env ps.toList) fun ps=>nR C e n st nb ps:=(rfl)
@[simp] theorem AG5 (t:TypeId) (a:Operand):bZ C call (.load t a) env st nb=bnd (DJ C t (ev env a) st) fun v=>some (v,st):=(rfl)
@[simp] theorem AEM (t:TypeId) (a x:Operand):bZ C call (.store t a x) env st nb=bnd (wE C t (ev env a) (ev env x) st) fun st1=>some (.i (.lit undef),st1):=(rfl)
@[simp] theorem YE (x:Operand):bZ C call (.nilCheck x) env st nb=bnd (ACM (ev env x)) fun v=>some (v,st):=(rfl)
@[simp] theorem AES (op:BinOp) (t:TypeId) (x y:Operand) (u:TypeId):bZ C call (.binOp op t x y u) env st nb=bnd (ADY C op t (ev env x) (ev env y)) fun v=>some (.i v,st):=(rfl)
@[simp] theorem AG2 (op:UnOp) (t:TypeId) (x:Operand):bZ C call (.unOp op t x) env st nb=bnd (unA op (ev env x)) fun v=>some (.i v,st):=(rfl)
@[simp] theorem ABB (s d:TypeId) (x:Operand):bZ C call (.convert s d x) env st nb=bnd (FW C.P st (bE C.P d) (ev env x) (bE C.P s)) fun v=>some (v,st):=(rfl)
@[simp] theorem XC (t:TypeId) (l c:Operand):bZ C call (.makeSlice t l c) env st nb=PN C t st nb (ev env l) (ev env c):=(rfl)
@[simp] theorem AEN (t:TypeId) (x:Operand) (lo hi:Option Operand):bZ C call (.slice t x lo hi none) env st nb=bnd (wF C t (evO env lo) (evO env hi) (ev env x)) fun v=>some (v,st):=(rfl)
@[simp] theorem XE (s:TypeId) (x:Operand) (f:Nat):bZ C call (.fieldAddr s x f) env st nb=bnd (dP C.P s f) fun p=>bnd (iD C.P p.1) fun n=>tst (decide (0<n)) (bnd (iU p.2 (ev env x)) fun v=>some (v,st)):=(rfl)
@[simp] theorem AEP (s:TypeId) (x:Operand) (f:Nat):bZ C call (.field s x f) env st nb=bnd (dP C.P s f) fun p=>bnd (iD C.P p.1) fun n=>bnd (uN (bE C.P p.1)) fun g=>bnd (IG p.2 n g (ev env x)) fun v=>some (v,st):=(rfl)
@[simp] theorem XD (t:TypeId) (x i:Operand):bZ C call (.indexAddr t x i) env st nb=bnd (kY C (ev env x) (ev env i) (bE C.P t)) fun v=>some (v,st):=(rfl)
@[simp] theorem AEO (t:TypeId) (x i:Operand):bZ C call (.index t x i) env st nb=bnd (I7 C (ev env i) (bE C.P t) (ev env x)) fun v=>some (v,st):=(rfl)
@[simp] theorem ABA (x:Operand) (j:Nat):bZ C call (.extract x j) env st nb=bnd (uG j (ev env x)) fun v=>some (v,st):=(rfl)
@[simp] theorem YF (f:Fn) (fs cs:Array Operand):bZ C call (.makeFunc f fs cs) env st nb=tst fs.toList.isEmpty (bnd (ACO (evL env cs.toList) f) fun v=>some (v,st)):=(rfl)
@[simp] theorem AJ1 (cs:List AV) (g:FuncId):ACO cs (.func g)=some (.fn (.func g) cs):=(rfl)
@[simp] theorem ABC (b:Builtin) (as1:Array Operand) (ts:Array TypeId):bZ C call (.call ⟨.builtin b,as1,ts⟩) env st nb=iB C st nb b ts.toList (evL env as1.toList):=(rfl)
@[simp] theorem AEQ (f:Operand) (as1:Array Operand) (ts:Array TypeId):bZ C call (.call ⟨.value f,as1,ts⟩) env st nb=FJ C call (evL env as1.toList) st nb (ev env f):=(rfl)
@[simp] theorem AFX (x:Operand):bC env (.move x)=([],true):=(rfl)
@[simp] theorem AC2 (x:Operand):bC env (.assign x)=([],true):=(rfl)
@[simp] theorem AFW (c a b:Operand):bC env (.pick c a b)=([],true):=(rfl)
@[simp] theorem AEH (t:TypeId):bC env (.alloc t)=([],true):=(rfl)
@[simp] theorem AIV (t:TypeId) (x:Operand):bC env (.box t x)=([],true):=(rfl)
@[simp] theorem AEF (t:TypeId) (ps:Array (Nat×Operand)):bC env (.build t ps)=([],true):=(rfl)
@[simp] theorem Y4 (x:Operand):bC env (.nilCheck x)=([],true):=(rfl)
@[simp] theorem AEG (op:BinOp) (t:TypeId) (x y:Operand) (u:TypeId):bC env (.binOp op t x y u)=([],true):=(rfl)
@[simp] theorem AFV (op:UnOp) (t:TypeId) (x:Operand):bC env (.unOp op t x)=([],true):=(rfl)
@[simp] theorem AB9 (s d:TypeId) (x:Operand):bC env (.convert s d x)=(cZ (ev env x),true):=(rfl)
@[simp] theorem X9 (t:TypeId) (l c:Operand):bC env (.makeSlice t l c)=([],true):=(rfl)
@[simp] theorem AEC (t:TypeId) (x:Operand) (lo hi:Option Operand):bC env (.slice t x lo hi none)=([],true):=(rfl)
@[simp] theorem XB (s:TypeId) (x:Operand) (f:Nat):bC env (.fieldAddr s x f)=([],true):=(rfl)
@[simp] theorem AEE (s:TypeId) (x:Operand) (f:Nat):bC env (.field s x f)=([],true):=(rfl)
@[simp] theorem XA (t:TypeId) (x i:Operand):bC env (.indexAddr t x i)=([],true):=(rfl)
@[simp] theorem AED (t:TypeId) (x i:Operand):bC env (.index t x i)=([],true):=(rfl)
@[simp] theorem AB8 (x:Operand) (j:Nat):bC env (.extract x j)=([],true):=(rfl)
@[simp] theorem Y5 (f:Fn) (fs cs:Array Operand):bC env (.makeFunc f fs cs)=([],true):=(rfl)
attribute [simp] bC.eq_1 bC.eq_3 bC.eq_4 bC.eq_5 bC.eq_6 bC.eq_7
@[simp] theorem AIU (as1:Array Operand) (ts:Array TypeId):bC env (.call ⟨.builtin .len,as1,ts⟩)=([],true):=(rfl)
@[simp] theorem AIS (as1:Array Operand) (ts:Array TypeId):bC env (.call ⟨.builtin .min,as1,ts⟩)=([],true):=(rfl)
@[simp] theorem AIT (as1:Array Operand) (ts:Array TypeId):bC env (.call ⟨.builtin .max,as1,ts⟩)=([],true):=(rfl)
@[simp] theorem AN5 (args:List AV) (g:FuncId) (cs:List AV):FJ C call args st nb (.fn (.func g) cs)=if g=1000000007 then none else fD call (C.ownArgs g) g (args++cs) st nb:=(rfl)
@[simp] theorem AKE (args:List AV) (id:Nat):FJ C call args st nb (.fn (.yield 0) [.own id 0])=fD call true sW (.fn (.yield 0) [.own id 0]::args) st nb:=(rfl)
variable (all:List Oper) (base i:Nat) (log:List (Nat×List Nat×Bool)) (dst:Option Tmp) (op:Op) (ty:TypeId) (pos:String) (after:Array Edge) (os:List Oper)
@[simp] theorem AKW (t:Tmp) (v:AV):sV env (some t) v=upd env t v:=(rfl)
@[simp] theorem AKX (v:AV):sV env none v=env:=(rfl)
@[simp] theorem AIZ (draw:Bool) (R:RS):dF C call all draw base [] i R=some R:=(rfl)
@[simp] theorem AKN:dF C call all false base (⟨dst,op,ty,pos,after,none⟩::os) i ⟨env,st,log⟩ =
 bnd (bZ C call op env st (base+8*i)) (AAG C call all false base os (i+1) env dst []):=(rfl)
@[simp] theorem AKM (g:Nat×Bool):dF C call all false base (⟨dst,op,ty,pos,after,some g⟩::os) i ⟨env,st,log⟩ =
 bnd (KV env g.2 ((all[g.1]?).bind (·.dst))) fun b=>if b=true then bnd (bZ C call op env st (base+8*i)) (AAG C call all false base os (i+1) env dst [])
  else dF C call all false base os (i+1) ⟨sV env dst (.i (.lit undef)),st,log⟩:=(rfl)
@[simp] theorem AKL:dF C call all true base (⟨dst,op,ty,pos,after,none⟩::os) i ⟨env,st,log⟩ =
 tst (AMD base all ⟨dst,op,ty,pos,after,none⟩ st (bC env op).1 (wD st (bC env op)).1 (bC env op).2 log)
  (bnd (bZ C call op env st (base+8*i)) (AAG C call all true base os (i+1) env dst (F7 i (bC env op).2 log (wD st (bC env op)).1))):=(rfl)
@[simp] theorem AKK (g:Nat×Bool):dF C call all true base (⟨dst,op,ty,pos,after,some g⟩::os) i ⟨env,st,log⟩ =
 bnd (KV env g.2 ((all[g.1]?).bind (·.dst))) fun b=>if b=true then
  tst (AMD base all ⟨dst,op,ty,pos,after,some g⟩ st (bC env op).1 (wD st (bC env op)).1 (bC env op).2 log)
   (bnd (bZ C call op env st (base+8*i)) (AAG C call all true base os (i+1) env dst (F7 i (bC env op).2 log (wD st (bC env op)).1)))
  else dF C call all true base os (i+1) ⟨sV env dst (.i (.lit undef)),st,log⟩:=(rfl)
end
attribute [simp] aW.eq_1 aW.eq_2
attribute [simp] aV.eq_1 aV.eq_2 aV.eq_3
attribute [simp] ABN.eq_1 ABN.eq_2
attribute [simp] AIL.eq_1 AIL.eq_2
attribute [simp] MU.eq_1
attribute [simp] kQ.eq_1 kQ.eq_2
attribute [simp] o6.eq_1 o6.eq_2
attribute [simp] gV.eq_1 gV.eq_2
attribute [simp] dropE.eq_1 dropE.eq_2 dropE.eq_3
attribute [simp] mO.eq_1 mO.eq_2 mO.eq_3
attribute [simp] cut.eq_1
attribute [simp] splice.eq_1 splice.eq_2 splice.eq_3 splice.eq_4 splice.eq_5
attribute [simp] AP.eq_1
attribute [simp] qY.eq_1 qY.eq_2
attribute [simp] frz.eq_1 frz.eq_2 frz.eq_3 frz.eq_4 frz.eq_5 frz.eq_6
attribute [simp] vG.eq_1 vG.eq_2 vG.eq_3
attribute [simp] AO.eq_1 AO.eq_2 AO.eq_3
attribute [simp] uE.eq_1
attribute [simp] iF.eq_1 iF.eq_2
attribute [simp] lV.eq_1 lV.eq_2
attribute [simp] cZ.eq_1 cZ.eq_2 cZ.eq_3 cZ.eq_4 cZ.eq_5 cZ.eq_6 cZ.eq_7 cZ.eq_8 cZ.eq_9
attribute [simp] aY.eq_1 aY.eq_2
attribute [simp] gG.eq_1 gG.eq_2 gG.eq_3 gG.eq_4 gG.eq_5 gG.eq_6 gG.eq_7
attribute [simp] ren.eq_1 ren.eq_2 ren.eq_3 ren.eq_4 ren.eq_5 ren.eq_6 ren.eq_7 ren.eq_8 ren.eq_9
attribute [simp] uL.eq_1 uL.eq_2
attribute [simp] uM.eq_1 uM.eq_2 uM.eq_3 uM.eq_4 uM.eq_5 uM.eq_6 uM.eq_7
attribute [simp] jO.eq_1 jO.eq_2
attribute [simp] gI.eq_1
attribute [simp] FV.eq_1 FV.eq_2
attribute [simp] reach.eq_1 reach.eq_2 reach.eq_3
attribute [simp] EB.eq_1
attribute [simp] oD.eq_1 oD.eq_2
attribute [simp] upto.eq_1 upto.eq_2
attribute [simp] gP.eq_1
attribute [simp] jX.eq_1 jX.eq_2
attribute [simp] ev.eq_1 ev.eq_2 ev.eq_3 ev.eq_4
attribute [simp] evL.eq_1 evL.eq_2
attribute [simp] evO.eq_1 evO.eq_2
attribute [simp] KO.eq_1 KO.eq_2 KO.eq_3 KO.eq_4 KO.eq_5 KO.eq_6 KO.eq_7 KO.eq_8 KO.eq_9 KO.eq_10 KO.eq_11 KO.eq_12 KO.eq_13 KO.eq_14 KO.eq_15
attribute [simp] shI.eq_1 shI.eq_2
attribute [simp] ABM.eq_1 ABM.eq_2 ABM.eq_3 ABM.eq_4 ABM.eq_5 ABM.eq_6 ABM.eq_7
attribute [simp] AML.eq_1 AML.eq_2
attribute [simp] AMJ.eq_1 AMJ.eq_2
attribute [simp] AIE.eq_1 AIE.eq_2
attribute [simp] ADY.eq_1 ADY.eq_2 ADY.eq_3 ADY.eq_4 ADY.eq_5 AGT.eq_1 AGT.eq_2 AGT.eq_3 AGT.eq_4 AMK.eq_1 AMK.eq_2
attribute [simp] unA.eq_1 unA.eq_2
attribute [simp] kW.eq_1
attribute [simp] jG.eq_1 jG.eq_2
attribute [simp] mI.eq_1 mI.eq_2
attribute [simp] dE.eq_1 dE.eq_2 dE.eq_3 dE.eq_4
attribute [simp] A8.eq_1 A8.eq_2
attribute [simp] qE.eq_1
attribute [simp] OB.eq_1 OB.eq_2
attribute [simp] AIK.eq_1 VF.eq_1 AEB.eq_1 jM.eq_1 jM.eq_2 OC.eq_1 A9.eq_1
@[simp] theorem ALZ (k:Nat) (es:List (List IV)):VF (some (.arr k es))=false:=(rfl)
@[simp] theorem ALX (k:Nat) (es:List (List IV)):VF (some (.frz k es))=false:=(rfl)
@[simp] theorem ALY (cs:List AV):VF (some (.box cs))=false:=(rfl)
@[simp] theorem ART (v:IV):slC (.i v)=false:=(rfl)
@[simp] theorem AJ8:VF none=false:=(rfl)
@[simp] theorem AK2 (st:Store):AEB st .nils=false:=(rfl)
@[simp] theorem AQ7 (st:Store) (v:IV):AEB st (.i v)=false:=(rfl)
attribute [simp] lQ.eq_1
attribute [simp] EN.eq_1 EN.eq_2
attribute [simp] QB.eq_1
attribute [simp] AF7.eq_1 AF7.eq_2 AF7.eq_3 AF7.eq_4 AF7.eq_5
attribute [simp] wF.eq_1 wF.eq_2 wF.eq_3 wF.eq_4
attribute [simp] JY.eq_1 JY.eq_2
attribute [simp] partsOf.eq_1 partsOf.eq_2
attribute [simp] MN.eq_1 MN.eq_2
attribute [simp] D5.eq_1
attribute [simp] nU.eq_1 nU.eq_2 nU.eq_3
attribute [simp] lZ.eq_1 lZ.eq_2
attribute [simp] eP.eq_1 eP.eq_2
attribute [simp] WH.eq_1 WH.eq_2
attribute [simp] IZ.eq_1 IZ.eq_2
attribute [simp] AGG.eq_1 AGG.eq_2
attribute [simp] FU.eq_1 FU.eq_2
attribute [simp] FT.eq_1 FT.eq_2
attribute [simp] loadAt.eq_1 loadAt.eq_2 loadAt.eq_3
attribute [simp] DJ.eq_1
attribute [simp] oQ.eq_1
attribute [simp] mP.eq_1
attribute [simp] storeAt.eq_1 storeAt.eq_2
attribute [simp] wE.eq_1
attribute [simp] fO.eq_1 fO.eq_2
attribute [simp] qD.eq_1 qD.eq_2
attribute [simp] jE.eq_1 jE.eq_2 jE.eq_3
attribute [simp] mH.eq_1 mH.eq_2 mH.eq_3
attribute [simp] qU.eq_1
attribute [simp] jI.eq_1
attribute [simp] fD.eq_1
attribute [simp] rF.eq_1 rF.eq_2
attribute [simp] iB.eq_1 iB.eq_2 iB.eq_3 iB.eq_4 iB.eq_5
attribute [simp] QE.eq_1 QE.eq_2 FW.eq_1 T9.eq_1 AP4.eq_1 slV.eq_1 slV.eq_2 slV.eq_3 bytesOf.eq_1 bytesOf.eq_2
@[simp] theorem AM9 (P:Program) (st:Store) (d:Option DK) (x:AV) (k:IntKind):FW P st d x (some (.int k))=QE (some (.int k)) d x:=(rfl)
@[simp] theorem AFD (P:Program) (st:Store) (d:Option DK) (x:AV):FW P st d x (some .string)=QE (some .string) d x:=(rfl)
attribute [simp] Z5.eq_1
attribute [simp] ACM.eq_1 ACM.eq_2 ACM.eq_3 ACM.eq_4 ACM.eq_5
attribute [simp] PN.eq_1
attribute [simp] iU.eq_1 iU.eq_2 iU.eq_3 iU.eq_4
attribute [simp] IG.eq_1 IG.eq_2
attribute [simp] DX.eq_1 DX.eq_2 DX.eq_3
attribute [simp] PV.eq_1
attribute [simp] kY.eq_1 kY.eq_2
attribute [simp] I7.eq_1 I7.eq_2
attribute [simp] uG.eq_1
attribute [simp] qH.eq_1 nR.eq_1 AJ4.eq_1 TF.eq_1 TF.eq_2 slL.eq_1 slL.eq_2 slC.eq_1 slC.eq_2
attribute [simp] QQ.eq_1 QQ.eq_2
attribute [simp] KV.eq_1 KV.eq_2
attribute [simp] tF.eq_1 tF.eq_2
attribute [simp] fK.eq_1 fK.eq_2
attribute [simp] wD.eq_1
attribute [simp] allIn.eq_1 allIn.eq_2
attribute [simp] PM.eq_1 PM.eq_2
attribute [simp] AMD.eq_1
attribute [simp] ACV.eq_1 ACV.eq_2
attribute [simp] o8.eq_1 o8.eq_2
attribute [simp] ZU.eq_1
attribute [simp] aO.eq_1 aO.eq_2
attribute [simp] tH.eq_1
attribute [simp] wL.eq_1 wL.eq_2
attribute [simp] VA.eq_1 VA.eq_2
attribute [simp] F7.eq_1 F7.eq_2
attribute [simp] kM.eq_1 kM.eq_2
attribute [simp] uH.eq_1 uH.eq_2
attribute [simp] rQ.eq_1
attribute [simp] settle.eq_1
attribute [simp] AE1.eq_1 u7.eq_1 u7.eq_2 qI.eq_1 qI.eq_2 M5.eq_1 nY.eq_1 ADS.eq_1 JA.eq_1 E9.eq_1 R4.eq_1 tZ.eq_1 tZ.eq_2 R5.eq_1 GZ.eq_1 Q7.eq_1 KC.eq_1 setSt.eq_1 setSt.eq_2 setSt.eq_3
@[simp] theorem AIW (k:Nat):JA (.exit k)=.over (.exit k):=(rfl)
@[simp] theorem AHR (k:Nat):E9 (.exit k)=false:=(rfl)
@[simp] theorem AJD:E9 .ret=false:=(rfl)
@[simp] theorem AKD:JA .ret=.over .ret:=(rfl)
@[simp] theorem ANV (vs:List AV):Q7 [] vs=[]:=(rfl)
@[simp] theorem AMI (vs:List AV) (E:List (Nat×AV)):KC [] vs E=E:=(rfl)
attribute [simp] UH.eq_1 UH.eq_2 UH.eq_3 UH.eq_4
attribute [simp] EY.eq_1 EY.eq_2 EY.eq_3 EY.eq_4
attribute [simp] QH.eq_1
attribute [simp] AA9.eq_1 AA9.eq_2
attribute [simp] R7.eq_1 R7.eq_2
attribute [simp] CJ.eq_1 CJ.eq_2
attribute [simp] pR.eq_1 pR.eq_2
attribute [simp] R8.eq_1 R8.eq_2
attribute [simp] rG.eq_1 rG.eq_2
attribute [simp] PK.eq_1
attribute [simp] finish.eq_1
attribute [simp] AA6.eq_1 AA6.eq_2 AA6.eq_3 AA6.eq_4
attribute [simp] AR.eq_1 AR.eq_2 AR.eq_3
attribute [simp] II.eq_1 II.eq_2
attribute [simp] enter.eq_1
attribute [simp] tT.eq_1 tT.eq_2
attribute [simp] R9.eq_1 R9.eq_2
attribute [simp] jJ.eq_1 jJ.eq_2 jJ.eq_3 jJ.eq_4 jJ.eq_5
attribute [simp] kN.eq_1 kN.eq_2
attribute [simp] fI.eq_1 fI.eq_2
attribute [simp] ACX.eq_1 ACX.eq_2 ACX.eq_3 ACX.eq_4
attribute [simp] AL.eq_1 AL.eq_2
attribute [simp] rM.eq_1 rM.eq_2 M8.eq_1 lH.eq_1 lH.eq_2 iQ.eq_1 iQ.eq_2 OM.eq_1 jW.eq_1 jW.eq_2 fH.eq_1 fH.eq_2
@[simp] theorem AKY (v:Value):M8 (.lit v)=true:=(rfl)
@[simp] theorem AKZ (es:List (List IV)):M8 (.isl es)=true:=(rfl)
@[simp] theorem AJR (v:Value):OM (.lit v)=.lit v:=(rfl)
attribute [simp] AB.eq_1 AB.eq_2 AB.eq_3
attribute [simp] oZ.eq_1 oZ.eq_2
attribute [simp] tN.eq_1
attribute [simp] dR.eq_1 dR.eq_2
attribute [simp] storeT.eq_1 storeT.eq_2 BU.eq_1 BU.eq_2
@[simp] theorem AGE (st:Store) (v:AV):CK st [v]=some ([v],st):=(rfl)
@[simp] theorem AGF (st:Store):CK st []=some ([],st):=(rfl)
@[simp] theorem AGD (st:Store) (a b:AV) (r:List AV):CK st (a::b::r)=rG st (a::b::r):=(rfl)
@[simp] theorem ALS (st:Store) (cs:List AV):vF st (.agg cs)=bnd (oV st (.agg cs)) fun p=>some (.i p.1,p.2):=(rfl)
@[simp] theorem AJ6 (st:Store) :vF st .nils=some (.nils,st):=(rfl)
@[simp] theorem ALQ (st:Store) (i o:Nat):vF st (.own i o)=some ((.own i o),st):=(rfl)
@[simp] theorem AJ5 (st:Store) (i k j o:Nat):vF st (.ownE i k j o)=some ((.ownE i k j o),st):=(rfl)
@[simp] theorem ALR (st:Store) (i k o l:Nat):vF st (.osl i k o l)=some ((.osl i k o l),st):=(rfl)
@[simp] theorem ANN (st:Store) (f:Fn) (cs:List AV):vF st (.fn f cs)=some ((.fn f cs),st):=(rfl)
@[simp] theorem AOY (st:Store) (v:IV):vF st (.i v)=some ((.i v),st):=(rfl)
@[simp] theorem ALP (st:Store) (cs:List AV):vF st (.tup cs)=some ((.tup cs),st):=(rfl)
@[simp] theorem AJ7 (st:Store) :vF st .junk=some (.junk,st):=(rfl)
@[simp] theorem AMZ (all:List Oper) (after:List Edge) (j:Nat):fP all 3 after j=if tH after j=true then true else after.any fun e=>Region.binds .any e && fP all 2 (qW all e.on) j:=(rfl)
@[simp] theorem AN0 (all:List Oper) (after:List Edge) (j:Nat):fP all 2 after j=if tH after j=true then true else after.any fun e=>Region.binds .any e && fP all 1 (qW all e.on) j:=(rfl)
@[simp] theorem AN1 (all:List Oper) (after:List Edge) (j:Nat):fP all 1 after j=if tH after j=true then true else after.any fun e=>Region.binds .any e && fP all 0 (qW all e.on) j:=(rfl)
@[simp] theorem AN2 (all:List Oper) (after:List Edge) (j:Nat):fP all 0 after j=tH after j:=(rfl)
attribute [simp] qW.eq_1
attribute [simp] undef
attribute [simp] wide
end Go.Av
namespace Go.Proofs.YtmcjmafajkeecaaDoor
open Go Go.Av
def GS:FuncId→List Nat
 | 3=>[0,1,2,4,5,6,7,8,9,12,17,32,37,42]
 | 4=>[0,1,4,5,6,7,8,9,17,34]
 | 5=>[0,1,2,4,10,16,22]
 | 6=>[0,1,2,4,8]
 | 7=>[0,1,2,3]
 | 8=>[0,2,3,4,11]
 | 9=>[0,1,2,4,5,9]
 | 10=>[0,1,2,3,4,9,14,20,26,32]
 | 11=>[0,1,4,5,10,14,25]
 | 12=>[0,2,3]
 | 13=>[0,1,2,3,4]
 | 14=>[0,1,2,4,5,6]
 | 15=>[0,1,4,5,11,15,25]
 | 16=>[0,1,4,10]
 | 17=>[0,1,4,5,11,15,25]
 | 18=>[0,1,2,4,7]
 | 19=>[0,1,2,3,4,5,6,15,26,42,58]
 | 20=>[0,1,2,3,4,5,12,29]
 | 21=>[0,2,3,4,11]
 | 22=>[0,2,3,4,11]
 | 23=>[0,1,2,4,7]
 | 24=>[0,2,3,4,5,6,7,14,38,39,40,76,77,78]
 | 25=>[0,1,4,12,13,14]
 | 26=>[0,2,7,8,9]
 | 27=>[0,1,4,5,6,12,39,40,41]
 | 28=>[0,2,7]
 | 29=>[0,1,2]
 | 30=>[0,2]
 | 31=>[0,2,3,4,5,6,13,37,38,39]
 | 32=>[0,1,2,4,8]
 | 33=>[0,1,4,5,10,14,26]
 | 34=>[0,1,4,5,10,14,26]
 | 35=>[0,2,3,4,5,13]
 | 36=>[0,2,5]
 | 37=>[0,1,2,4,10]
 | 38=>[0,2,3,7,15]
 | 39=>[0,1,2,3,6,7,8,9,23,28,41,47,48,55,61,70,74,82,106,114,122,126,131,144]
 | 40=>[0]
 | 41=>[0,2,4,6,12]
 | 42=>[0,1,2,3,4,6,7,13,28]
 | 43=>[0,1,2,3,4,5,19,37]
 | 44=>[0,1,2,3,4,7,19]
 | 45=>[0,1,2,3]
 | 46=>[0,2,4,12,13,14,15,16,21]
 | 47=>[0,1,2,6,7,8,9,10,31,60,87,92,106,118,119,120,137]
 | 48=>[0,2,3,6]
 | 49=>[0,2,3,6]
 | 50=>[0,2,3,6]
 | 51=>[0,1,4,6,7,8,23,35,36,37,38,51,52,53,70,71,72]
 | 52=>[0,1,2,3,4,9,14,20,26]
 | 53=>[0,2,3,4,10]
 | 54=>[0,1,4,5,10,11,17,23,33]
 | 55=>[0,1,4,5,6,24,36]
 | 56=>[0,1,4]
 | 57=>[0,1,2,6]
 | 58=>[0,1,2,3,4,6,7,9,12,14,16]
 | 59=>[0,1,2,4]
 | 60=>[0,1,4,5,9,18,21]
 | 61=>[0,1,4,5,9,35]
 | 62=>[0,1,2,4]
 | 63=>[0]
 | 64=>[0,1,2,3,4,16]
 | 65=>[0,1,2]
 | 66=>[0,1,2,3]
 | 67=>[0,2]
 | 68=>[0,2,3,4,5,7,10,13,15]
 | 69=>[0,1,2,6,7,8,13,14,21,22,26,27,35,46,47,48,59,65]
 | 70=>[0,2,3]
 | 71=>[0,1,2,6]
 | 72=>[0,1,4]
 | 73=>[0,1,4,5,9,10,18,41,42,43]
 | 74=>[0,1,2,3,4,9,14]
 | 75=>[0,1,4,5,6,18]
 | 76=>[0,1,4,5,10,11,17,24]
 | 77=>[0,1,2,3,6,7,24,29,41,43,44,57]
 | 78=>[0,1,4,5,7,10,11,12,13,14,24]
 | 79=>[0,1,2,4]
 | 80=>[0,1,2,6,7,11]
 | 81=>[0,1,2,5,7]
 | 82=>[0,2,3]
 | 83=>[0,1,4,5,6,7,8,9,10,11,12,31,44,45,54,62,77,88,110,122,128,146,151,154]
 | 84=>[0,1,2,3,4]
 | 85=>[0,1,4]
 | 86=>[0,1,2,6,7,8,9,10,18,21,37]
 | 87=>[0,2,3,7,8,11]
 | 88=>[0,2,3,4,7,10]
 | 89=>[0,1,2]
 | 90=>[0,1,2,6,7,8,28,62,90,95,96,97,109]
 | 91=>[0,1,2,6,7,8,10,12]
 | 92=>[0,1,2,4]
 | 93=>[0,2]
 | 94=>[0,1,2,6,7,8,9,20,32,33,34,39,46,59,66]
 | 95=>[0,2,5]
 | 96=>[0,2,3,4,7,10]
 | 97=>[0,2,4]
 | 98=>[0,2,3]
 | 99=>[0,1,4,5,6,7,8,9,10,11,12,13,14,15,16,20,99,139,161]
 | 100=>[0,1,2,3,4,10,11,12,13,14,15,16,17,18,28,30,34,46,68,89,94]
 | 101=>[0,2]
 | 102=>[0,2]
 | 104=>[0,2,3]
 | 105=>[0,2]
 | 107=>[0,1,4,5,6,7,9,11,17,23,34]
 | 125=>[]
 | 126=>[]
 | _=>[]
def dU:FuncId→Bool
 | 25=>true
 | 26=>true
 | 28=>true
 | 31=>true
 | 35=>true
 | 51=>true
 | 53=>true
 | 54=>true
 | 55=>true
 | 56=>true
 | 71=>true
 | 72=>true
 | 73=>true
 | 75=>true
 | 76=>true
 | 80=>true
 | 83=>true
 | 85=>true
 | 86=>true
 | 87=>true
 | 91=>true
 | 94=>true
 | 95=>true
 | _=>false
def keepR:FuncId→Bool
 | 36=>true
 | 53=>true
 | 54=>true
 | 76=>true
 | 48=>true
 | 50=>true
 | 49=>true
 | 43=>true
 | 72=>true
 | 73=>true
 | 51=>true
 | 71=>true
 | 80=>true
 | 91=>true
 | _=>false
def wU:TypeId→Bool
 | 42=>true
 | 43=>true
 | 72=>true
 | _=>false
@[simp] theorem kR3:keepR 3=false:=(rfl)
@[simp] theorem gS3:GS 3=[0,1,2,4,5,6,7,8,9,12,17,32,37,42]:=(rfl)
@[simp] theorem kR4:keepR 4=false:=(rfl)
@[simp] theorem gS4:GS 4=[0,1,4,5,6,7,8,9,17,34]:=(rfl)
@[simp] theorem oA5:dU 5=false:=(rfl)
@[simp] theorem kR5:keepR 5=false:=(rfl)
@[simp] theorem gS5:GS 5=[0,1,2,4,10,16,22]:=(rfl)
@[simp] theorem oA6:dU 6=false:=(rfl)
@[simp] theorem kR6:keepR 6=false:=(rfl)
@[simp] theorem gS6:GS 6=[0,1,2,4,8]:=(rfl)
@[simp] theorem oA7:dU 7=false:=(rfl)
@[simp] theorem kR7:keepR 7=false:=(rfl)
@[simp] theorem gS7:GS 7=[0,1,2,3]:=(rfl)
@[simp] theorem oA8:dU 8=false:=(rfl)
@[simp] theorem kR8:keepR 8=false:=(rfl)
@[simp] theorem gS8:GS 8=[0,2,3,4,11]:=(rfl)
@[simp] theorem oA9:dU 9=false:=(rfl)
@[simp] theorem gS9:GS 9=[0,1,2,4,5,9]:=(rfl)
@[simp] theorem AWB:dU 10=false:=(rfl)
@[simp] theorem AYR:keepR 10=false:=(rfl)
@[simp] theorem Ab9:GS 10=[0,1,2,3,4,9,14,20,26,32]:=(rfl)
@[simp] theorem AWA:dU 11=false:=(rfl)
@[simp] theorem AYQ:keepR 11=false:=(rfl)
@[simp] theorem Ab8:GS 11=[0,1,4,5,10,14,25]:=(rfl)
@[simp] theorem AW9:dU 12=false:=(rfl)
@[simp] theorem AYP:keepR 12=false:=(rfl)
@[simp] theorem Ab7:GS 12=[0,2,3]:=(rfl)
@[simp] theorem AW8:dU 13=false:=(rfl)
@[simp] theorem AYO:keepR 13=false:=(rfl)
@[simp] theorem Ab6:GS 13=[0,1,2,3,4]:=(rfl)
@[simp] theorem AW7:dU 14=false:=(rfl)
@[simp] theorem AYN:keepR 14=false:=(rfl)
@[simp] theorem Ab5:GS 14=[0,1,2,4,5,6]:=(rfl)
@[simp] theorem AW6:dU 15=false:=(rfl)
@[simp] theorem AYM:keepR 15=false:=(rfl)
@[simp] theorem Ab4:GS 15=[0,1,4,5,11,15,25]:=(rfl)
@[simp] theorem AW5:dU 16=false:=(rfl)
@[simp] theorem AYL:keepR 16=false:=(rfl)
@[simp] theorem Ab3:GS 16=[0,1,4,10]:=(rfl)
@[simp] theorem AW4:dU 17=false:=(rfl)
@[simp] theorem AYK:keepR 17=false:=(rfl)
@[simp] theorem Ab2:GS 17=[0,1,4,5,11,15,25]:=(rfl)
@[simp] theorem AVZ:dU 18=false:=(rfl)
@[simp] theorem AYJ:keepR 18=false:=(rfl)
@[simp] theorem Ab1:GS 18=[0,1,2,4,7]:=(rfl)
@[simp] theorem AVY:dU 19=false:=(rfl)
@[simp] theorem AYI:keepR 19=false:=(rfl)
@[simp] theorem Ab0:GS 19=[0,1,2,3,4,5,6,15,26,42,58]:=(rfl)
@[simp] theorem AVX:dU 20=false:=(rfl)
@[simp] theorem AYH:keepR 20=false:=(rfl)
@[simp] theorem AaZ:GS 20=[0,1,2,3,4,5,12,29]:=(rfl)
@[simp] theorem AVW:dU 21=false:=(rfl)
@[simp] theorem AYG:keepR 21=false:=(rfl)
@[simp] theorem AaY:GS 21=[0,2,3,4,11]:=(rfl)
@[simp] theorem AVV:dU 22=false:=(rfl)
@[simp] theorem AYF:keepR 22=false:=(rfl)
@[simp] theorem AaX:GS 22=[0,2,3,4,11]:=(rfl)
@[simp] theorem AVU:dU 23=false:=(rfl)
@[simp] theorem AYE:keepR 23=false:=(rfl)
@[simp] theorem AaW:GS 23=[0,1,2,4,7]:=(rfl)
@[simp] theorem AaV:GS 24=[0,2,3,4,5,6,7,14,38,39,40,76,77,78]:=(rfl)
@[simp] theorem AaU:GS 25=[0,1,4,12,13,14]:=(rfl)
@[simp] theorem AaT:GS 26=[0,2,7,8,9]:=(rfl)
@[simp] theorem AVT:dU 27=false:=(rfl)
@[simp] theorem AaS:GS 27=[0,1,4,5,6,12,39,40,41]:=(rfl)
@[simp] theorem AVS:dU 28=true:=(rfl)
@[simp] theorem AYD:keepR 28=false:=(rfl)
@[simp] theorem AaR:GS 28=[0,2,7]:=(rfl)
@[simp] theorem AVR:dU 29=false:=(rfl)
@[simp] theorem AYC:keepR 29=false:=(rfl)
@[simp] theorem AaQ:GS 29=[0,1,2]:=(rfl)
@[simp] theorem AVQ:dU 30=false:=(rfl)
@[simp] theorem AYB:keepR 30=false:=(rfl)
@[simp] theorem AaP:GS 30=[0,2]:=(rfl)
@[simp] theorem AVP:dU 31=true:=(rfl)
@[simp] theorem AaO:GS 31=[0,2,3,4,5,6,13,37,38,39]:=(rfl)
@[simp] theorem AYA:keepR 32=false:=(rfl)
@[simp] theorem AaN:GS 32=[0,1,2,4,8]:=(rfl)
@[simp] theorem AVO:dU 33=false:=(rfl)
@[simp] theorem AY9:keepR 33=false:=(rfl)
@[simp] theorem AaM:GS 33=[0,1,4,5,10,14,26]:=(rfl)
@[simp] theorem AVN:dU 34=false:=(rfl)
@[simp] theorem AY8:keepR 34=false:=(rfl)
@[simp] theorem AaL:GS 34=[0,1,4,5,10,14,26]:=(rfl)
@[simp] theorem AVM:dU 35=true:=(rfl)
@[simp] theorem AY7:keepR 35=false:=(rfl)
@[simp] theorem AaK:GS 35=[0,2,3,4,5,13]:=(rfl)
@[simp] theorem AVL:dU 36=false:=(rfl)
@[simp] theorem AY6:keepR 36=true:=(rfl)
@[simp] theorem AaJ:GS 36=[0,2,5]:=(rfl)
@[simp] theorem AVK:dU 37=false:=(rfl)
@[simp] theorem AY5:keepR 37=false:=(rfl)
@[simp] theorem AaI:GS 37=[0,1,2,4,10]:=(rfl)
@[simp] theorem AVJ:dU 38=false:=(rfl)
@[simp] theorem AY4:keepR 38=false:=(rfl)
@[simp] theorem AaH:GS 38=[0,2,3,7,15]:=(rfl)
@[simp] theorem AVI:dU 39=false:=(rfl)
@[simp] theorem AY3:keepR 39=false:=(rfl)
@[simp] theorem AaG:GS 39=[0,1,2,3,6,7,8,9,23,28,41,47,48,55,61,70,74,82,106,114,122,126,131,144]:=(rfl)
@[simp] theorem AVH:dU 40=false:=(rfl)
@[simp] theorem AY2:keepR 40=false:=(rfl)
@[simp] theorem AaF:GS 40=[0]:=(rfl)
@[simp] theorem AVG:dU 41=false:=(rfl)
@[simp] theorem AY1:keepR 41=false:=(rfl)
@[simp] theorem AaE:GS 41=[0,2,4,6,12]:=(rfl)
@[simp] theorem AVF:dU 42=false:=(rfl)
@[simp] theorem AY0:keepR 42=false:=(rfl)
@[simp] theorem AaD:GS 42=[0,1,2,3,4,6,7,13,28]:=(rfl)
@[simp] theorem AVE:dU 43=false:=(rfl)
@[simp] theorem AXZ:keepR 43=true:=(rfl)
@[simp] theorem AaC:GS 43=[0,1,2,3,4,5,19,37]:=(rfl)
@[simp] theorem AVD:dU 44=false:=(rfl)
@[simp] theorem AXY:keepR 44=false:=(rfl)
@[simp] theorem AaB:GS 44=[0,1,2,3,4,7,19]:=(rfl)
@[simp] theorem AVC:dU 45=false:=(rfl)
@[simp] theorem AXX:keepR 45=false:=(rfl)
@[simp] theorem AaA:GS 45=[0,1,2,3]:=(rfl)
@[simp] theorem AVB:dU 46=false:=(rfl)
@[simp] theorem AXW:keepR 46=false:=(rfl)
@[simp] theorem Aa9:GS 46=[0,2,4,12,13,14,15,16,21]:=(rfl)
@[simp] theorem AVA:dU 47=false:=(rfl)
@[simp] theorem AXV:keepR 47=false:=(rfl)
@[simp] theorem Aa8:GS 47=[0,1,2,6,7,8,9,10,31,60,87,92,106,118,119,120,137]:=(rfl)
@[simp] theorem AV9:dU 48=false:=(rfl)
@[simp] theorem AXU:keepR 48=true:=(rfl)
@[simp] theorem Aa7:GS 48=[0,2,3,6]:=(rfl)
@[simp] theorem AV8:dU 49=false:=(rfl)
@[simp] theorem AXT:keepR 49=true:=(rfl)
@[simp] theorem Aa6:GS 49=[0,2,3,6]:=(rfl)
@[simp] theorem AV7:dU 50=false:=(rfl)
@[simp] theorem AXS:keepR 50=true:=(rfl)
@[simp] theorem Aa5:GS 50=[0,2,3,6]:=(rfl)
@[simp] theorem AV6:dU 51=true:=(rfl)
@[simp] theorem AXR:keepR 51=true:=(rfl)
@[simp] theorem Aa4:GS 51=[0,1,4,6,7,8,23,35,36,37,38,51,52,53,70,71,72]:=(rfl)
@[simp] theorem AV5:dU 52=false:=(rfl)
@[simp] theorem AXQ:keepR 52=false:=(rfl)
@[simp] theorem Aa3:GS 52=[0,1,2,3,4,9,14,20,26]:=(rfl)
@[simp] theorem AV4:dU 53=true:=(rfl)
@[simp] theorem AXP:keepR 53=true:=(rfl)
@[simp] theorem Aa2:GS 53=[0,2,3,4,10]:=(rfl)
@[simp] theorem AV3:dU 54=true:=(rfl)
@[simp] theorem AXO:keepR 54=true:=(rfl)
@[simp] theorem Aa1:GS 54=[0,1,4,5,10,11,17,23,33]:=(rfl)
@[simp] theorem AV2:dU 55=true:=(rfl)
@[simp] theorem AXN:keepR 55=false:=(rfl)
@[simp] theorem Aa0:GS 55=[0,1,4,5,6,24,36]:=(rfl)
@[simp] theorem AV1:dU 56=true:=(rfl)
@[simp] theorem AXM:keepR 56=false:=(rfl)
@[simp] theorem AZZ:GS 56=[0,1,4]:=(rfl)
@[simp] theorem AV0:dU 57=false:=(rfl)
@[simp] theorem AXL:keepR 57=false:=(rfl)
@[simp] theorem AZY:GS 57=[0,1,2,6]:=(rfl)
@[simp] theorem AUZ:dU 58=false:=(rfl)
@[simp] theorem AXK:keepR 58=false:=(rfl)
@[simp] theorem AZX:GS 58=[0,1,2,3,4,6,7,9,12,14,16]:=(rfl)
@[simp] theorem AUY:dU 59=false:=(rfl)
@[simp] theorem AXJ:keepR 59=false:=(rfl)
@[simp] theorem AZW:GS 59=[0,1,2,4]:=(rfl)
@[simp] theorem AUX:dU 60=false:=(rfl)
@[simp] theorem AXI:keepR 60=false:=(rfl)
@[simp] theorem AZV:GS 60=[0,1,4,5,9,18,21]:=(rfl)
@[simp] theorem AUW:dU 61=false:=(rfl)
@[simp] theorem AXH:keepR 61=false:=(rfl)
@[simp] theorem AZU:GS 61=[0,1,4,5,9,35]:=(rfl)
@[simp] theorem AUV:dU 62=false:=(rfl)
@[simp] theorem AXG:keepR 62=false:=(rfl)
@[simp] theorem AZT:GS 62=[0,1,2,4]:=(rfl)
@[simp] theorem AUU:dU 63=false:=(rfl)
@[simp] theorem AXF:keepR 63=false:=(rfl)
@[simp] theorem AZS:GS 63=[0]:=(rfl)
@[simp] theorem AUT:dU 64=false:=(rfl)
@[simp] theorem AXE:keepR 64=false:=(rfl)
@[simp] theorem AZR:GS 64=[0,1,2,3,4,16]:=(rfl)
@[simp] theorem AUS:dU 65=false:=(rfl)
@[simp] theorem AXD:keepR 65=false:=(rfl)
@[simp] theorem AZQ:GS 65=[0,1,2]:=(rfl)
@[simp] theorem AUR:dU 66=false:=(rfl)
@[simp] theorem AXC:keepR 66=false:=(rfl)
@[simp] theorem AZP:GS 66=[0,1,2,3]:=(rfl)
@[simp] theorem AUQ:dU 67=false:=(rfl)
@[simp] theorem AXB:keepR 67=false:=(rfl)
@[simp] theorem AZO:GS 67=[0,2]:=(rfl)
@[simp] theorem AUP:dU 68=false:=(rfl)
@[simp] theorem AXA:keepR 68=false:=(rfl)
@[simp] theorem AZN:GS 68=[0,2,3,4,5,7,10,13,15]:=(rfl)
@[simp] theorem AUO:dU 69=false:=(rfl)
@[simp] theorem AX9:keepR 69=false:=(rfl)
@[simp] theorem AZM:GS 69=[0,1,2,6,7,8,13,14,21,22,26,27,35,46,47,48,59,65]:=(rfl)
@[simp] theorem AUN:dU 70=false:=(rfl)
@[simp] theorem AX8:keepR 70=false:=(rfl)
@[simp] theorem AZL:GS 70=[0,2,3]:=(rfl)
@[simp] theorem AUM:dU 71=true:=(rfl)
@[simp] theorem AX7:keepR 71=true:=(rfl)
@[simp] theorem AZK:GS 71=[0,1,2,6]:=(rfl)
@[simp] theorem AUL:dU 72=true:=(rfl)
@[simp] theorem AX6:keepR 72=true:=(rfl)
@[simp] theorem AZJ:GS 72=[0,1,4]:=(rfl)
@[simp] theorem AUK:dU 73=true:=(rfl)
@[simp] theorem AX5:keepR 73=true:=(rfl)
@[simp] theorem AZI:GS 73=[0,1,4,5,9,10,18,41,42,43]:=(rfl)
@[simp] theorem AUJ:dU 74=false:=(rfl)
@[simp] theorem AX4:keepR 74=false:=(rfl)
@[simp] theorem AZH:GS 74=[0,1,2,3,4,9,14]:=(rfl)
@[simp] theorem AUI:dU 75=true:=(rfl)
@[simp] theorem AX3:keepR 75=false:=(rfl)
@[simp] theorem AZG:GS 75=[0,1,4,5,6,18]:=(rfl)
@[simp] theorem AUH:dU 76=true:=(rfl)
@[simp] theorem AX2:keepR 76=true:=(rfl)
@[simp] theorem AZF:GS 76=[0,1,4,5,10,11,17,24]:=(rfl)
@[simp] theorem AUG:dU 77=false:=(rfl)
@[simp] theorem AX1:keepR 77=false:=(rfl)
@[simp] theorem AZE:GS 77=[0,1,2,3,6,7,24,29,41,43,44,57]:=(rfl)
@[simp] theorem AUF:dU 78=false:=(rfl)
@[simp] theorem AX0:keepR 78=false:=(rfl)
@[simp] theorem AZD:GS 78=[0,1,4,5,7,10,11,12,13,14,24]:=(rfl)
@[simp] theorem AUE:dU 79=false:=(rfl)
@[simp] theorem AWZ:keepR 79=false:=(rfl)
@[simp] theorem AZC:GS 79=[0,1,2,4]:=(rfl)
@[simp] theorem AUD:dU 80=true:=(rfl)
@[simp] theorem AWY:keepR 80=true:=(rfl)
@[simp] theorem AZB:GS 80=[0,1,2,6,7,11]:=(rfl)
@[simp] theorem AUC:dU 81=false:=(rfl)
@[simp] theorem AWX:keepR 81=false:=(rfl)
@[simp] theorem AZA:GS 81=[0,1,2,5,7]:=(rfl)
@[simp] theorem AUB:dU 82=false:=(rfl)
@[simp] theorem AWW:keepR 82=false:=(rfl)
@[simp] theorem AZ9:GS 82=[0,2,3]:=(rfl)
@[simp] theorem AUA:dU 83=true:=(rfl)
@[simp] theorem AWV:keepR 83=false:=(rfl)
@[simp] theorem AZ8:GS 83=[0,1,4,5,6,7,8,9,10,11,12,31,44,45,54,62,77,88,110,122,128,146,151,154]:=(rfl)
@[simp] theorem AU9:dU 84=false:=(rfl)
@[simp] theorem AWU:keepR 84=false:=(rfl)
@[simp] theorem AZ7:GS 84=[0,1,2,3,4]:=(rfl)
@[simp] theorem AU8:dU 85=true:=(rfl)
@[simp] theorem AWT:keepR 85=false:=(rfl)
@[simp] theorem AZ6:GS 85=[0,1,4]:=(rfl)
@[simp] theorem AU7:dU 86=true:=(rfl)
@[simp] theorem AWS:keepR 86=false:=(rfl)
@[simp] theorem AZ5:GS 86=[0,1,2,6,7,8,9,10,18,21,37]:=(rfl)
@[simp] theorem AU6:dU 87=true:=(rfl)
@[simp] theorem AWR:keepR 87=false:=(rfl)
@[simp] theorem AZ4:GS 87=[0,2,3,7,8,11]:=(rfl)
@[simp] theorem AU5:dU 88=false:=(rfl)
@[simp] theorem AWQ:keepR 88=false:=(rfl)
@[simp] theorem AZ3:GS 88=[0,2,3,4,7,10]:=(rfl)
@[simp] theorem AU4:dU 89=false:=(rfl)
@[simp] theorem AWP:keepR 89=false:=(rfl)
@[simp] theorem AZ2:GS 89=[0,1,2]:=(rfl)
@[simp] theorem AU3:dU 90=false:=(rfl)
@[simp] theorem AWO:keepR 90=false:=(rfl)
@[simp] theorem AZ1:GS 90=[0,1,2,6,7,8,28,62,90,95,96,97,109]:=(rfl)
@[simp] theorem AU2:dU 91=true:=(rfl)
@[simp] theorem AWN:keepR 91=true:=(rfl)
@[simp] theorem AZ0:GS 91=[0,1,2,6,7,8,10,12]:=(rfl)
@[simp] theorem AU1:dU 92=false:=(rfl)
@[simp] theorem AWM:keepR 92=false:=(rfl)
@[simp] theorem AYZ:GS 92=[0,1,2,4]:=(rfl)
@[simp] theorem AU0:dU 93=false:=(rfl)
@[simp] theorem AWL:keepR 93=false:=(rfl)
@[simp] theorem AYY:GS 93=[0,2]:=(rfl)
@[simp] theorem ATZ:dU 94=true:=(rfl)
@[simp] theorem AWK:keepR 94=false:=(rfl)
@[simp] theorem AYX:GS 94=[0,1,2,6,7,8,9,20,32,33,34,39,46,59,66]:=(rfl)
@[simp] theorem ATY:dU 95=true:=(rfl)
@[simp] theorem AWJ:keepR 95=false:=(rfl)
@[simp] theorem AYW:GS 95=[0,2,5]:=(rfl)
@[simp] theorem ATX:dU 96=false:=(rfl)
@[simp] theorem AWI:keepR 96=false:=(rfl)
@[simp] theorem AYV:GS 96=[0,2,3,4,7,10]:=(rfl)
@[simp] theorem ATW:dU 97=false:=(rfl)
@[simp] theorem AWH:keepR 97=false:=(rfl)
@[simp] theorem AYU:GS 97=[0,2,4]:=(rfl)
@[simp] theorem ARY:dU 101=false:=(rfl)
@[simp] theorem AS8:keepR 101=false:=(rfl)
@[simp] theorem ASE:GS 101=[0,2]:=(rfl)
@[simp] theorem ARX:dU 107=false:=(rfl)
@[simp] theorem AS7:keepR 107=false:=(rfl)
@[simp] theorem ASD:GS 107=[0,1,4,5,6,7,9,11,17,23,34]:=(rfl)
@[simp] theorem AbA:wU 43=true:=(rfl)
noncomputable def AGO:FuncId→Option (List AV→StL→Option (AV×StL))
 | 31=>some WC
 | 24=>some ADI
 | _=>none
noncomputable def C0:Ctx:={ P:=Tryd.prog,G:=GS,ownArgs:=dU,keepRes:=keepR,eqT:=wU,prim:=AGO }
@[simp] theorem dk2:bE Tryd.prog 2=some (.int .i64):=by kernel_rfl
@[simp] theorem dk3:bE Tryd.prog 3=some (.int .i64):=by kernel_rfl
@[simp] theorem sz3:iD Tryd.prog 3=some 1:=by kernel_rfl
@[simp] theorem by3:XJ Tryd.prog 3=some 8:=by kernel_rfl
@[simp] theorem ze3:zeroOf Tryd.prog 3=some [(.int .i64 0)]:=by kernel_rfl
@[simp] theorem dk4:bE Tryd.prog 4=some .bool:=by kernel_rfl
@[simp] theorem sz4:iD Tryd.prog 4=some 1:=by kernel_rfl
@[simp] theorem dk5:bE Tryd.prog 5=some (.int .u8):=by kernel_rfl
@[simp] theorem sz5:iD Tryd.prog 5=some 1:=by kernel_rfl
@[simp] theorem by5:XJ Tryd.prog 5=some 1:=by kernel_rfl
@[simp] theorem ze5:zeroOf Tryd.prog 5=some [(.int .u8 0)]:=by kernel_rfl
@[simp] theorem dk9:bE Tryd.prog 9=some .string:=by kernel_rfl
@[simp] theorem sz9:iD Tryd.prog 9=some 1:=by kernel_rfl
@[simp] theorem ze9:zeroOf Tryd.prog 9=some [(.string ⟨#[]⟩)]:=by kernel_rfl
@[simp] theorem AbT:bE Tryd.prog 22=some (.slice 74):=by kernel_rfl
@[simp] theorem ATV:iD Tryd.prog 22=some 1:=by kernel_rfl
@[simp] theorem AbS:bE Tryd.prog 23=some (.slice 3):=by kernel_rfl
@[simp] theorem ATU:iD Tryd.prog 23=some 1:=by kernel_rfl
@[simp] theorem AbR:bE Tryd.prog 24=some (.slice 26):=by kernel_rfl
@[simp] theorem ATT:iD Tryd.prog 24=some 1:=by kernel_rfl
@[simp] theorem AbQ:bE Tryd.prog 26=some .strct:=by kernel_rfl
@[simp] theorem ATS:iD Tryd.prog 26=some 5:=by kernel_rfl
@[simp] theorem ARC:dP Tryd.prog 26 0=some (3,0):=by kernel_rfl
@[simp] theorem ARB:dP Tryd.prog 26 1=some (3,1):=by kernel_rfl
@[simp] theorem ARA:dP Tryd.prog 26 2=some (22,2):=by kernel_rfl
@[simp] theorem AR9:dP Tryd.prog 26 3=some (23,3):=by kernel_rfl
@[simp] theorem AR8:dP Tryd.prog 26 4=some (24,4):=by kernel_rfl
@[simp] theorem AbP:bE Tryd.prog 29=some (.slice 45):=by kernel_rfl
@[simp] theorem ATR:iD Tryd.prog 29=some 1:=by kernel_rfl
@[simp] theorem AbO:bE Tryd.prog 30=some (.slice 32):=by kernel_rfl
@[simp] theorem ATQ:iD Tryd.prog 30=some 1:=by kernel_rfl
@[simp] theorem AbN:bE Tryd.prog 32=some .strct:=by kernel_rfl
@[simp] theorem ATP:iD Tryd.prog 32=some 5:=by kernel_rfl
@[simp] theorem Ac9:XJ Tryd.prog 32=some 88:=by kernel_rfl
@[simp] theorem ATG:zeroOf Tryd.prog 32=some [(.int .i64 0),(.int .i64 0),(.slice none 0 0),(.slice none 0 0),(.slice none 0 0)]:=by kernel_rfl
@[simp] theorem AR7:dP Tryd.prog 32 0=some (3,0):=by kernel_rfl
@[simp] theorem AR6:dP Tryd.prog 32 1=some (3,1):=by kernel_rfl
@[simp] theorem AR5:dP Tryd.prog 32 2=some (29,2):=by kernel_rfl
@[simp] theorem AR4:dP Tryd.prog 32 3=some (23,3):=by kernel_rfl
@[simp] theorem AR3:dP Tryd.prog 32 4=some (30,4):=by kernel_rfl
@[simp] theorem AbM:bE Tryd.prog 38=some (.slice 5):=by kernel_rfl
@[simp] theorem ATO:iD Tryd.prog 38=some 1:=by kernel_rfl
@[simp] theorem AbL:bE Tryd.prog 43=some .strct:=by kernel_rfl
@[simp] theorem ATN:iD Tryd.prog 43=some 2:=by kernel_rfl
@[simp] theorem ATF:zeroOf Tryd.prog 43=some [(.bool false),(.int .i64 0)]:=by kernel_rfl
@[simp] theorem AR2:dP Tryd.prog 43 0=some (4,0):=by kernel_rfl
@[simp] theorem AR1:dP Tryd.prog 43 1=some (3,1):=by kernel_rfl
@[simp] theorem AbK:bE Tryd.prog 45=some .strct:=by kernel_rfl
@[simp] theorem ATM:iD Tryd.prog 45=some 5:=by kernel_rfl
@[simp] theorem Ac8:XJ Tryd.prog 45=some 56:=by kernel_rfl
@[simp] theorem ATD:zeroOf Tryd.prog 45=some [(.int .i64 0),(.int .i64 0),(.bool false),(.int .i64 0),(.slice none 0 0)]:=by kernel_rfl
@[simp] theorem AR0:dP Tryd.prog 45 0=some (3,0):=by kernel_rfl
@[simp] theorem AQZ:dP Tryd.prog 45 1=some (3,1):=by kernel_rfl
@[simp] theorem AQY:dP Tryd.prog 45 2=some (43,2):=by kernel_rfl
@[simp] theorem AQX:dP Tryd.prog 45 3=some (29,4):=by kernel_rfl
@[simp] theorem AbJ:bE Tryd.prog 58=some .other:=by kernel_rfl
@[simp] theorem ATL:iD Tryd.prog 58=some 1:=by kernel_rfl
@[simp] theorem Ac7:XJ Tryd.prog 58=some 8:=by kernel_rfl
@[simp] theorem ATC:zeroOf Tryd.prog 58=some [(.pointer none)]:=by kernel_rfl
@[simp] theorem AbI:bE Tryd.prog 60=some .other:=by kernel_rfl
@[simp] theorem ATK:iD Tryd.prog 60=some 1:=by kernel_rfl
@[simp] theorem Ac6:XJ Tryd.prog 60=some 8:=by kernel_rfl
@[simp] theorem ATB:zeroOf Tryd.prog 60=some [(.pointer none)]:=by kernel_rfl
@[simp] theorem AbH:bE Tryd.prog 69=some .other:=by kernel_rfl
@[simp] theorem ATJ:iD Tryd.prog 69=some 1:=by kernel_rfl
@[simp] theorem AbG:bE Tryd.prog 72=some .strct:=by kernel_rfl
@[simp] theorem ATI:iD Tryd.prog 72=some 2:=by kernel_rfl
@[simp] theorem AQW:dP Tryd.prog 72 0=some (4,0):=by kernel_rfl
@[simp] theorem AQV:dP Tryd.prog 72 1=some (3,1):=by kernel_rfl
@[simp] theorem AbF:bE Tryd.prog 74=some .strct:=by kernel_rfl
@[simp] theorem ATH:iD Tryd.prog 74=some 5:=by kernel_rfl
@[simp] theorem AQU:dP Tryd.prog 74 0=some (3,0):=by kernel_rfl
@[simp] theorem AQT:dP Tryd.prog 74 1=some (3,1):=by kernel_rfl
@[simp] theorem AQS:dP Tryd.prog 74 2=some (72,2):=by kernel_rfl
@[simp] theorem AQR:dP Tryd.prog 74 3=some (22,4):=by kernel_rfl
@[simp] theorem AbE:bE Tryd.prog 77=some (.slice 9):=by kernel_rfl
@[simp] theorem AbD:bE Tryd.prog 83=some (.slice 58):=by kernel_rfl
@[simp] theorem AbC:bE Tryd.prog 86=some (.slice 60):=by kernel_rfl
@[simp] theorem AbB:bE Tryd.prog 94=some .strct:=by kernel_rfl
@[simp] theorem ATA:zeroOf Tryd.prog 94=some [(.slice none 0 0),(.int .i64 0)]:=by kernel_rfl
@[simp] theorem AQQ:dP Tryd.prog 94 0=some (38,0):=by kernel_rfl
@[simp] theorem AQP:dP Tryd.prog 94 1=some (3,1):=by kernel_rfl
@[simp] theorem ASJ:bE Tryd.prog 105=some (.array 2 3):=by kernel_rfl
@[simp] theorem ARQ:zeroOf Tryd.prog 105=some [(.int .i64 0),(.int .i64 0)]:=by kernel_rfl
@[simp] theorem ASI:bE Tryd.prog 112=some (.array 9 9):=by kernel_rfl
@[simp] theorem ARS:iD Tryd.prog 112=some 9:=by kernel_rfl
@[simp] theorem ARP:zeroOf Tryd.prog 112=some [(.string ⟨#[]⟩),(.string ⟨#[]⟩),(.string ⟨#[]⟩),(.string ⟨#[]⟩),(.string ⟨#[]⟩),(.string ⟨#[]⟩),(.string ⟨#[]⟩),(.string ⟨#[]⟩),(.string ⟨#[]⟩)]:=by kernel_rfl
@[simp] theorem ASH:bE Tryd.prog 115=some .strct:=by kernel_rfl
@[simp] theorem ARO:zeroOf Tryd.prog 115=some [(.pointer none),(.slice none 0 0),(.int .i64 0),(.int .i64 0)]:=by kernel_rfl
@[simp] theorem AP9:dP Tryd.prog 115 0=some (69,0):=by kernel_rfl
@[simp] theorem AP8:dP Tryd.prog 115 1=some (23,1):=by kernel_rfl
@[simp] theorem AP7:dP Tryd.prog 115 2=some (3,2):=by kernel_rfl
@[simp] theorem AP6:dP Tryd.prog 115 3=some (3,3):=by kernel_rfl
@[simp] theorem ASG:bE Tryd.prog 121=some (.int .u64):=by kernel_rfl
@[simp] theorem ASF:bE Tryd.prog 124=some (.array 12 9):=by kernel_rfl
@[simp] theorem ARR:iD Tryd.prog 124=some 12:=by kernel_rfl
@[simp] theorem ARN:zeroOf Tryd.prog 124=some [(.string ⟨#[]⟩),(.string ⟨#[]⟩),(.string ⟨#[]⟩),(.string ⟨#[]⟩),(.string ⟨#[]⟩),(.string ⟨#[]⟩),(.string ⟨#[]⟩),(.string ⟨#[]⟩),(.string ⟨#[]⟩),(.string ⟨#[]⟩),(.string ⟨#[]⟩),(.string ⟨#[]⟩)]:=by kernel_rfl
end Go.Proofs.YtmcjmafajkeecaaDoor
namespace Go.Av
def fnT (fn:Func):Bool:=(fn.name != "runtime.NumGoroutine") && match fn.body with
 | some c=>codeOk fn.ntmps c
 | none=>true
theorem X5 {α:Type} {p:α→Bool} {l:List α} (c n:Nat) (hc:0<c) (hl:l.length≤c*n) (h:∀ i,i<n→((l.drop (c*i)).take c).all p=true):l.all p=true:=by
 rw[zJ];intro x hx;obtain⟨j,hj,rfl⟩:=List.getElem_of_mem hx;have hd:c*(j / c)+j % c=j:=Nat.div_add_mod j c;have hm:j % c<c:=Nat.mod_lt _ hc
 have hi:j / c<n:=by
  rw[Nat.div_lt_iff_lt_mul hc,zB];omega
 refine zJ.1 (h (j / c) hi) _ ?_;refine zT (i:=j % c) ?_;rw[zH,if_pos hm,yM,hd,zX hj]
theorem ZY {P:Program} (h:P.funcs.toList.all fnT=true):SG P=true:=h
end Go.Av
namespace Go.Proofs.YtmcjmafajkeecaaDoor
open Go Go.Av
set_option maxHeartbeats 2000000
theorem ft:EH Tryd.prog=true:=by kernel_rfl
theorem nt0:((Tryd.prog.funcs.toList.drop (25*0)).take 25).all fnT=true:=by kernel_rfl
theorem nt1:((Tryd.prog.funcs.toList.drop (25*1)).take 25).all fnT=true:=by kernel_rfl
theorem nt2:((Tryd.prog.funcs.toList.drop (25*2)).take 25).all fnT=true:=by kernel_rfl
theorem nt3:((Tryd.prog.funcs.toList.drop (25*3)).take 25).all fnT=true:=by kernel_rfl
theorem nt4:((Tryd.prog.funcs.toList.drop (25*4)).take 25).all fnT=true:=by kernel_rfl
theorem nt5:((Tryd.prog.funcs.toList.drop (25*5)).take 25).all fnT=true:=by kernel_rfl
theorem ntl:Tryd.prog.funcs.toList.length≤25*6:=zP (by kernel_rfl)
theorem nt:SG Tryd.prog=true:=ZY (X5 25 6 (by decide) ntl fun i hi=>by
 have h:i=0∨i=1∨i=2∨i=3∨i=4∨i=5:=by omega
 rcases h with rfl|rfl|rfl|rfl|rfl|rfl
 ·exact nt0
 ·exact nt1
 ·exact nt2
 ·exact nt3
 ·exact nt4
 ·exact nt5)
theorem mo:Tryd.prog.follows .mixedOrders=true:=by kernel_rfl
theorem eqS:∀ t,wU t=true→SI Tryd.prog t=true:=by
 intro t h;unfold wU at h;split at h
 ·kernel_rfl
 ·kernel_rfl
 ·kernel_rfl
 ·cases h
@[simp] theorem C_P:C0.P=Tryd.prog:=(rfl)
@[simp] theorem C_G (f):C0.G f=GS f:=(rfl)
@[simp] theorem C_o (f):C0.ownArgs f=dU f:=(rfl)
@[simp] theorem C_k (f):C0.keepRes f=keepR f:=(rfl)
@[simp] theorem C_e (f):C0.eqT f=wU f:=(rfl)
@[simp] theorem C_t:C0.tree=false:=(rfl)
theorem qV:∀ {l:List UInt8} {j:Nat},j<l.length→∃ x:Nat,x<256∧gW (aO l) j=some [.lit (.int .u8 x)]
 | [],j,h=>by simp at h
 | b::l,0,_=>⟨b.toNat,b.toNat_lt,by simp[aO,gW]⟩
 | b::l,j+1,h=>by
  obtain⟨x,h1,h2⟩:=qV (l:=l) (j:=j) (by simpa using h);exact⟨x,h1,by simpa [aO,gW]using h2⟩
theorem eD:∀ (l:List UInt8),(aO l).length=l.length
 | []=>rfl
 | _::l=>by simp[aO,eD l]
theorem wrap64 {x:Int} (h1:-9223372036854775808≤x) (h2:x<9223372036854775808):IntKind.i64.wrap x=x:=by
 unfold IntKind.wrap;simp[IntKind.signed,IntKind.bits];omega
theorem wrO {n:Int} (h1:-9223372036854775808≤n:=by omega) (h2:n<9223372036854775808:=by omega):IntKind.i64.wrap n=n:=wrap64 h1 h2
abbrev Rd (l:List UInt8) (p:Int):Option Blk:=some (.box [.i (.isl (aO l)), .int p])
set_option maxHeartbeats 4000000
set_option maxRecDepth 4000
theorem AO8 {S:Int} (h0:0≤S) (h1:S<4611686018427387904):0≤IntKind.i64.wrap ((((S % 2 ^ IntKind.i64.bits).toNat ^^^ (IntKind.i64.wrap (S.tdiv 64) % 2 ^ IntKind.i64.bits).toNat:Nat)):Int):=by
 have e1:0≤S.tdiv 64:=Int.tdiv_nonneg h0 (by omega);have e2:S.tdiv 64≤S:=Int.tdiv_le_self _ h0;have e3:IntKind.i64.wrap (S.tdiv 64)=S.tdiv 64:=wrO
 have e4:∀ T:Int,0≤T→T<4611686018427387904→(T % 2 ^ IntKind.i64.bits).toNat<2 ^ 62:=fun T k1 k2=>by
  have:T % 2 ^ IntKind.i64.bits=T:=Int.emod_eq_of_lt k1 (by simp[IntKind.bits];omega);rw[this];omega
 rw[e3];have:=Nat.xor_lt_two_pow (e4 S h0 h1) (e4 (S.tdiv 64) e1 (by omega));rw[wrO];omega
theorem bF (l:List UInt8) (p n:Int) (h0:0≤p) (h1:p<1000000000) (hl:l.length≤2000):∃ v,aH C0 55 [.own 0 0, .int n] [Rd l p]=some (.int v,[Rd l (p+1)])∧(1≤n→0≤v∧v<n)∧(n<1→v=0):=by
 have hw:IntKind.i64.wrap (p+1)=p+1:=wrO;have hw':IntKind.i64.wrap p=p:=wrO;by_cases hn:n<1
 ·refine⟨0,?_,by omega,fun _=>rfl⟩;rw[aF rfl Tryd.func55 rfl rfl];simp[Rd,hw,hn]
 by_cases he:l=[]
 ·refine⟨0,?_,by omega,fun _=>rfl⟩;rw[aF rfl Tryd.func55 rfl rfl];subst he;simp[Rd,hw,hn]
 have hlen:0<l.length:=y9.2 he;have hn0:n≠0:=by omega
 have hn1:(n != 0)=true:=by simp[hn0]
 by_cases hk:p<l.length
 ·obtain⟨x,hx1,hx2⟩:=qV (l:=l) (j:=p.toNat) (by omega);have hwx:IntKind.i64.wrap (x:Int)=x:=wrO;refine⟨(x:Int).tmod n,?_,fun _=>⟨Int.tmod_nonneg _ (by omega),yD _ (by omega)⟩,by omega⟩;rw[aF rfl Tryd.func55 rfl rfl];simp[Rd,hw,hw',hn,hk,he,h0,eD,hx2,hn1,hwx]
 ·obtain⟨x,hx1,hx2⟩:=qV (l:=l) (j:=(p.tmod l.length).toNat) (by have:=yD p (b:=l.length) (by omega);omega);obtain⟨y,hy1,hy2⟩:=qV (l:=l) (j:=((p*7+3).tmod l.length).toNat) (by have:=yD (p*7+3) (b:=l.length) (by omega);omega);have a1:0≤p.tmod l.length:=zB4 _ h0;have a2:p.tmod l.length<l.length:=yD _ (by omega);have a3:0≤(p*7+3).tmod l.length:=zB4 _ (by omega);have a4:(p*7+3).tmod l.length<l.length:=yD _ (by omega);have w7:IntKind.i64.wrap (p*7)=p*7:=wrO;have w8:IntKind.i64.wrap (p*7+3)=p*7+3:=wrO;have hwx:IntKind.i64.wrap (x:Int)=x:=wrO;have hwy:IntKind.i64.wrap (y:Int)=y:=wrO;have hl1:((l.length:Int) != 0)=true:=by simp[he]
  rw[aF rfl Tryd.func55 rfl rfl];have d1:0≤p.tdiv l.length:=Int.tdiv_nonneg h0 (by omega);have d2:p.tdiv l.length≤p:=Int.tdiv_le_self _ h0;have w1:IntKind.i64.wrap ((x:Int)*131)=x*131:=wrO;have w2:IntKind.i64.wrap ((y:Int)*1117)=y*1117:=wrO;have w3:IntKind.i64.wrap (p*29)=p*29:=wrO;have w4:IntKind.i64.wrap (p.tdiv l.length)=p.tdiv l.length:=wrO;have w5:IntKind.i64.wrap (p.tdiv l.length*53)=p.tdiv l.length*53:=wrO;have w6:IntKind.i64.wrap ((x:Int)*131+y*1117)=x*131+y*1117:=wrO;have w9:IntKind.i64.wrap ((x:Int)*131+y*1117+p*29)=x*131+y*1117+p*29:=wrO;have wA:IntKind.i64.wrap ((x:Int)*131+y*1117+p*29+p.tdiv l.length*53)=x*131+y*1117+p*29+p.tdiv l.length*53:=wrO;simp[Rd,hw,hw',hn,hk,he,eD,hx2,hy2,hn1,hwx,hwy,w7,w8,hl1,a1,a2,a3,a4,w1,w2,w3,w4,w5,w6,w9,wA];intro hn2;have hx:=AO8 (S:=x*131+y*1117+p*29+p.tdiv l.length*53) (by omega) (by omega);exact⟨Int.tmod_nonneg _ hx,yD _ (by omega)⟩
end Go.Proofs.YtmcjmafajkeecaaDoor
namespace Go.Av
def dgN (n:Nat):List UInt8:=if h:n<10 then [UInt8.ofNat (48+n)]else dgN (n / 10)++[UInt8.ofNat (48+n % 10)]
termination_by n
decreasing_by omega
def dgI (n:Int):List UInt8:=if n<0 then 45::dgN n.natAbs else dgN n.toNat
theorem AHW {n:Nat} (h:n<10):dgN n=[UInt8.ofNat (48+n)]:=by unfold dgN;rw[dif_pos h]
theorem qA {n:Int} (h0:0≤n) (h:n<10):dgI n=[UInt8.ofNat (48+n.toNat)]:=by
 unfold dgI;rw[if_neg (by omega),AHW (by omega)]
def nmE (k:Int):List UInt8 :=
 if k=3 then [43]else if k=4 then [45]else if k=5 then [42]else if k=6 then [61]else if k=7 then [60]else if k=8 then [97,110,100]else if k=9 then [111,114]else if k=10 then [110,111,116]else if k=11 then [110,117,108,108]else []
def nmP (k:Int):List UInt8 :=
 if k=1 then [115,99,97,110]else if k=2 then [102,105,108,116,101,114]else if k=3 then [112,114,111,106,101,99,116]else if k=4 then [106,111,105,110]else if k=5 then [108,101,102,116]else if k=6 then [117,110,105,111,110]else if k=7 then [100,105,115,116,105,110,99,116]else if k=8 then [103,114,111,117,112]else []
def txV (v:Val):List UInt8:=if v.null=true then [110,117,108,108]else dgI v.n
mutual
def txE:Ex→List UInt8
 | .mk k c v ks=>if k=1 then 35::dgI c else if k=2 then txV v else 40::(nmE k++(oW ks++[41]))
def oW:List Ex→List UInt8
 | []=>[]
 | e::l=>32::(txE e++oW l)
end
def txC:List Int→List UInt8
 | []=>[]
 | c::l=>32::35::(dgI c++txC l)
mutual
def txP:Pn→List UInt8
 | .mk k t es cs ks=>40::(nmP k++((if k=1 then 32::dgI t else [])++(txC cs++(oW es++(F9 ks++[41])))))
def F9:List Pn→List UInt8
 | []=>[]
 | p::l=>32::(txP p++F9 l)
end
theorem iG (e:Ex):∀ l:List Ex,oW (l++[e])=oW l++32::txE e
 | []=>by simp[oW]
 | a::l=>by simp[oW,iG e l]
theorem nP (c:Int):∀ l:List Int,txC (l++[c])=txC l++32::35::dgI c
 | []=>by simp[txC]
 | a::l=>by simp[txC,nP c l]
theorem l9 (p:Pn):∀ l:List Pn,F9 (l++[p])=F9 l++32::txP p
 | []=>by simp[F9]
 | a::l=>by simp[F9,l9 p l]
theorem BQ (e:Ex):txE e=if e.kind=1 then 35::dgI e.col else if e.kind=2 then txV e.val else 40::(nmE e.kind++(oW e.kids++[41])):=by
 obtain⟨k,c,v,ks⟩:=e;simp only[txE,Ex.kind,Ex.col,Ex.val,Ex.kids];by_cases h1:k=1
 ·simp[h1]
 ·by_cases h2:k=2<;>simp[h1,h2]
theorem L8 (p:Pn):txP p=40::(nmP p.kind++((if p.kind=1 then 32::dgI p.table else [])++(txC p.cols++(oW p.exprs++(F9 p.kids++[41]))))):=by
 obtain⟨k,t,es,cs,ks⟩:=p;simp only[txP,Pn.kind,Pn.table,Pn.cols,Pn.exprs,Pn.kids];by_cases h1:k=1<;>simp[h1]
mutual
def Ex.shp:Ex→Ex
 | .mk k c v ks=>if k=2 then .mk 2 0 ⟨false,0⟩ []else .mk k c ⟨false,0⟩ (Ex.KJ ks)
def Ex.KJ:List Ex→List Ex
 | []=>[]
 | e::l=>e.shp::Ex.KJ l
end
mutual
def Pn.shp:Pn→Pn
 | .mk k t es cs ks=>.mk k t (Ex.KJ es) cs (Pn.KJ ks)
def Pn.KJ:List Pn→List Pn
 | []=>[]
 | p::l=>p.shp::Pn.KJ l
end
@[simp] theorem WJ:∀ a b:List UInt8,aO (a++b)=aO a++aO b
  | [],b=>rfl
  | x::a,b=>by simp[aO,WJ a b]
theorem O4:∀ l:List UInt8,bytesOf (aO l)=some (l.map fun b=>(b.toNat:Int))
 | []=>rfl
 | b::l=>by simp[aO,bytesOf,O4 l,bnd]
theorem AG1 (l:List UInt8):strOf (l.map fun b=>(b.toNat:Int))=⟨l.toArray⟩:=by
 unfold strOf;congr 1;congr 1;rw[List.map_map]
 conv=>rhs;rw[← List.map_id l]
 apply zA2;intro b _;simp
theorem lD (a b:List UInt8):(ByteArray.mk a.toArray)++(ByteArray.mk b.toArray)=ByteArray.mk (a++b).toArray:=by
 apply ByteArray.ext;simp
end Go.Av
namespace Go.Proofs.YtmcjmafajkeecaaDoor.P
open Go Go.Av
set_option maxRecDepth 4000
set_option maxHeartbeats 4000000
theorem AAA:({ data:=#[48,49,50,51,52,53,54,55,56,57,97,98,99,100,101,102,103,104,105,106,107,108,109,110,111,112,113,114,115,116,117,118,119,120,121,122] }:ByteArray).size=36:=rfl
theorem QW {n:Nat} (h:n<10):aH C0 97 [.int n] []=some (.i (.lit (.string ⟨(dgI n).toArray⟩)),[]):=by
 have hd:=qA (n:=n) (by omega) (by omega);rw[hd];have hn:n=0∨n=1∨n=2∨n=3∨n=4∨n=5∨n=6∨n=7∨n=8∨n=9:=by omega
 have z:=AAA;rw[aF rfl Tryd.func97 rfl rfl]
 rcases hn with rfl|rfl|rfl|rfl|rfl|rfl|rfl|rfl|rfl|rfl
 ·have w2:IntKind.i64.wrap 1=1:=wrO;have e:({ data:=#[48,49,50,51,52,53,54,55,56,57,97,98,99,100,101,102,103,104,105,106,107,108,109,110,111,112,113,114,115,116,117,118,119,120,121,122] }:ByteArray).extract 0 1=⟨#[48]⟩:=rfl;simp[w2,z,e]
 ·have w2:IntKind.i64.wrap 2=2:=wrO;have e:({ data:=#[48,49,50,51,52,53,54,55,56,57,97,98,99,100,101,102,103,104,105,106,107,108,109,110,111,112,113,114,115,116,117,118,119,120,121,122] }:ByteArray).extract 1 2=⟨#[49]⟩:=rfl;simp[w2,z,e]
 ·have w2:IntKind.i64.wrap 3=3:=wrO;have e:({ data:=#[48,49,50,51,52,53,54,55,56,57,97,98,99,100,101,102,103,104,105,106,107,108,109,110,111,112,113,114,115,116,117,118,119,120,121,122] }:ByteArray).extract 2 3=⟨#[50]⟩:=rfl;simp[w2,z,e]
 ·have w2:IntKind.i64.wrap 4=4:=wrO;have e:({ data:=#[48,49,50,51,52,53,54,55,56,57,97,98,99,100,101,102,103,104,105,106,107,108,109,110,111,112,113,114,115,116,117,118,119,120,121,122] }:ByteArray).extract 3 4=⟨#[51]⟩:=rfl;simp[w2,z,e]
 ·have w2:IntKind.i64.wrap 5=5:=wrO;have e:({ data:=#[48,49,50,51,52,53,54,55,56,57,97,98,99,100,101,102,103,104,105,106,107,108,109,110,111,112,113,114,115,116,117,118,119,120,121,122] }:ByteArray).extract 4 5=⟨#[52]⟩:=rfl;simp[w2,z,e]
 ·have w2:IntKind.i64.wrap 6=6:=wrO;have e:({ data:=#[48,49,50,51,52,53,54,55,56,57,97,98,99,100,101,102,103,104,105,106,107,108,109,110,111,112,113,114,115,116,117,118,119,120,121,122] }:ByteArray).extract 5 6=⟨#[53]⟩:=rfl;simp[w2,z,e]
 ·have w2:IntKind.i64.wrap 7=7:=wrO;have e:({ data:=#[48,49,50,51,52,53,54,55,56,57,97,98,99,100,101,102,103,104,105,106,107,108,109,110,111,112,113,114,115,116,117,118,119,120,121,122] }:ByteArray).extract 6 7=⟨#[54]⟩:=rfl;simp[w2,z,e]
 ·have w2:IntKind.i64.wrap 8=8:=wrO;have e:({ data:=#[48,49,50,51,52,53,54,55,56,57,97,98,99,100,101,102,103,104,105,106,107,108,109,110,111,112,113,114,115,116,117,118,119,120,121,122] }:ByteArray).extract 7 8=⟨#[55]⟩:=rfl;simp[w2,z,e]
 ·have w2:IntKind.i64.wrap 9=9:=wrO;have e:({ data:=#[48,49,50,51,52,53,54,55,56,57,97,98,99,100,101,102,103,104,105,106,107,108,109,110,111,112,113,114,115,116,117,118,119,120,121,122] }:ByteArray).extract 8 9=⟨#[56]⟩:=rfl;simp[w2,z,e]
 ·have w2:IntKind.i64.wrap 10=10:=wrO;have e:({ data:=#[48,49,50,51,52,53,54,55,56,57,97,98,99,100,101,102,103,104,105,106,107,108,109,110,111,112,113,114,115,116,117,118,119,120,121,122] }:ByteArray).extract 9 10=⟨#[57]⟩:=rfl;simp[w2,z,e]
theorem XZ {n:Nat} (h:n<10):IntKind.u64.wrap (n:Int)=n:=by
 have hn:n=0∨n=1∨n=2∨n=3∨n=4∨n=5∨n=6∨n=7∨n=8∨n=9:=by omega
 rcases hn with rfl|rfl|rfl|rfl|rfl|rfl|rfl|rfl|rfl|rfl<;>rfl
theorem APF {n:Nat} (h:n<10):∃ c,dgI n=[c]:=⟨_,qA (n:=n) (by omega) (by omega)⟩
theorem WV {n:Nat} (h:n<10) (l:List UInt8) (hl:l.length<1000000000):aH C0 91 [.osl 0 1 0 l.length, .i (.lit (.int .u64 n)), .int 10] [some (.arr 1 (aO l))]=some (.osl 1 1 0 (l++dgI n).length,[none,some (.arr 1 (aO (l++dgI n)))]):=by
 have hs:=QW h;obtain⟨c,hc⟩:=APF h;rw[hc]at hs ⊢;have hb:l.length+1≤140737488355328:=by omega
 have w1:IntKind.i64.wrap (n:Int)=n:=wrO;have h100:(n:Int)<100:=by omega
 have ht:(aO l).take l.length=aO l:=zY (by rw[aN];omega);rw[aF rfl Tryd.func91 rfl rfl];simp[hs,w1,h100,hb,ht,aO,aN]
theorem X0 {n:Nat} (h:n<10) (l:List UInt8) (hl:l.length<1000000000):aH C0 80 [.osl 0 1 0 l.length, .int n, .int 10] [some (.arr 1 (aO l))]=some (.osl 1 1 0 (l++dgI n).length,[none,some (.arr 1 (aO (l++dgI n)))]):=by
 have hs:=WV h l hl;generalize l++dgI n=m at hs ⊢;have w1:=XZ h;have h0:¬ (n:Int)<0:=by omega
 rw[aF rfl Tryd.func80 rfl rfl];simp[hs,w1,h0]
theorem F6 {n:Nat} (h:n<10) (l:List UInt8) (hl:l.length<1000000000):aH C0 71 [.osl 0 1 0 l.length, .int n, .int 10] [some (.arr 1 (aO l))]=some (.osl 1 1 0 (l++dgI n).length,[none,some (.arr 1 (aO (l++dgI n)))]):=by
 have hs:=X0 h l hl;generalize l++dgI n=m at hs ⊢;rw[aF rfl Tryd.func71 rfl rfl];simp[hs]
theorem dS (l:List UInt8):(aO l).take l.length=aO l:=zY (by rw[aN];omega)
theorem qF {n:Nat} (h:n<10) (l:List UInt8) (hl:l.length<100000000):aH C0 72 [.osl 0 1 0 l.length, .int n] [some (.arr 1 (aO l))]=some (.osl 1 1 0 (l++35::dgI n).length,[none,some (.arr 1 (aO (l++35::dgI n)))]):=by
 have hs:=F6 h (l++[35]) (by simp;omega);rw[yS,List.singleton_append]at hs;generalize hm:l++35::dgI n=m at hs ⊢;have hb:l.length+1≤140737488355328:=by omega
 have ht:=dS l;simp[aO,aN]at hs;rw[aF rfl Tryd.func72 rfl rfl];simp[hs,hb,ht,aO,aN]
theorem NK {n:Nat} (h:n<10):aH C0 107 [.int n, .int 10] []=some (.i (.lit (.string ⟨(dgI n).toArray⟩)),[]):=by
 have hs:=QW h;have h0:(0:Int)≤n:=by omega
 have h100:(n:Int)<100:=by omega
 rw[aF rfl Tryd.func107 rfl rfl];simp[hs,h0,h100]
theorem AD3 {n:Nat} (h:n<10):aH C0 101 [.int n] []=some (.i (.lit (.string ⟨(dgI n).toArray⟩)),[]):=by
 have hs:=NK h;rw[aF rfl Tryd.func101 rfl rfl];simp[hs]
theorem AH3 {n:Nat} (h:n<10):aH C0 93 [.int n] []=some (.i (.lit (.string ⟨(dgI n).toArray⟩)),[]):=by
 have hs:=AD3 h;rw[aF rfl Tryd.func93 rfl rfl];simp[hs]
theorem Q4 {k:Int} (h0:3≤k) (h1:k≤11):aH C0 82 [.int k] []=some (.i (.lit (.string ⟨(nmE k).toArray⟩)),[]):=by
 have hk:k=3∨k=4∨k=5∨k=6∨k=7∨k=8∨k=9∨k=10∨k=11:=by omega
 rw[aF rfl Tryd.func82 rfl rfl]
 rcases hk with rfl|rfl|rfl|rfl|rfl|rfl|rfl|rfl|rfl<;>simp[nmE]
theorem CZ {k:Int} (h0:1≤k) (h1:k≤8):aH C0 70 [.int k] []=some (.i (.lit (.string ⟨(nmP k).toArray⟩)),[]):=by
 have hk:k=1∨k=2∨k=3∨k=4∨k=5∨k=6∨k=7∨k=8:=by omega
 rw[aF rfl Tryd.func70 rfl rfl]
 rcases hk with rfl|rfl|rfl|rfl|rfl|rfl|rfl|rfl<;>simp[nmP]
end Go.Proofs.YtmcjmafajkeecaaDoor.P
namespace Go.Proofs.YtmcjmafajkeecaaDoor
open Go Go.Av
set_option maxRecDepth 4000
theorem NC (n:Int):n=1∨n=2∨n=3∨n=4∨n=5∨n=6∨n=7∨n=8∨n=9∨n=10∨n=11∨(n≠1∧n≠2∧n≠3∧n≠4∧n≠5∧n≠6∧n≠7∧n≠8∧n≠9∧n≠10∧n≠11):=by omega
@[simp] theorem AD2 (n:Int):aH C0 96 [.int n] []=some (.int (bQ n),[]):=by
  rw[aF rfl Tryd.func96 rfl rfl]
  rcases NC n with rfl|rfl|rfl|rfl|rfl|rfl|rfl|rfl|rfl|rfl|rfl|⟨h1,h2,h3,h4,h5,h6,h7,h8,h9,h10,h11⟩
  all_goals first
   | (simp[bQ];done)
   | (have e:bQ n=-1:=by
       unfold bQ;rw[if_neg (by omega),if_neg (by omega),if_neg (by omega)]
      simp[e,h1,h2,h3,h4,h5,h6,h7,h8,h9,h10,h11])
@[simp] theorem ALN (n:Int):aH C0 88 [.int n] []=some (.int (bQ n),[]):=by
  rw[aF rfl Tryd.func88 rfl rfl]
  rcases NC n with rfl|rfl|rfl|rfl|rfl|rfl|rfl|rfl|rfl|rfl|rfl|⟨h1,h2,h3,h4,h5,h6,h7,h8,h9,h10,h11⟩
  all_goals first
   | (simp[bQ];done)
   | (have e:bQ n=-1:=by
       unfold bQ;rw[if_neg (by omega),if_neg (by omega),if_neg (by omega)]
      simp[e,h1,h2,h3,h4,h5,h6,h7,h8,h9,h10,h11])
@[simp] theorem ABU (n:Int):aH C0 67 [.int n] []=some (.bool (cB n),[]):=by
  rw[aF rfl Tryd.func67 rfl rfl];by_cases h1:1≤n<;>by_cases h2:n≤6<;>simp[cB,h1,h2]
@[simp] theorem AJA (n a b:Int):aH C0 57 [.int n, .int a, .int b] []=some (.bool (decide (a≤n∧n≤b)),[]):=by
  rw[aF rfl Tryd.func57 rfl rfl];by_cases h1:a≤n<;>by_cases h2:n≤b<;>simp[h1,h2]
@[simp] theorem valid_eq (b:Bool) (n:Int):aH C0 92 [.i (.agg [.bool b, .int n])] []=some (.bool (Val.ok ⟨b,n⟩),[]):=by
  rw[aF rfl Tryd.func92 rfl rfl]
  cases b
  ·by_cases h1:-9999≤n<;>by_cases h2:n≤9999<;>simp[Val.ok,h1,h2]
  ·by_cases h1:n=0<;>simp[Val.ok,h1]
@[simp] theorem ABV (b:Bool) (n:Int):aH C0 89 [.i (.agg [.bool b, .int n])] []=some (.bool (Val.ok ⟨b,n⟩),[]):=by
  rw[aF rfl Tryd.func89 rfl rfl]
  cases b
  ·by_cases h1:-9999≤n<;>by_cases h2:n≤9999<;>simp[Val.ok,h1,h2]
  ·by_cases h1:n=0
   ·subst h1;simp[Val.ok]
   ·by_cases h2:-9999≤n<;>by_cases h3:n≤9999<;>simp[Val.ok,h1,h2,h3]
@[simp] theorem QF (v:Val):aH C0 65 [.i (.agg [.bool v.null, .int v.n])] []=some (.i (.agg (Ex.mk 2 0 v []).cells),[]):=by
  rw[aF rfl Tryd.func65 rfl rfl];simp[Ex.cells,Ex.aA]
@[simp] theorem NG (v:Val):aH C0 29 [.i (.agg [.bool v.null, .int v.n])] []=some (.i (.agg (Ex.mk 2 0 v []).cells),[]):=by
  rw[aF rfl Tryd.func29 rfl rfl];simp[Ex.cells,Ex.aA]
end Go.Proofs.YtmcjmafajkeecaaDoor
namespace Go.Av
mutual
def Ex.tx:Ex→Prop
 | .mk k c v ks=>(k=1∧0≤c∧c<10)∨(k=2∧v=⟨false,0⟩)∨(3≤k∧k≤11∧Ex.txs ks)
def Ex.txs:List Ex→Prop
 | []=>True
 | e::l=>e.tx∧Ex.txs l
end
theorem Ex.BP:∀ l:List Ex,Ex.txs l↔∀ e∈l,e.tx
 | []=>by simp[Ex.txs]
 | e::l=>by simp[Ex.txs,Ex.BP l]
theorem Ex.kP (e:Ex):e.tx↔(e.kind=1∧0≤e.col∧e.col<10)∨(e.kind=2∧e.val=⟨false,0⟩)∨(3≤e.kind∧e.kind≤11∧∀ a∈e.kids,a.tx):=by
 obtain⟨k,c,v,ks⟩:=e;simp only[Ex.tx,Ex.kind,Ex.col,Ex.val,Ex.kids,Ex.BP]
theorem qG:∀ l:List Ex,l.length≤(oW l).length
 | []=>by simp
 | a::l=>by have:=qG l;simp only[oW,zS,zR];omega
def mE (e:Ex) (l:List UInt8) (i:Nat):List UInt8:=l++40::(nmE e.kind++oW (e.kids.take i))
end Go.Av
namespace Go.Proofs.YtmcjmafajkeecaaDoor.P
open Go Go.Av
set_option maxRecDepth 4000
set_option maxHeartbeats 4000000
theorem APD:aH C0 81 [.i (.agg [.bool false, .int 0])] []=some (.i (.lit (.string ⟨[48].toArray⟩)),[]):=by
 have h:=AH3 (n:=0) (by omega);have hd:dgI (0:Nat)=[48]:=by rw[qA (by omega) (by omega)];rfl
 rw[hd]at h;have hv:Val.ok ⟨false,0⟩=true:=by decide
 rw[aF rfl Tryd.func81 rfl rfl];simp at h;simp[h,hv]
def ATE (e:Ex) (l:List UInt8) (i:Nat):AS :=
 { env:=[(0, .i (.iref [.int e.kind, .int e.col, .bool e.val.null, .int e.val.n, .isl (Ex.aA e.kids)])),(1, .osl 1 1 0 (mE e l i).length),(4, .nils),(5,jk i (.int (i-1))),(9, .int e.kind),(10, .bool false),(18, .bool false),(41, .int e.kids.length),(42, .int i),(43,jk i (.bool true))],
   st:=[none,some (.arr 1 (aO (mE e l i)))] }
theorem KE:∀ e:Ex,e.tx→∀ l:List UInt8,l.length+(txE e).length<10000000→aH C0 73 [.i (.iref e.cells), .osl 0 1 0 l.length] [some (.arr 1 (aO l))]=some (.osl 1 1 0 (l++txE e).length,[none,some (.arr 1 (aO (l++txE e)))]):=by
 intro e
 induction e using Ex.ind with
 | h k c v ks ih =>
  intro ht l hl;generalize he:Ex.mk k c v ks=e at *
  have hks:ks=e.kids:=by rw[← he];rfl
  subst hks;rw[aF rfl Tryd.func73 rfl rfl,Ex.aB];have hte:=BQ e;have htk:=dS l
  rcases(Ex.kP e).1 ht with ⟨h1,h2,h3⟩|⟨h1,h2⟩|⟨h1,h2,h3⟩
  ·rw[if_pos h1]at hte;rw[hte]at hl ⊢;obtain⟨n,hn⟩:=yQ h2;have hc:=qF (n:=n) (by omega) l (by omega);rw[hn];generalize l++35::dgI n=m at hc ⊢;simp[h1,hc]
  ·rw[if_neg (by omega),if_pos h1]at hte;have hv:txV e.val=[48]:=by rw[h2];simp[txV];rw[qA (by omega) (by omega)];rfl
   rw[hv]at hte;rw[hte]at hl ⊢;have hc:=APD;have hb:l.length+1≤140737488355328:=by omega
   simp[h1,h2,hc,hb,htk,aO,aN]
  ·rw[if_neg (by omega),if_neg (by omega)]at hte;have hfin:l++txE e=mE e l e.kids.length++[41]:=by rw[hte];simp[mE]
   rw[hfin];have hnm:=Q4 h1 h2;have k1:¬ e.kind=1:=by omega
   have k2:¬ e.kind=2:=by omega
   have hlen:∀ i,(mE e l i).length+1≤l.length+(txE e).length:=by
    intro i
    have hle:∀ (xs:List Ex) (n:Nat),(oW (xs.take n)).length≤(oW xs).length:=by
     intro xs
     induction xs with
     | nil=>intro n;simp
     | cons a xs ihx =>
      intro n
      cases n with
      | zero=>simp[oW]
      | succ n=>have:=ihx n;simp only[yR,oW,zS,zR];omega
    have:=hle e.kids i;rw[hte];simp only[mE,zR,zS,zI];omega
   have hb1:l.length+1≤140737488355328:=by omega
   have hb2:l.length+1+(nmE e.kind).length≤140737488355328:=by have:=hlen 0;simp[mE,oW]at this;omega
   have htk2:=dS (l++[40]);simp[aO,aN]at htk2;simp[k1,k2,hnm,hb1,hb2,htk,htk2,aO,aN];rw[aU (ATE e l) e.kids.length (by simp[ATE,mE,oW,aO,aN];try omega)]
   ·rw[aD];have hb3:(mE e l e.kids.length).length+1≤140737488355328:=by have:=hlen e.kids.length;omega
    have htk3:=dS (mE e l e.kids.length);simp only[ATE];generalize mE e l e.kids.length=m at hb3 htk3 ⊢;simp[hb3,htk3,aO,aN]
   ·intro i hi;have h4:=zX hi;have hm:=zT h4;have r2:=Ex.aS h4;have hsn:=aM h4;generalize e.kids[i]=a at h4 hm r2 hsn;have hnext:mE e l (i+1)=mE e l i++[32]++txE a:=by unfold mE;rw[hsn,iG];simp
    have hl1:=hlen i;have hcnt:=qG e.kids;have hkl:e.kids.length<10000000:=by rw[hte]at hl;simp only[zR,zS,zI]at hl;omega
    have hl2:=hlen (i+1);rw[hnext]at hl2;simp at hl2;have hk:=ih a hm (h3 a hm) (mE e l i++[32]) (by simp;omega);rw[← hnext]at hk;have w2:IntKind.i64.wrap ((i:Int)+1)=i+1:=wrO;have hb3:(mE e l i).length+1≤140737488355328:=by omega
    have htk3:=dS (mE e l i);simp only[ATE];generalize mE e l (i+1)=m2 at hk ⊢;generalize mE e l i=m1 at hk hb3 htk3 ⊢;rw[Ex.aB a]at r2 hk;simp[aO,aN]at hk;simp[hi,r2,hk,w2,hb3,htk3,aO,aN]
end Go.Proofs.YtmcjmafajkeecaaDoor.P
namespace Go.Proofs.YtmcjmafajkeecaaDoor
open Go Go.Av
set_option maxRecDepth 4000
theorem AE9 {e:Ex} {w:Int} (n:Nat) (hk:¬ (e.kids.length:Int)=bQ e.kind):aH C0 90 [.i (.iref e.cells), .int w, .int n] []=some (.bool false,[]):=by
 rw[aF rfl Tryd.func90 rfl rfl,Ex.aB];simp[Ex.aT,hk]
theorem AFS {e:Ex} {w:Int} (hk:(e.kids.length:Int)=bQ e.kind) (hz:0<bQ e.kind):aH C0 90 [.i (.iref e.cells), .int w, .int 0] []=some (.bool false,[]):=by
 rw[aF rfl Tryd.func90 rfl rfl,Ex.aB];simp[Ex.aT,hk,hz]
theorem XV {e:Ex} {w:Int} (n:Nat) (hk:(e.kids.length:Int)=bQ e.kind) (hz:0<bQ e.kind→n≠0) (hh:e.headOk w=false) :
 aH C0 90 [.i (.iref e.cells), .int w, .int n] []=some (.bool false,[]):=by
 rw[aF rfl Tryd.func90 rfl rfl,Ex.aB];unfold Ex.headOk at hh;by_cases h1:e.kind=1
 ·rw[h1]at hz hk;simp[h1,bQ]at hh hk;by_cases h2:0≤e.col
  ·by_cases h3:e.col<w
   ·cases h4:e.val.null with
    | true=>simp[Ex.aT,hk,h1,Int.not_lt.2 h2,zB5.2 h3,h4,bQ]
    | false=>simp[Ex.aT,hk,h1,Int.not_lt.2 h2,zB5.2 h3,h4,hh h2 h3 h4,bQ]
   ·simp[Ex.aT,hk,h1,Int.not_lt.2 h2,Int.not_lt.1 h3,bQ]
  ·simp[Ex.aT,hk,h1,zB5.1 h2,bQ]
 ·by_cases h2:e.kind=2
  ·rw[h2]at hz hk;simp[h2,bQ]at hh hk;by_cases h3:e.col=0
   ·have h4:Val.ok ⟨e.val.null,e.val.n⟩=false:=hh h3;simp[Ex.aT,hk,h2,h3,h4,bQ]
   ·simp[Ex.aT,hk,h2,h3,bQ]
  ·simp[h1,h2]at hh;by_cases h0:0<bQ e.kind
   ·have hn:=hz h0;by_cases h3:e.col=0
    ·cases h4:e.val.null with
     | true=>simp[Ex.aT,hk,h1,h2,h3,h4,h0,hn,hz h0]
     | false=>simp[Ex.aT,hk,h1,h2,h3,h4,hh h3 h4,h0,hn,hz h0]
    ·simp[Ex.aT,hk,h1,h2,h3,h0,hn,hz h0]
   ·by_cases h3:e.col=0
    ·cases h4:e.val.null with
     | true=>simp[Ex.aT,hk,h1,h2,h3,h4,h0]
     | false=>simp[Ex.aT,hk,h1,h2,h3,h4,hh h3 h4,h0]
    ·simp[Ex.aT,hk,h1,h2,h3,h0]
def VX (e:Ex) (w n:Int) (i:Nat):AS :=
 { env:=[(0, .i (.iref [.int e.kind, .int 0, .bool false, .int 0, .isl (Ex.aA e.kids)])),(1, .int w),(2, .int n),(6, .bool false),(7, .int (bQ e.kind)),(8,jk i (.int (i-1))),(28, .bool (n == 0)),(62, .bool false),(90, .bool false),(95, .int (bQ e.kind)),(96, .int i),(97,jk i (.bool true)),(109,jk i (.bool false))],st:=[] }
theorem AJW {e:Ex} {w:Int} (n:Nat) (hn:n≤8) (hk:(e.kids.length:Int)=bQ e.kind) (hz:0<bQ e.kind→n≠0) (hh:e.headOk w=true) (ih:∀ k∈e.kids,0<bQ e.kind→aH C0 90 [.i (.iref k.cells), .int w, .int ((n:Int)-1)] []=some (.bool (Ex.vB w (n-1) k),[])) :
 aH C0 90 [.i (.iref e.cells), .int w, .int n] []=some (.bool (e.kids.all (Ex.vB w (n-1))),[]):=by
 rw[aF rfl Tryd.func90 rfl rfl,Ex.aB]
 rcases Ex.nA w e with h|⟨-,⟨hA,hB,hC,hD,hE,hF⟩|⟨hA,hB,hC,hD,hE,hF⟩|⟨hA,hB,hC,hD,hE,hF⟩⟩
 ·simp[h]at hh
 ·have h2:e.kids=[]:=by rw[hF]at hk;simpa using hk
  simp[h2,Ex.aA,hA,hD,hE,Int.not_lt.2 hB,zB5.2 hC,bQ];rw[aD];simp
 ·have h2:e.kids=[]:=by rw[hF]at hk;simpa using hk
  simp[h2,Ex.aA,hA,hB,hC,bQ];rw[aD];simp
 ·by_cases h0:0<bQ e.kind
  ·have hn:=hz h0;simp[Ex.aT,hk,hA,hB,hC,hD,hE,h0,hn,hz h0];obtain⟨j,h1,h2⟩:=jS (Ex.vB w (n-1)) e.kids;have w1:IntKind.i64.wrap ((n:Int)-1)=n-1:=wrO
   have rd:∀ (i:Nat) (k:Ex),e.kids[i]?=some k→k∈e.kids→i<e.kids.length∧gW (Ex.aA e.kids) i=some k.cells∧aH C0 90 [.i (.iref k.cells), .int w, .int ((n:Int)-1)] []=some (.bool (Ex.vB w (n-1) k),[]) :=
    fun i k a b=>⟨(zW.1 a).1,Ex.aS a,ih k b h0⟩
   have hlen:e.kids.length≤2:=by have:bQ e.kind≤2:=by
                                  unfold bQ;split;· omega
                                  split;· omega
                                  split<;>omega
                                 omega
   rw[aU (VX e w n) j (by simp[VX])]
   ·rw[aD]
    rcases h2 with ⟨hj,ha⟩|⟨k,h3,h4,h5,ha⟩
    ·have l1:¬ ((j:Int)<bQ e.kind):=by omega
     simp[VX,l1,ha]
    ·obtain⟨r1,r2,r3⟩:=rd j k h3 h4;have l1:(j:Int)<bQ e.kind:=by omega
     rw[Ex.aB]at r2 r3;simp[VX,l1,r1,ha,r2,r3,w1,h5]
   ·intro i hi;obtain⟨k,h3,h4,h5⟩:=h1 i hi;obtain⟨r1,r2,r3⟩:=rd i k h3 h4;have l1:(i:Int)<bQ e.kind:=by omega
    have w2:IntKind.i64.wrap ((i:Int)+1)=i+1:=wrO;rw[Ex.aB]at r2 r3;simp[VX,l1,r1,r2,r3,w1,w2,h5]
  ·have h2:e.kids=[]:=by cases h:e.kids with
    | nil=>rfl
    | cons a l=>rw[h]at hk;simp at hk;omega
   rw[h2]at hk;simp at hk;simp[h2,Ex.aA,hA,hB,hC,hD,hE,← hk];rw[aD];simp
@[simp] theorem tJ {w:Int}:∀ (n:Nat) (e:Ex),n≤8→aH C0 90 [.i (.iref e.cells), .int w, .int n] []=some (.bool (Ex.vB w n e),[])
  | 0,e,hn=>by
   by_cases hk:(e.kids.length:Int)=bQ e.kind
   ·by_cases hz:0<bQ e.kind
    ·rw[show((0:Nat):Int)=0 from rfl,AFS hk hz];simp[Ex.vB,zB5.2 hz]
    ·cases hh:e.headOk w with
     | false=>rw[XV 0 hk (fun h=>absurd h hz) hh];simp[Ex.vB,hh]
     | true =>
      rw[AJW 0 hn hk (fun h=>absurd h hz) hh (fun k _ h=>absurd h hz)]
      have:e.kids=[]:=by cases h:e.kids with
       | nil=>rfl
       | cons a l=>rw[h]at hk;simp at hk;omega
      have h3:bQ e.kind=0:=by rw[this]at hk;simpa using hk.symm
      simp[Ex.vB,hh,h3,this]
   ·rw[AE9 0 hk];simp[Ex.vB,hk]
  | n+1,e,hn=>by
   by_cases hk:(e.kids.length:Int)=bQ e.kind
   ·cases hh:e.headOk w with
    | false=>rw[XV (n+1) hk (fun _=>by omega) hh];simp[Ex.vB,hh]
    | true =>
     rw[AJW (n+1) hn hk (fun _=>by omega) hh (fun k _ _=>by
      have:=tJ (w:=w) n k (by omega);rw[show(((n+1:Nat):Int)-1)=(n:Int)by omega]
      exact this)]
     simp[Ex.vB,hh,hk]
   ·rw[AE9 (n+1) hk];simp[Ex.vB,hk]
theorem AE8 {e:Ex} {w:Int} (n:Nat) (hk:¬ (e.kids.length:Int)=bQ e.kind):aH C0 77 [.i (.agg e.cells), .int w, .int n] []=some (.bool false,[]):=by
 rw[aF rfl Tryd.func77 rfl rfl,Ex.aB];simp[hk]
theorem AFR {e:Ex} {w:Int} (hk:(e.kids.length:Int)=bQ e.kind) (hz:0<bQ e.kind):aH C0 77 [.i (.agg e.cells), .int w, .int 0] []=some (.bool false,[]):=by
 rw[aF rfl Tryd.func77 rfl rfl,Ex.aB];simp[hk,hz]
def EX (e:Ex) (w n:Int) (v:AV) (i:Nat):AS :=
 { env:=[(0, .i (.agg [.int e.kind, .int e.col, .bool e.val.null, .int e.val.n, .isl (Ex.aA e.kids)])),(1, .int w),(2, .int n),(3, .own 0 0),(6, .bool false),(7, .int i),(24,v),(29,jk i (.bool true)),(41,jk i (.bool false)),(43, .junk),(44, .junk),(57, .junk)],
   st:=[some (.box [.int e.kind, .int e.col, .bool e.val.null, .int e.val.n, .i (.isl (Ex.aA e.kids))])] }
theorem AJV {e:Ex} {w:Int} (n:Nat) (hn:n≤8) (hk:(e.kids.length:Int)=bQ e.kind) (hz:0<bQ e.kind→n≠0)  (hw:1≤w∧w≤6)
 (ih:∀ k∈e.kids,0<bQ e.kind→aH C0 77 [.i (.agg k.cells), .int w, .int ((n:Int)-1)] []=some (.bool (Ex.vB w (n-1) k),[])) :
  aH C0 77 [.i (.agg e.cells), .int w, .int n] []=some (.bool (e.kids.all (Ex.vB w (n-1)) && e.headOk w),[]):=by
 rw[aF rfl Tryd.func77 rfl rfl,Ex.aB];have w0:IntKind.i64.wrap (w-1)=w-1:=wrO;by_cases h0:0<bQ e.kind
 ·have hn:=hz h0;simp[hk,h0,hn];obtain⟨j,h1,h2⟩:=jS (Ex.vB w (n-1)) e.kids;have w1:IntKind.i64.wrap ((n:Int)-1)=n-1:=wrO
  have rd:∀ (i:Nat) (k:Ex),e.kids[i]?=some k→k∈e.kids→i<e.kids.length∧gW (Ex.aA e.kids) i=some k.cells∧aH C0 77 [.i (.agg k.cells), .int w, .int ((n:Int)-1)] []=some (.bool (Ex.vB w (n-1) k),[]) :=
   fun i k a b=>⟨(zW.1 a).1,Ex.aS a,ih k b h0⟩
  have hlen:e.kids.length≤2:=by have:bQ e.kind≤2:=by
                                 unfold bQ;split;· omega
                                 split;· omega
                                 split<;>omega
                                omega
  have hk1:e.kind≠1:=fun h=>by rw[h]at h0;simp[bQ]at h0
  have hk2:e.kind≠2:=fun h=>by rw[h]at h0;simp[bQ]at h0
  rw[aU (EX e w n (.bool ((n:Int) == 0)) ) j (by simp[EX])]
  ·rw[aD]
   rcases h2 with ⟨hj,ha⟩|⟨k,h3,h4,h5,ha⟩
   ·have l1:¬ ((j:Int)<bQ e.kind):=by omega
    by_cases h6:e.col=0
    ·cases h7:e.val.null with
     | true=>simp[EX,l1,hk,ha,Ex.headOk,hk1,hk2,h6,h7]
     | false=>simp[EX,l1,hk,ha,Ex.headOk,hk1,hk2,h6,h7]
    ·simp[EX,l1,hk,ha,Ex.headOk,hk1,hk2,h6]
   ·obtain⟨r1,r2,r3⟩:=rd j k h3 h4;have l1:(j:Int)<bQ e.kind:=by omega
    rw[Ex.aB]at r2 r3;simp[EX,l1,r1,hk,ha,r2,r3,w1,h5]
  ·intro i hi;obtain⟨k,h3,h4,h5⟩:=h1 i hi;obtain⟨r1,r2,r3⟩:=rd i k h3 h4;have l1:(i:Int)<bQ e.kind:=by omega
   have w2:IntKind.i64.wrap ((i:Int)+1)=i+1:=wrO;rw[Ex.aB]at r2 r3;simp[EX,l1,r1,hk,r2,r3,w1,w2,h5]
 ·have h2:e.kids=[]:=by cases h:e.kids with
   | nil=>rfl
   | cons a l=>rw[h]at hk;simp at hk;omega
  rw[h2]at hk;simp at hk;simp[h2,Ex.aA,← hk];rw[aD];by_cases h1:e.kind=1
  ·by_cases h4:0≤e.col
   ·by_cases h5:e.col<w
    ·cases h7:e.val.null with
     | true=>simp[h1,w0,Ex.headOk,h4,h5,h7,show e.col≤w-1 by omega]
     | false=>simp[h1,w0,Ex.headOk,h4,h5,h7,show e.col≤w-1 by omega]
    ·simp[h1,w0,Ex.headOk,h4,h5,show ¬ e.col≤w-1 by omega]
   ·simp[h1,w0,Ex.headOk,h4]
  ·by_cases h3:e.kind=2
   ·by_cases h4:e.col=0
    ·simp[h3,Ex.headOk,h4]
    ·simp[h3,Ex.headOk,h4]
   ·by_cases h4:e.col=0
    ·cases h7:e.val.null with
     | true=>simp[h1,h3,Ex.headOk,h4,h7]
     | false=>simp[h1,h3,Ex.headOk,h4,h7]
    ·simp[h1,h3,Ex.headOk,h4]
theorem wC {w:Int} (hw:1≤w∧w≤6):∀ (n:Nat) (e:Ex),n≤8→aH C0 77 [.i (.agg e.cells), .int w, .int n] []=some (.bool (Ex.vB w n e),[])
 | 0,e,hn=>by
  by_cases hk:(e.kids.length:Int)=bQ e.kind
  ·by_cases hz:0<bQ e.kind
   ·rw[show((0:Nat):Int)=0 from rfl,AFR hk hz];simp[Ex.vB,zB5.2 hz]
   ·rw[AJV 0 hn hk (fun h=>absurd h hz) hw (fun k _ h=>absurd h hz)]
    have:e.kids=[]:=by cases h:e.kids with
     | nil=>rfl
     | cons a l=>rw[h]at hk;simp at hk;omega
    have h3:bQ e.kind=0:=by rw[this]at hk;simpa using hk.symm
    simp[Ex.vB,h3,this]
  ·rw[AE8 0 hk];simp[Ex.vB,hk]
 | n+1,e,hn=>by
  by_cases hk:(e.kids.length:Int)=bQ e.kind
  ·rw[AJV (n+1) hn hk (fun _=>by omega) hw (fun k _ _=>by
      have:=wC (w:=w) hw n k (by omega);rw[show(((n+1:Nat):Int)-1)=(n:Int)by omega]
      exact this)]
   simp[Ex.vB,hk,Bool.and_comm]
  ·rw[AE8 (n+1) hk];simp[Ex.vB,hk]
theorem ok_eq (w:Int) (e:Ex):aH C0 79 [.i (.agg e.cells), .int w] []=some (.bool (e.ok w),[]):=by
 rw[aF rfl Tryd.func79 rfl rfl];have h:=tJ (w:=w) 8 e (by omega);rw[Ex.aB]at h ⊢;have e8:((8:Nat):Int)=8:=rfl;rw[e8]at h
 cases hw:cB w with
 | false=>simp[hw,Ex.ok]
 | true=>simp[hw,Ex.ok,h]
theorem LQ (w:Int) (e:Ex):aH C0 59 [.i (.agg e.cells), .int w] []=some (.bool (e.ok w),[]):=by
 rw[aF rfl Tryd.func59 rfl rfl];by_cases hw:1≤w∧w≤6
 ·have h:=wC hw 8 e (by omega);rw[Ex.aB]at h ⊢;have e8:((8:Nat):Int)=8:=rfl;rw[e8]at h;simp[hw,Ex.ok,cB,h]
 ·rw[Ex.aB];simp[hw,Ex.ok,cB]
theorem dC:IntKind.i64.wrap 1=1:=wrO
def CX (e:Ex) (i:Nat):AS :=
 { env:=[(0, .i (.agg [.int e.kind, .int e.col, .bool e.val.null, .int e.val.n, .isl (Ex.aA e.kids)])),(1, .own 0 0),(2, .own 1 0),(3, .own 2 0),(4, .int i),(16,jk i (.bool true))],
   st:=some (.box [.int e.kind, .int e.col, .bool e.val.null, .int e.val.n, .i (.isl (Ex.aA e.kids))])::some (.box [.int 0, .int 0, .bool false, .int 0, .nils]) ::
    some (.box [.int e.kind, .int e.col, .bool e.val.null, .int e.val.n,gro 3 5 i])::VK 5 (Ex.aA (e.kids.take i)) i }
theorem AI2 {e:Ex} (hl:e.kids.length<1000000000) (ih:∀ a∈e.kids,aH C0 64 [.i (.agg a.cells)] []=some (.i (.agg a.cells),[])) :
 aH C0 64 [.i (.agg e.cells)] []=some (.i (.agg e.cells),[]):=by
 rw[aF rfl Tryd.func64 rfl rfl,Ex.aB];simp;rw[aU (CX e) e.kids.length (by simp[CX])]
 ·rw[aD]
  cases hn:e.kids.length with
  | zero =>
   have:e.kids=[]:=zZ.1 hn;simp[CX,this,Ex.aA]
  | succ n =>
   have:e.kids.take (n+1)=e.kids:=zY (by omega);simp[CX,hn,this]
 ·intro i hi;have h3:=zX hi;have hc:=ih _ (zT h3);have r2:=Ex.aS h3;generalize e.kids[i]=a at h3 hc r2;have w2:IntKind.i64.wrap ((i:Int)+1)=i+1:=wrO;by_cases h0:i=0
  ·subst h0;simp[CX,hi,r2,hc,dC,aM h3,Ex.aA]
  ·simp[CX,aQ h0,aJ h0,fG h0,hi,r2,hc,w2,aM h3,Ex.bB,show min i e.kids.length=i by omega,show(i+1)*56≤140737488355328 by omega,zD]
theorem EP:∀ (e:Ex),e.thin→aH C0 64 [.i (.agg e.cells)] []=some (.i (.agg e.cells),[]):=by
 intro e
 induction e using Ex.ind with
 | h k c v ks ih =>
  intro ht;have ht':=(Ex.dV _).1 ht;exact AI2 ht'.1 fun a ha=>ih a ha (ht'.2 a ha)
def HX (e:Ex) (i:Nat):AS :=
 { env:=[(0, .i (.iref [.int e.kind, .int e.col, .bool e.val.null, .int e.val.n, .isl (Ex.aA e.kids)])),(2, .int 0),(3, .int (Ex.htL (e.kids.take i):Nat)),(4,jk i (.int (i-1))),(9, .int e.kids.length),(10, .int i),(11,jk i (.bool true))],st:=[] }
@[simp] theorem AAE {e:Ex} (h:e.size<1000000000):aH C0 31 [.i (.iref e.cells)] []=some (.i (.agg e.cells),[]):=by
  rw[aP (p:=WC) rfl];exact ADJ h
def KP:List IV:=[.int 0, .int 0, .bool false, .int 0, .isl []]
end Go.Proofs.YtmcjmafajkeecaaDoor
namespace Go.Av
def Ex.subst (e:Ex) (l:List Ex) (w:Int):Option Ex:=if e.ok l.length && (l.all (Ex.ok w) && (e.sub l).ok w)then some (e.sub l)else none
end Go.Av
namespace Go.Proofs.YtmcjmafajkeecaaDoor
open Go Go.Av
set_option maxRecDepth 4000
end Go.Proofs.YtmcjmafajkeecaaDoor
namespace Go.Av
@[simp] theorem KA:∀ l:List UInt8,gJ 1 (aO l)=true
  | []=>rfl
  | _::l=>by have:=KA l;simp only[gJ]at this;simp[aO,gJ,this]
@[simp] theorem QK:∀ (n:Nat) (l:List UInt8),(aO l).take n=aO (l.take n)
  | 0,l=>by simp[aO]
  | n+1,[]=>by simp[aO]
  | n+1,b::l=>by simp[aO,QK n l]
end Go.Av
namespace Go.Proofs.YtmcjmafajkeecaaDoor
open Go Go.Av
set_option maxRecDepth 4000
theorem MP (l:List UInt8):∃ l':List UInt8,l'.length≤2000∧aH C0 36 [.i (.isl (aO l))] []=some (.own 0 0,[Rd l' 0]):=by
 by_cases h:(l.length:Int) > 2000
 ·refine⟨l.take 2000,by simp;omega,?_⟩;rw[aF rfl Tryd.func36 rfl rfl];simp[eD,h,show(2000:Int)≤l.length by omega]
 ·refine⟨l,by omega,?_⟩;rw[aF rfl Tryd.func36 rfl rfl];simp[eD,h]
theorem oU (l:List UInt8) (p:Int) (h0:0≤p) (h1:p<1000000000) (hl:l.length≤2000) (es:List (List IV)) (hn:0<es.length) (hes:es.length≤100) (hi:∀ r∈es,∃ x,r=[.int x]) :
 ∃ x:Int,aH C0 56 [.own 0 0, .osl 1 1 0 es.length] [Rd l p,some (.arr 1 es)]=some (.int x,[Rd l (p+1),some (.arr 1 es)])∧[.int x]∈es:=by
 obtain⟨v,hv,hv1,hv2⟩:=bF l p es.length h0 h1 hl;obtain⟨v0,v1⟩:=hv1 (by omega);have hlt:v.toNat<es.length:=by omega
 have hm:=List.getElem_mem hlt;obtain⟨x,hx⟩:=hi _ hm;refine⟨x,?_,hx ▸ hm⟩;have hnth:gW es v.toNat=some [.int x]:=by rw[gM,zX hlt,hx]
 have hw:gJ 1 es=true:=by
  rw[gJ,zJ];intro r hr;obtain⟨y,rfl⟩:=hi r hr;rfl
 rw[aF rfl Tryd.func56 rfl rfl];simp[hv,v0,v1,hnth,hw]
theorem rD (l:List UInt8) (p:Int) (h0:0≤p) (h1:p<900000000) (hl:l.length≤2000) :
 ∃ (v:Val) (p':Int),aH C0 95 [.own 0 0] [Rd l p]=some (.i (.agg [.bool v.null, .int v.n]),[Rd l p'])∧p≤p'∧p'≤p+2:=by
 obtain⟨v,hv,hv1,hv2⟩:=bF l p 5 h0 (by omega) hl;by_cases h:v=0
 ·refine⟨⟨true,0⟩,p+1,?_,by omega,by omega⟩;rw[aF rfl Tryd.func95 rfl rfl];simp[hv,h]
 ·obtain⟨x,hx,_⟩:=oU l (p+1) (by omega) (by omega) hl [[.int 0],[.int 1],[.int 2],[.int 3],[.int (-1)]] (by simp) (by simp) (by simp);refine⟨⟨false,x⟩,p+1+1,?_,by omega,by omega⟩;rw[aF rfl Tryd.func95 rfl rfl];simp at hx;simp[hv,h,hx]
theorem QN (l:List UInt8) (p:Int) (h0:0≤p) (h1:p<900000000) (hl:l.length≤2000) :
 ∃ (v:Val) (p':Int),aH C0 87 [.own 0 0] [Rd l p]=some (.i (.agg [.bool v.null, .int v.n]),[Rd l p'])∧p≤p'∧p'≤p+4:=by
 obtain⟨v,p1,hv,q1,q2⟩:=rD l p h0 (by omega) hl;obtain⟨k,hk,hk1,hk2⟩:=bF l p1 14 (by omega) (by omega) hl;by_cases g0:k=0
 ·refine⟨⟨true,1⟩,p1+1,?_,by omega,by omega⟩;rw[aF rfl Tryd.func87 rfl rfl];simp[hv,hk,g0]
 ·by_cases g1:k=1
  ·obtain⟨x,hx,_⟩:=oU l (p1+1) (by omega) (by omega) hl [[.int 10000],[.int (-10000)],[.int 9999],[.int (-9999)]] (by simp) (by simp) (by simp);refine⟨⟨false,x⟩,p1+1+1,?_,by omega,by omega⟩;rw[aF rfl Tryd.func87 rfl rfl];simp at hx;simp[hv,hk,g1,hx]
  ·refine⟨v,p1+1,?_,by omega,by omega⟩;rw[aF rfl Tryd.func87 rfl rfl];simp[hv,hk,g0,g1]
set_option maxHeartbeats 1000000
theorem YQ {l:List UInt8} (hl:l.length≤2000) {w:Int} {n:Nat} {p k:Int} (h0:0≤p) (h1:p<800000000) (hk:aH C0 55 [.own 0 0, .int 13] [Rd l p]=some (.int k,[Rd l (p+1)])) (hc:n=0∨k > 10) :
 ∃ (e:Ex) (p':Int),aH C0 86 [.own 0 0, .int w, .int n] [Rd l p]=some (.i (.agg e.cells),[Rd l p'])∧p≤p'∧p'≤p+4∧e.size=1:=by
 obtain⟨t,ht,ht1,ht2⟩:=bF l (p+1) 3 (by omega) (by omega) hl;by_cases g:t > 0
 ·obtain⟨c,hc',-,-⟩:=bF l (p+1+1) w (by omega) (by omega) hl;refine⟨.mk 1 c Val.zero [],p+1+1+1,?_,by omega,by omega,by simp[Ex.size,Ex.aX]⟩;rw[aF rfl Tryd.func86 rfl rfl];by_cases hn:n=0
  ·simp[hk,hn,ht,g,hc',Ex.cells,Ex.aA,Val.zero]
  ·have hk10:k > 10:=by omega
   simp[hk,hn,hk10,ht,g,hc',Ex.cells,Ex.aA,Val.zero]
 ·obtain⟨v,p2,hv,q1,q2⟩:=rD l (p+1+1) (by omega) (by omega) hl;refine⟨.mk 2 0 v [],p2,?_,by omega,by omega,by simp[Ex.size,Ex.aX]⟩;rw[aF rfl Tryd.func86 rfl rfl];by_cases hn:n=0
  ·simp[hk,hn,ht,g,hv]
  ·have hk10:k > 10:=by omega
   simp[hk,hn,hk10,ht,g,hv]
theorem AGI {l:List UInt8} (hl:l.length≤2000) {w:Int} {n c:Nat} {p k:Int} (h0:0≤p) (h1:p<800000000) (hk:aH C0 55 [.own 0 0, .int 13] [Rd l p]=some (.int k,[Rd l (p+1)])) (hk0:0≤k) (hk1:k≤10) (hn:n<10) (hc:c<100) (hpc:p+(2*c+1)<700000000) (ih:∀ p:Int,0≤p→p+c<700000000→∃ (e:Ex) (p':Int),aH C0 86 [.own 0 0, .int w, .int n] [Rd l p]=some (.i (.agg e.cells),[Rd l p'])∧p≤p'∧p'≤p+c∧e.size≤c) :
 ∃ (e:Ex) (p':Int),aH C0 86 [.own 0 0, .int w, .int ((n+1:Nat):Int)] [Rd l p]=some (.i (.agg e.cells),[Rd l p'])∧p≤p'∧p'≤p+(2*c+1:Nat)∧e.size≤2*c+1:=by
 obtain⟨e1,p1,he1,a1,a2,a3⟩:=ih (p+1) (by omega) (by omega);obtain⟨e2,p2,he2,b1,b2,b3⟩:=ih p1 (by omega) (by omega);have t1:0≤k.tmod 9:=zB4 _ hk0;have t2:k.tmod 9<9:=yD _ (by omega);have w1:IntKind.i64.wrap (3+k.tmod 9)=3+k.tmod 9:=wrO;have w2:IntKind.i64.wrap (n:Int)=n:=wrO;have w3:IntKind.i64.wrap 2=2:=wrO;have hn1:¬ ((n:Int)+1=0):=by omega
 have wn:((n:Int)+1 == 0)=false:=by simp[hn1]
 have hkk:¬ (10<k):=by omega
 have hK:bQ (3+k.tmod 9)=1∨bQ (3+k.tmod 9)=2:=by
  unfold bQ;split;· omega
  split;· exact .inl rfl
  split;· exact .inr rfl
  ·omega
 rcases hK with hK|hK
 ·refine⟨.mk (3+k.tmod 9) 0 Val.zero [e1],p1,?_,by omega,by omega,by simp[Ex.size,Ex.aX];omega⟩;rw[aF rfl Tryd.func86 rfl rfl];simp[hk,hn1,wn,hkk,w1];rw[aD];simp[hK,w2,he1,dC];rw[aD];simp[hK,Ex.cells,Ex.aA,Val.zero]
 ·refine⟨.mk (3+k.tmod 9) 0 Val.zero [e1,e2],p2,?_,by omega,by omega,by simp[Ex.size,Ex.aX];omega⟩;rw[aF rfl Tryd.func86 rfl rfl];simp[hk,hn1,wn,hkk,w1];rw[aD];simp[hK,w2,he1,dC];rw[aD];simp[hK,w2,he2,w3];rw[aD];simp[hK,Ex.cells,Ex.aA,Val.zero]
def iW:Nat→Nat
 | 0=>4
 | n+1=>2*iW n+1
theorem SY:∀ n,4≤iW n
 | 0=>by simp[iW]
 | n+1=>by have:=SY n;simp only[iW];omega
theorem rE (l:List UInt8) (hl:l.length≤2000) (w:Int):∀ n:Nat,iW n<200→n<10→∀ p:Int,0≤p→p+iW n<700000000→∃ (e:Ex) (p':Int),aH C0 86 [.own 0 0, .int w, .int n] [Rd l p]=some (.i (.agg e.cells),[Rd l p'])∧p≤p'∧p'≤p+iW n∧e.size≤iW n
 | 0,hc,hn,p,h0,h1=>by
  obtain⟨k,hk,-,-⟩:=bF l p 13 h0 (by omega) hl;obtain⟨e,p',a1,a2,a3,a4⟩:=YQ hl (n:=0) (w:=w) h0 (by omega) hk (.inl rfl);exact⟨e,p',a1,a2,by simp[iW];omega,by simp[iW];omega⟩
 | n+1,hc,hn,p,h0,h1=>by
  obtain⟨k,hk,hk1,-⟩:=bF l p 13 h0 (by omega) hl;obtain⟨k0,k1⟩:=hk1 (by omega);have hc':iW (n+1)=2*iW n+1:=rfl;by_cases hg:k > 10
  ·obtain⟨e,p',a1,a2,a3,a4⟩:=YQ hl (n:=n+1) (w:=w) h0 (by omega) hk (.inr hg);have h4:=SY n;exact⟨e,p',a1,a2,by omega,by omega⟩
  ·rw[hc'];exact AGI hl h0 (by omega) hk k0 (by omega) (by omega) (by omega) (by omega) fun q q0 q1=>rE l hl w n (by omega) (by omega) q q0 q1
theorem PG (l:List UInt8) (hl:l.length≤2000) (w p:Int) (h0:0≤p) (h1:p<600000000):∃ (e:Ex) (p':Int),aH C0 86 [.own 0 0, .int w, .int 3] [Rd l p]=some (.i (.agg e.cells),[Rd l p'])∧p≤p'∧p'≤p+39∧e.size≤39:=rE l hl w 3 (by decide) (by omega) p h0 (by simp only[iW];omega)
theorem CU (l:List UInt8) (hl:l.length≤2000) (w p:Int) (h0:0≤p) (h1:p<600000000):∃ (e:Ex) (p':Int),aH C0 86 [.own 0 0, .int w, .int 2] [Rd l p]=some (.i (.agg e.cells),[Rd l p'])∧p≤p'∧p'≤p+19∧e.size≤19:=rE l hl w 2 (by decide) (by omega) p h0 (by simp only[iW];omega)
end Go.Proofs.YtmcjmafajkeecaaDoor
namespace Go.Av
end Go.Av
namespace Go.Proofs.YtmcjmafajkeecaaDoor
open Go Go.Av
set_option maxRecDepth 4000
set_option maxHeartbeats 1000000
theorem X4 (l:List UInt8) (hl:l.length≤2000) (w p:Int) (h0:0≤p) (h1:p<500000000):∃ (e:Ex) (p':Int),aH C0 76 [.own 0 0, .int w] [Rd l p]=some (.i (.agg e.cells),[Rd l p'])∧p≤p'∧p'≤p+50∧e.size≤39:=by
 obtain⟨e,p1,he,a1,a2,a3⟩:=PG l hl w p h0 (by omega);obtain⟨k,hk,-,-⟩:=bF l p1 18 (by omega) (by omega) hl;rw[Ex.aB]at he;by_cases g0:k=0
 ·obtain⟨x,hx,-⟩:=oU l (p1+1) (by omega) (by omega) hl [[.int 0],[.int 12],[.int 3],[.int 10]] (by simp) (by simp) (by simp);refine⟨.mk x e.col e.val e.kids,p1+1+1,?_,by omega,by omega,by rw[Ex.size_eq]at a3 ⊢;simpa [Ex.kids]using a3⟩;rw[aF rfl Tryd.func76 rfl rfl];simp at hx;simp[he,hk,g0,hx,Ex.cells]
 ·by_cases g1:k=1
  ·obtain⟨x,hx,-⟩:=oU l (p1+1) (by omega) (by omega) hl [[.int (-1)],[.int 6],[.int w]] (by simp) (by simp) (by simp);refine⟨.mk e.kind x e.val e.kids,p1+1+1,?_,by omega,by omega,by rw[Ex.size_eq]at a3 ⊢;simpa [Ex.kids]using a3⟩;rw[aF rfl Tryd.func76 rfl rfl];simp at hx;simp[he,hk,g1,hx,Ex.cells]
  ·by_cases g2:k=2
   ·obtain⟨v,p2,hv,q1,q2⟩:=QN l (p1+1) (by omega) (by omega) hl;refine⟨.mk e.kind e.col v e.kids,p2,?_,by omega,by omega,by rw[Ex.size_eq]at a3 ⊢;simpa [Ex.kids]using a3⟩;rw[aF rfl Tryd.func76 rfl rfl];simp[he,hk,g2,hv,Ex.cells]
   ·refine⟨e,p1+1,?_,by omega,by omega,by omega⟩;rw[aF rfl Tryd.func76 rfl rfl];simp[he,hk,g0,g1,g2,Ex.aB e]
end Go.Proofs.YtmcjmafajkeecaaDoor
namespace Go.Av
def ASL (i:Nat):Ex:=.mk 1 i Val.zero []
def APU (n:Nat):List Ex:=(List.range n).map ASL
def AQM (o:Option Ex):Ex:=o.getD Ex.zero
end Go.Av
namespace Go.Proofs.YtmcjmafajkeecaaDoor
open Go Go.Av
set_option maxRecDepth 4000
set_option maxHeartbeats 1000000
def WX (code:List UInt8) (e:Ex) (l:List Ex) (w:Int) (i:Nat):AS :=
 { env:=[(0, .i (.isl (aO code))),(2, .bool false),(3, .own 0 0),(4, .i (.isl (Ex.aA l))),(5, .int w),(6, .own 1 0),(7, .bool (e.subst l w).isSome),(8, .own 2 0),(9, .bool (e.subst l w).isSome),(10, .osl 3 5 0 i),(11, .int i),(12, .junk),(13, .junk),(16, .bool false),(52, .bool false),(65,jk i (.bool true))],
   st:=[some (.box (kQ e.cells)),some (.box (kQ (AQM (e.subst l w)).cells)),some (.box (kQ (AQM (e.subst l w)).cells)),some (.arr 5 (Ex.aA (APU i)))] }
end Go.Proofs.YtmcjmafajkeecaaDoor
namespace Go.Av
end Go.Av
namespace Go.Proofs.YtmcjmafajkeecaaDoor
open Go Go.Av
set_option maxRecDepth 4000
set_option maxHeartbeats 1000000
end Go.Proofs.YtmcjmafajkeecaaDoor
namespace Go.Av
def gH (v:Val):Ex:=.mk 2 0 v []
theorem bL (v:Val):(gH v).cells=[.int 2, .int 0, .bool v.null, .int v.n, .isl []]:=by simp[gH,Ex.cells,Ex.aA]
end Go.Av
namespace Go.Proofs.YtmcjmafajkeecaaDoor
open Go Go.Av
set_option maxRecDepth 4000
set_option maxHeartbeats 1000000
end Go.Proofs.YtmcjmafajkeecaaDoor
namespace Go.Av
mutual
def Ex.ext (w:Int) (vs:List Val):Ex→Ex×List Val
 | .mk k c v ks=>if k=2 then(.mk 1 (w+vs.length) Val.zero [],vs++[v])else((.mk k c Val.zero (Ex.ANU w vs ks).1),(Ex.ANU w vs ks).2)
def Ex.ANU (w:Int) (vs:List Val):List Ex→List Ex×List Val
 | []=>([],vs)
 | e::es=>(((Ex.ext w vs e).1::(Ex.ANU w (Ex.ext w vs e).2 es).1),(Ex.ANU w (Ex.ext w vs e).2 es).2)
end
end Go.Av
namespace Go.Proofs.YtmcjmafajkeecaaDoor
open Go Go.Av
set_option maxRecDepth 4000
set_option maxHeartbeats 2000000
def xv (a b:Nat):AV:=if b=a then .osl 0 2 0 a else .osl 1 2 0 b
def wi (n:Nat):Nat:=if n=0 then 1 else 2
end Go.Proofs.YtmcjmafajkeecaaDoor
namespace Go.Av
end Go.Av
namespace Go.Proofs.YtmcjmafajkeecaaDoor
open Go Go.Av
set_option maxRecDepth 4000
set_option maxHeartbeats 2000000
end Go.Proofs.YtmcjmafajkeecaaDoor
namespace Go.Av
end Go.Av
namespace Go.Proofs.YtmcjmafajkeecaaDoor
open Go Go.Av
set_option maxRecDepth 4000
set_option maxHeartbeats 2000000
set_option maxHeartbeats 4000000
def nI (c:Int):Ex:=.mk 1 c Val.zero []
def two (k:Int) (a b:Ex):Ex:=.mk k 0 Val.zero [a,b]
theorem d9 (c:Int):(nI c).cells=[.int 1, .int c, .bool false, .int 0, .isl []]:=by simp[nI,Ex.cells,Ex.aA,Val.zero]
theorem dM (k:Int) (a b:Ex):(two k a b).cells=[.int k, .int 0, .bool false, .int 0, .isl [a.cells,b.cells]]:=by simp[two,Ex.cells,Ex.aA,Val.zero]
def ADG:Nat→Nat
 | 0=>40
 | n+1=>ADG n+40
theorem NY (l:List UInt8) (hl:l.length≤2000) (w:Int) (n c:Nat) (hn:n≤3) (p:Int) (h0:0≤p) (h1:p+10*n<500000000)
 (ih:n=0∨∀ p:Int,0≤p→p+10*((n:Int)-1)<500000000→∃ (e:Ex) (p':Int),aH C0 94 [.own 0 0, .int w, .int ((n:Int)-1)] [Rd l p]=some (.i (.agg e.cells),[Rd l p'])∧p≤p'∧p'≤p+c∧e.size≤c) :
 ∃ (e:Ex) (p':Int),aH C0 94 [.own 0 0, .int w, .int n] [Rd l p]=some (.i (.agg e.cells),[Rd l p'])∧p≤p'∧p'≤p+(c+40:Nat)∧e.size≤c+40:=by
 obtain⟨c1,hc1,-,-⟩:=bF l p w h0 (by omega) hl;obtain⟨x,hx,-,-⟩:=bF l (p+1) 4 (by omega) (by omega) hl;obtain⟨t,ht,-,-⟩:=bF l (p+1+1) 3 (by omega) (by omega) hl;obtain⟨c2,hc2,-,-⟩:=bF l (p+1+1+1) w (by omega) (by omega) hl;have hcon:=QF ⟨false,x⟩;rw[show(Ex.mk 2 0 ⟨false,x⟩ []).cells=(gH ⟨false,x⟩).cells from rfl]at hcon;simp at hcon;have wn:IntKind.i64.wrap ((n:Int)-1)=n-1:=wrO;by_cases g:t=0
 ·obtain⟨k,hk,-,-⟩:=bF l (p+1+1+1+1) 8 (by omega) (by omega) hl;by_cases k0:k=0
  ·obtain⟨e,p',he,a1,a2,a3⟩:=CU l hl w (p+1+1+1+1+1) (by omega) (by omega);refine⟨e,p',?_,by omega,by omega,by omega⟩;rw[aF rfl Tryd.func94 rfl rfl];simp[hc1,hx,ht,hk,hcon,g,hc2,d9,bL,dM,Ex.aA,k0,he]
  by_cases k1:k=1
  ·refine⟨.mk 10 0 Val.zero [.mk 11 0 Val.zero [nI c1]],p+1+1+1+1+1,?_,by omega,by omega,by simp[nI,Ex.size,Ex.aX]⟩;rw[aF rfl Tryd.func94 rfl rfl];simp[hc1,hx,ht,hk,hcon,g,hc2,d9,bL,dM,Ex.aA,k1,Ex.cells,Val.zero]
  by_cases k2:k=2
  ·rcases ih with rfl|ih
   ·refine⟨two 7 (nI c1) (nI c2),p+1+1+1+1+1,?_,by omega,by omega,by simp[two,nI,gH,Ex.size,Ex.aX]⟩;rw[aF rfl Tryd.func94 rfl rfl];simp[hc1,hx,ht,hk,hcon,g,hc2,d9,bL,dM,Ex.aA,k2]
   ·by_cases n0:n=0
    ·refine⟨two 7 (nI c1) (nI c2),p+1+1+1+1+1,?_,by omega,by omega,by simp[two,nI,gH,Ex.size,Ex.aX]⟩;rw[aF rfl Tryd.func94 rfl rfl];simp[hc1,hx,ht,hk,hcon,g,hc2,d9,bL,dM,Ex.aA,k2,n0]
    ·obtain⟨e,p',he,a1,a2,a3⟩:=ih (p+1+1+1+1+1) (by omega) (by omega);refine⟨two 8 e (two 6 (nI c1) (nI c2)),p',?_,by omega,by omega,by simp[two,nI,gH,Ex.size,Ex.aX];omega⟩;rw[aF rfl Tryd.func94 rfl rfl];simp[hc1,hx,ht,hk,hcon,g,hc2,d9,bL,dM,Ex.aA,k2,n0,wn,he]
  by_cases k3:k=3
  ·refine⟨two 7 (nI c2) (nI c1),p+1+1+1+1+1,?_,by omega,by omega,by simp[two,nI,gH,Ex.size,Ex.aX]⟩;rw[aF rfl Tryd.func94 rfl rfl];simp[hc1,hx,ht,hk,hcon,g,hc2,d9,bL,dM,Ex.aA,k3]
  by_cases k4:k=4
  ·refine⟨two 7 (nI c2) (nI c1),p+1+1+1+1+1,?_,by omega,by omega,by simp[two,nI,gH,Ex.size,Ex.aX]⟩;rw[aF rfl Tryd.func94 rfl rfl];simp[hc1,hx,ht,hk,hcon,g,hc2,d9,bL,dM,Ex.aA,k4]
  by_cases k5:k=5
  ·refine⟨two 7 (nI c1) (nI c2),p+1+1+1+1+1,?_,by omega,by omega,by simp[two,nI,gH,Ex.size,Ex.aX]⟩;rw[aF rfl Tryd.func94 rfl rfl];simp[hc1,hx,ht,hk,hcon,g,hc2,d9,bL,dM,Ex.aA,k5]
  refine⟨two 6 (nI c1) (nI c2),p+1+1+1+1+1,?_,by omega,by omega,by simp[two,nI,gH,Ex.size,Ex.aX]⟩;rw[aF rfl Tryd.func94 rfl rfl];simp[hc1,hx,ht,hk,hcon,g,hc2,d9,bL,dM,Ex.aA,k0,k1,k2,k3,k4,k5]
 ·obtain⟨k,hk,-,-⟩:=bF l (p+1+1+1) 8 (by omega) (by omega) hl;by_cases k0:k=0
  ·obtain⟨e,p',he,a1,a2,a3⟩:=CU l hl w (p+1+1+1+1) (by omega) (by omega);refine⟨e,p',?_,by omega,by omega,by omega⟩;rw[aF rfl Tryd.func94 rfl rfl];simp[hc1,hx,ht,hk,hcon,g,d9,bL,dM,Ex.aA,k0,he]
  by_cases k1:k=1
  ·refine⟨.mk 10 0 Val.zero [.mk 11 0 Val.zero [nI c1]],p+1+1+1+1,?_,by omega,by omega,by simp[nI,Ex.size,Ex.aX]⟩;rw[aF rfl Tryd.func94 rfl rfl];simp[hc1,hx,ht,hk,hcon,g,d9,bL,dM,Ex.aA,k1,Ex.cells,Val.zero]
  by_cases k2:k=2
  ·rcases ih with rfl|ih
   ·refine⟨two 7 (nI c1) (gH ⟨false,x⟩),p+1+1+1+1,?_,by omega,by omega,by simp[two,nI,gH,Ex.size,Ex.aX]⟩;rw[aF rfl Tryd.func94 rfl rfl];simp[hc1,hx,ht,hk,hcon,g,d9,bL,dM,Ex.aA,k2]
   ·by_cases n0:n=0
    ·refine⟨two 7 (nI c1) (gH ⟨false,x⟩),p+1+1+1+1,?_,by omega,by omega,by simp[two,nI,gH,Ex.size,Ex.aX]⟩;rw[aF rfl Tryd.func94 rfl rfl];simp[hc1,hx,ht,hk,hcon,g,d9,bL,dM,Ex.aA,k2,n0]
    ·obtain⟨e,p',he,a1,a2,a3⟩:=ih (p+1+1+1+1) (by omega) (by omega);refine⟨two 8 e (two 6 (nI c1) (gH ⟨false,x⟩)),p',?_,by omega,by omega,by simp[two,nI,gH,Ex.size,Ex.aX];omega⟩;rw[aF rfl Tryd.func94 rfl rfl];simp[hc1,hx,ht,hk,hcon,g,d9,bL,dM,Ex.aA,k2,n0,wn,he]
  by_cases k3:k=3
  ·refine⟨two 7 (gH ⟨false,x⟩) (nI c1),p+1+1+1+1,?_,by omega,by omega,by simp[two,nI,gH,Ex.size,Ex.aX]⟩;rw[aF rfl Tryd.func94 rfl rfl];simp[hc1,hx,ht,hk,hcon,g,d9,bL,dM,Ex.aA,k3]
  by_cases k4:k=4
  ·refine⟨two 7 (gH ⟨false,x⟩) (nI c1),p+1+1+1+1,?_,by omega,by omega,by simp[two,nI,gH,Ex.size,Ex.aX]⟩;rw[aF rfl Tryd.func94 rfl rfl];simp[hc1,hx,ht,hk,hcon,g,d9,bL,dM,Ex.aA,k4]
  by_cases k5:k=5
  ·refine⟨two 7 (nI c1) (gH ⟨false,x⟩),p+1+1+1+1,?_,by omega,by omega,by simp[two,nI,gH,Ex.size,Ex.aX]⟩;rw[aF rfl Tryd.func94 rfl rfl];simp[hc1,hx,ht,hk,hcon,g,d9,bL,dM,Ex.aA,k5]
  refine⟨two 6 (nI c1) (gH ⟨false,x⟩),p+1+1+1+1,?_,by omega,by omega,by simp[two,nI,gH,Ex.size,Ex.aX]⟩;rw[aF rfl Tryd.func94 rfl rfl];simp[hc1,hx,ht,hk,hcon,g,d9,bL,dM,Ex.aA,k0,k1,k2,k3,k4,k5]
theorem AAH (l:List UInt8) (hl:l.length≤2000) (w:Int):∀ (n:Nat),n≤3→∀ p:Int,0≤p→p+10*n<500000000→∃ (e:Ex) (p':Int),aH C0 94 [.own 0 0, .int w, .int n] [Rd l p]=some (.i (.agg e.cells),[Rd l p'])∧p≤p'∧p'≤p+ADG n∧e.size≤ADG n
 | 0,hn,p,h0,h1=>NY l hl w 0 0 hn p h0 h1 (.inl rfl)
 | n+1,hn,p,h0,h1=>by
  refine NY l hl w (n+1) (ADG n) hn p h0 h1 (.inr fun q q0 q1=>?_);rw[show((n+1:Nat):Int)-1=n by omega]at q1 ⊢;exact AAH l hl w n (by omega) q q0 q1
end Go.Proofs.YtmcjmafajkeecaaDoor
namespace Go.Av
end Go.Av
namespace Go.Proofs.YtmcjmafajkeecaaDoor
open Go Go.Av
set_option maxRecDepth 4000
set_option maxHeartbeats 2000000
theorem aL (l:List UInt8) (hl:l.length≤2000) (w p:Int) (h0:0≤p) (h1:p<400000000):∃ (e:Ex) (p':Int),aH C0 85 [.own 0 0, .int w] [Rd l p]=some (.i (.agg e.cells),[Rd l p'])∧p≤p'∧p'≤p+120∧e.size≤120:=by
 obtain⟨e,p',he,a1,a2,a3⟩:=AAH l hl w 2 (by omega) p h0 (by omega);refine⟨e,p',?_,a1,a2,a3⟩;rw[aF rfl Tryd.func85 rfl rfl];rw[show((2:Nat):Int)=2 from rfl,Ex.aB]at he;rw[Ex.aB];simp[he]
end Go.Proofs.YtmcjmafajkeecaaDoor
namespace Go.Proofs.YtmcjmafajkeecaaDoor.P
open Go Go.Av
set_option maxRecDepth 4000
theorem pG (n:Int):n=1∨n=2∨n=3∨n=4∨n=5∨n=6∨n=7∨n=8∨(n≠1∧n≠2∧n≠3∧n≠4∧n≠5∧n≠6∧n≠7∧n≠8):=by omega
@[simp] theorem ABE (n:Int):aH C0 68 [.int n] []=some (.tup [.int (dN n), .int (gX n)],[]):=by
  rw[aF rfl Tryd.func68 rfl rfl]
  rcases pG n with rfl|rfl|rfl|rfl|rfl|rfl|rfl|rfl|⟨h1,h2,h3,h4,h5,h6,h7,h8⟩
  all_goals first
   | (simp[dN,gX];done)
   | (have e1:dN n=0:=by unfold dN;rw[if_neg (by omega)]
      have e2:gX n=-1:=by unfold gX;rw[if_neg (by omega),if_neg (by omega),if_neg (by omega)]
      simp[e1,e2,h1,h2,h3,h4,h5,h6,h7,h8])
def pv (cs:List Int) (i:Nat):Int:=((-1)::cs)[i]?.getD 0
theorem YR {cs:List Int} {i:Nat} {c:Int} (h:cs[i]?=some c):pv cs (i+1)=c:=by simp[pv,h]
theorem uI {cs:List Int} {i:Nat} {x:Int×Int} (h:(cs.zip (-1::cs))[i]?=some x):cs[i]?=some x.1∧pv cs i=x.2:=by
 rw[List.getElem?_zip_eq_some]at h;exact⟨h.1,by simp[pv,h.2]⟩
theorem TB (cs:List Int):(cs.zip (-1::cs)).length=cs.length:=by simp
def GX (cs:List Int) (w:Int) (i:Nat):AS :=
 { env:=[(0, .i (.isl (aI cs))),(1, .int w),(4, .bool false),(5, .int (pv cs i)),(7,jk i (.int (pv cs i))),(10, .bool false),(11, .i (.isl (aI cs))),(12, .int cs.length),(13, .int i),(14,jk i (.bool true)),(24,jk i (.bool false))],st:=[] }
theorem qX (cs:List Int) (w:Int):aH C0 78 [.i (.isl (aI cs)), .int w] []=some (.bool (decide (cs.length<6) && nH w cs),[]):=by
 rw[aF rfl Tryd.func78 rfl rfl];by_cases h6:cs.length<6
 case neg=>simp[h6,show(6:Int)≤cs.length by omega]
 simp[h6,show ¬ (6:Int)≤cs.length by omega];obtain⟨j,h1,h2⟩:=jS (fun x:Int×Int=>decide (x.2<x.1∧x.1<w)) (cs.zip (-1::cs));rw[aU (GX cs w) j (by simp[GX,pv])]
 ·rw[aD]
  rcases h2 with ⟨hj,ha⟩|⟨x,h3,_,h4,ha⟩
  ·rw[TB]at hj;have ha:nH w cs=true:=ha;simp[GX,hj,ha]
  ·obtain⟨c1,c2⟩:=uI h3;have r1:=(zW.1 c1).1;have r2:=dA c1;have hb:¬ (x.2<x.1∧x.1<w):=by simpa using h4
   have ha:nH w cs=false:=ha;by_cases hx:x.1≤x.2
   ·simp[GX,r1,r2,c2,hx,ha]
   ·simp[GX,r1,r2,c2,hx,ha,show w≤x.1 by omega]
 ·intro i hi;obtain⟨x,h3,_,h4⟩:=h1 i hi;obtain⟨c1,c2⟩:=uI h3;have r1:=(zW.1 c1).1;have r2:=dA c1;have c3:=YR c1;have hb:x.2<x.1∧x.1<w:=by simpa using h4
  have w2:IntKind.i64.wrap ((i:Int)+1)=i+1:=wrO;simp[GX,r1,r2,c2,c3,w2,show ¬ x.1≤x.2 by omega,show ¬ w≤x.1 by omega]
def WX (p:Pn) (a b y:Int) (x14:Bool) (n21 n22:Nat) (x22:Bool) (n26 n27:Nat) (x27:Bool) (i:Nat):AS :=
 { env:=[(0, .i (.iref [.int p.kind, .int p.table, .isl (Ex.aA p.exprs), .isl (aI p.cols), .isl (Pn.aA p.kids)])),(1, .int a),(2, .int b),(6, .int 0),(7, .int y),(8,jk i (.int (i-1))),(13, .int p.kind),(14, .bool x14),(21,jk n21 (.bool false)),(22,jk n22 (.bool x22)),(26,jk n26 (.bool false)),(27,jk n27 (.bool x27)),(35, .junk),(46, .int p.exprs.length),(47, .int i),(48,jk i (.bool true)),(59,jk i (.bool false)),(65, .junk)],st:=[] }
theorem gK (p:Pn) (a b:Int) (ha:0≤a∧a≤6) (hb:0≤b∧b≤6) (hd:p.headOk=true):aH C0 69 [.i (.iref p.cells), .int a, .int b] []=some (.int (bP p.kind p.exprs p.cols a b),[]):=by
 rw[aF rfl Tryd.func69 rfl rfl];have he:=Pn.kG hd;rw[Pn.aB];have hg:=qX p.cols a;have w1:IntKind.i64.wrap (a+b)=a+b:=wrO;by_cases h6:p.kind=6
 ·have h8:p.kind≠8:=by omega
  have h4:p.kind≠5:=by omega
  have hz:p.exprs=[]:=by
   simp only[Pn.headOk,zU,zL,h6]at hd;have:=hd.2.1;simp[dN]at this;exact this
  by_cases hab:a=b
  ·subst hab;simp[h6];rw[aD];simp[hz,h6,bP]
  ·simp[h6,hab,bP]
 by_cases h8:p.kind=8
 ·by_cases h9:p.cols.length<6
  ·have w3:IntKind.i64.wrap ((p.cols.length:Int)+1)=p.cols.length+1:=wrO
   cases hc:nH a p.cols<;>simp[h8,hg,h9,hc,bP,w3]
  ·simp[h8,hg,h9,bP]
 by_cases h45:p.kind=4∨p.kind=5
 ·by_cases hs:a+b≤6
  case neg=>rcases h45 with h4|h4<;>simp[h4,w1,show 6<a+b by omega,bP,hs]
  have h4:True:=trivial
  rcases h45 with h45|h45
  ·simp[h45,w1,show ¬ 6<a+b by omega];obtain⟨j,h1,h2⟩:=jS (Ex.ok (a+b)) p.exprs;rw[aU (WX p a b (a+b) true 1 0 false 0 0 false) j (by simp[WX,h45])]
   ·rw[aD]
    rcases h2 with ⟨hj,hall⟩|⟨x,h3,_,h5,hall⟩
    ·simp[WX,hj,hall,bP,h45,hs]
    ·have r1:=(zW.1 h3).1;have r2:=Ex.aS h3;have r3:=ok_eq (a+b) x;rw[h5]at r3;rw[Ex.aB]at r2 r3;simp[WX,r1,r2,r3,hall,bP,h45,hs]
   ·intro i hi;obtain⟨x,h3,_,h5⟩:=h1 i hi;have r1:=(zW.1 h3).1;have r2:=Ex.aS h3;have r3:=ok_eq (a+b) x;rw[h5]at r3;rw[Ex.aB]at r2 r3;have w2:IntKind.i64.wrap ((i:Int)+1)=i+1:=wrO;simp[WX,r1,r2,r3,w2,h45]
  ·simp[h45,w1,show ¬ 6<a+b by omega];obtain⟨j,h1,h2⟩:=jS (Ex.ok (a+b)) p.exprs;rw[aU (WX p a b (a+b) true 1 0 false 0 0 false) j (by simp[WX,h45])]
   ·rw[aD]
    rcases h2 with ⟨hj,hall⟩|⟨x,h3,_,h5,hall⟩
    ·simp[WX,hj,hall,bP,h45,hs]
    ·have r1:=(zW.1 h3).1;have r2:=Ex.aS h3;have r3:=ok_eq (a+b) x;rw[h5]at r3;rw[Ex.aB]at r2 r3;simp[WX,r1,r2,r3,hall,bP,h45,hs]
   ·intro i hi;obtain⟨x,h3,_,h5⟩:=h1 i hi;have r1:=(zW.1 h3).1;have r2:=Ex.aS h3;have r3:=ok_eq (a+b) x;rw[h5]at r3;rw[Ex.aB]at r2 r3;have w2:IntKind.i64.wrap ((i:Int)+1)=i+1:=wrO;simp[WX,r1,r2,r3,w2,h45]
 have h4:p.kind≠4:=by omega
 have h5':p.kind≠5:=by omega
 simp[h6,h8,h4,h5'];obtain⟨j,h1,h2⟩:=jS (Ex.ok (a)) p.exprs;rw[aU (WX p a b a false 0 1 false 0 1 false) j (by simp[WX,h6,h8,h5'])]
 ·rw[aD]
  rcases h2 with ⟨hj,hall⟩|⟨x,h3,_,h5,hall⟩
  ·by_cases h3':p.kind=3
   ·simp[WX,hj,hall,bP,h3']
   ·simp[WX,hj,hall,bP,h6,h8,h4,h5',h3']
  ·have r1:=(zW.1 h3).1;have r2:=Ex.aS h3;have r3:=ok_eq (a) x;rw[h5]at r3;rw[Ex.aB]at r2 r3;by_cases h3':p.kind=3
   ·simp[WX,r1,r2,r3,hall,bP,h3']
   ·simp[WX,r1,r2,r3,hall,bP,h6,h8,h4,h5',h3']
 ·intro i hi;obtain⟨x,h3,_,h5⟩:=h1 i hi;have r1:=(zW.1 h3).1;have r2:=Ex.aS h3;have r3:=ok_eq (a) x;rw[h5]at r3;rw[Ex.aB]at r2 r3;have w2:IntKind.i64.wrap ((i:Int)+1)=i+1:=wrO;simp[WX,r1,r2,r3,w2]
set_option maxHeartbeats 2000000
@[simp] theorem AOV:gX 1=0:=by decide
@[simp] theorem ANK:dN 1=0:=by decide
@[simp] theorem AOU:gX 2=1:=by decide
@[simp] theorem ANJ:dN 2=1:=by decide
@[simp] theorem AOT:gX 3=1:=by decide
@[simp] theorem ANI:dN 3=1:=by decide
@[simp] theorem AOS:gX 4=2:=by decide
@[simp] theorem ANH:dN 4=1:=by decide
@[simp] theorem AOR:gX 5=2:=by decide
@[simp] theorem ANG:dN 5=1:=by decide
@[simp] theorem AOQ:gX 6=2:=by decide
@[simp] theorem ANF:dN 6=0:=by decide
@[simp] theorem AOP:gX 7=1:=by decide
@[simp] theorem ANE:dN 7=0:=by decide
@[simp] theorem AOO:gX 8=1:=by decide
@[simp] theorem ANC:dN 8=0:=by decide
theorem RG {k:Int} (h:k≠1∧k≠2∧k≠3∧k≠4∧k≠5∧k≠6∧k≠7∧k≠8):gX k=-1:=by
 unfold gX;rw[if_neg (by omega),if_neg (by omega),if_neg (by omega)]
theorem QL {ws:List Int} {t:Int} {es:List Ex} {cs:List Int} {ks:List Pn} {lv:Nat} {k:Int} (h:k≠1∧k≠2∧k≠3∧k≠4∧k≠5∧k≠6∧k≠7∧k≠8):aH C0 47 [.i (.iref [.int k, .int t, .isl (Ex.aA es), .isl (aI cs), .isl (Pn.aA ks)]), .i (.isl (aI ws)), .int lv] []=some (.int 0,[]):=by
 rw[aF rfl Tryd.func47 rfl rfl];have c1:¬ (ks.length:Int)=-1:=by omega
 have hn:=RG h;simp[h.2.2.1,hn,c1]
theorem AAX {ws:List Int} {t:Int} {es:List Ex} {cs:List Int} {ks:List Pn} {lv:Nat} (h:¬ ((ks.length:Int)=0∧(es.length:Int)=0∧True∧cs=[])):aH C0 47 [.i (.iref [.int 1, .int t, .isl (Ex.aA es), .isl (aI cs), .isl (Pn.aA ks)]), .i (.isl (aI ws)), .int lv] []=some (.int 0,[]):=by
 rw[aF rfl Tryd.func47 rfl rfl];by_cases c1:(ks.length:Int)=0
 case neg=>simp at c1;simp[c1]
 by_cases c2:(es.length:Int)=0
 case neg=>simp at c2;simp[c1,c2]
 by_cases c5:cs=[]
 case neg=>simp[c1,c2,c5]
 exact absurd (by simp[c1,c2,c5]) h
theorem AAW {ws:List Int} {t:Int} {es:List Ex} {cs:List Int} {ks:List Pn} {lv:Nat} (h:¬ ((ks.length:Int)=1∧(es.length:Int)=1∧lv≠0∧t=0∧cs=[])):aH C0 47 [.i (.iref [.int 2, .int t, .isl (Ex.aA es), .isl (aI cs), .isl (Pn.aA ks)]), .i (.isl (aI ws)), .int lv] []=some (.int 0,[]):=by
 rw[aF rfl Tryd.func47 rfl rfl];by_cases c1:(ks.length:Int)=1
 case neg=>simp[c1]
 by_cases c2:(es.length:Int)=1
 case neg=>simp[c1,c2]
 by_cases c3:lv=0
 case pos=>subst c3;simp[c1,c2]
 have c3':¬ (lv:Int)=0:=by omega
 by_cases c4:t=0
 case neg=>simp[c1,c2,c3,c3',c4]
 by_cases c5:cs=[]
 case neg=>simp[c1,c2,c3,c3',c4,c5]
 exact absurd (by simp[c1,c2,c3,c3',c4,c5]) h
theorem AAV {ws:List Int} {t:Int} {es:List Ex} {cs:List Int} {ks:List Pn} {lv:Nat} (h:¬ ((ks.length:Int)=1∧(es.length:Int)=(if cB es.length=true then(es.length:Int)else 1)∧lv≠0∧t=0∧cs=[])):aH C0 47 [.i (.iref [.int 3, .int t, .isl (Ex.aA es), .isl (aI cs), .isl (Pn.aA ks)]), .i (.isl (aI ws)), .int lv] []=some (.int 0,[]):=by
 rw[aF rfl Tryd.func47 rfl rfl]
 cases hv:cB es.length
 ·have hq:(es.length:Int)≠1:=fun hq=>by rw[hq]at hv;simp[cB]at hv
  by_cases c1:(ks.length:Int)=1
  case neg=>simp[hv,c1]
  simp[hv,c1,hq]
 by_cases c1:(ks.length:Int)=1
 case neg=>simp[hv,c1]
 by_cases c3:lv=0
 case pos=>subst c3;simp[hv,c1]
 have c3':¬ (lv:Int)=0:=by omega
 by_cases c4:t=0
 case neg=>simp[hv,c1,c3,c3',c4]
 by_cases c5:cs=[]
 case neg=>simp[hv,c1,c3,c3',c4,c5]
 exact absurd (by simp[hv,c1,c3,c4,c5]) h
theorem AAU {ws:List Int} {t:Int} {es:List Ex} {cs:List Int} {ks:List Pn} {lv:Nat} (h:¬ ((ks.length:Int)=2∧(es.length:Int)=1∧lv≠0∧t=0∧cs=[])):aH C0 47 [.i (.iref [.int 4, .int t, .isl (Ex.aA es), .isl (aI cs), .isl (Pn.aA ks)]), .i (.isl (aI ws)), .int lv] []=some (.int 0,[]):=by
 rw[aF rfl Tryd.func47 rfl rfl];by_cases c1:(ks.length:Int)=2
 case neg=>simp[c1]
 by_cases c2:(es.length:Int)=1
 case neg=>simp[c1,c2]
 by_cases c3:lv=0
 case pos=>subst c3;simp[c1,c2]
 have c3':¬ (lv:Int)=0:=by omega
 by_cases c4:t=0
 case neg=>simp[c1,c2,c3,c3',c4]
 by_cases c5:cs=[]
 case neg=>simp[c1,c2,c3,c3',c4,c5]
 exact absurd (by simp[c1,c2,c3,c3',c4,c5]) h
theorem AAT {ws:List Int} {t:Int} {es:List Ex} {cs:List Int} {ks:List Pn} {lv:Nat} (h:¬ ((ks.length:Int)=2∧(es.length:Int)=1∧lv≠0∧t=0∧cs=[])):aH C0 47 [.i (.iref [.int 5, .int t, .isl (Ex.aA es), .isl (aI cs), .isl (Pn.aA ks)]), .i (.isl (aI ws)), .int lv] []=some (.int 0,[]):=by
 rw[aF rfl Tryd.func47 rfl rfl];by_cases c1:(ks.length:Int)=2
 case neg=>simp[c1]
 by_cases c2:(es.length:Int)=1
 case neg=>simp[c1,c2]
 by_cases c3:lv=0
 case pos=>subst c3;simp[c1,c2]
 have c3':¬ (lv:Int)=0:=by omega
 by_cases c4:t=0
 case neg=>simp[c1,c2,c3,c3',c4]
 by_cases c5:cs=[]
 case neg=>simp[c1,c2,c3,c3',c4,c5]
 exact absurd (by simp[c1,c2,c3,c3',c4,c5]) h
theorem AAS {ws:List Int} {t:Int} {es:List Ex} {cs:List Int} {ks:List Pn} {lv:Nat} (h:¬ ((ks.length:Int)=2∧(es.length:Int)=0∧lv≠0∧t=0∧cs=[])):aH C0 47 [.i (.iref [.int 6, .int t, .isl (Ex.aA es), .isl (aI cs), .isl (Pn.aA ks)]), .i (.isl (aI ws)), .int lv] []=some (.int 0,[]):=by
 rw[aF rfl Tryd.func47 rfl rfl];by_cases c1:(ks.length:Int)=2
 case neg=>simp[c1]
 by_cases c2:(es.length:Int)=0
 case neg=>simp at c2;simp[c1,c2]
 by_cases c3:lv=0
 case pos=>subst c3;simp[c1,c2]
 have c3':¬ (lv:Int)=0:=by omega
 by_cases c4:t=0
 case neg=>simp[c1,c2,c3,c3',c4]
 by_cases c5:cs=[]
 case neg=>simp[c1,c2,c3,c3',c4,c5]
 exact absurd (by simp[c1,c2,c3,c3',c4,c5]) h
theorem AAR {ws:List Int} {t:Int} {es:List Ex} {cs:List Int} {ks:List Pn} {lv:Nat} (h:¬ ((ks.length:Int)=1∧(es.length:Int)=0∧lv≠0∧t=0∧cs=[])):aH C0 47 [.i (.iref [.int 7, .int t, .isl (Ex.aA es), .isl (aI cs), .isl (Pn.aA ks)]), .i (.isl (aI ws)), .int lv] []=some (.int 0,[]):=by
 rw[aF rfl Tryd.func47 rfl rfl];by_cases c1:(ks.length:Int)=1
 case neg=>simp[c1]
 by_cases c2:(es.length:Int)=0
 case neg=>simp at c2;simp[c1,c2]
 by_cases c3:lv=0
 case pos=>subst c3;simp[c1,c2]
 have c3':¬ (lv:Int)=0:=by omega
 by_cases c4:t=0
 case neg=>simp[c1,c2,c3,c3',c4]
 by_cases c5:cs=[]
 case neg=>simp[c1,c2,c3,c3',c4,c5]
 exact absurd (by simp[c1,c2,c3,c3',c4,c5]) h
theorem AAQ {ws:List Int} {t:Int} {es:List Ex} {cs:List Int} {ks:List Pn} {lv:Nat} (h:¬ ((ks.length:Int)=1∧(es.length:Int)=0∧lv≠0∧t=0)):aH C0 47 [.i (.iref [.int 8, .int t, .isl (Ex.aA es), .isl (aI cs), .isl (Pn.aA ks)]), .i (.isl (aI ws)), .int lv] []=some (.int 0,[]):=by
 rw[aF rfl Tryd.func47 rfl rfl];by_cases c1:(ks.length:Int)=1
 case neg=>simp[c1]
 by_cases c2:(es.length:Int)=0
 case neg=>simp at c2;simp[c1,c2]
 by_cases c3:lv=0
 case pos=>subst c3;simp[c1,c2]
 have c3':¬ (lv:Int)=0:=by omega
 by_cases c4:t=0
 case neg=>simp[c1,c2,c3,c3',c4]
 exact absurd (by simp[c1,c2,c3,c3',c4]) h
theorem WS {ws:List Int} {t:Int} {lv:Nat}:aH C0 47 [.i (.iref [.int 1, .int t, .isl (Ex.aA []), .isl (aI []), .isl (Pn.aA [])]), .i (.isl (aI ws)), .int lv] []=some (.int (if 0≤t then(ws[t.toNat]?).getD 0 else 0),[]):=by
 rw[aF rfl Tryd.func47 rfl rfl];by_cases h0:0≤t
 case neg=>simp[Ex.aA,Pn.aA,aI,h0,show t<0 by omega]
 cases hx:ws[t.toNat]? with
 | none =>
  have:=List.getElem?_eq_none_iff.1 hx;simp[Ex.aA,Pn.aA,aI,h0,show ¬ t<0 by omega,show(ws.length:Int)≤t by omega]
 | some x =>
  have r1:=(zW.1 hx).1;have r2:=dA hx;simp[Ex.aA,Pn.aA,aI,h0,show ¬ t<0 by omega,show ¬ (ws.length:Int)≤t by omega,r2,show t<ws.length by omega]
theorem WR {ws:List Int} {es:List Ex} {a:Pn} {lv:Nat} {va:Int} (hl:lv≠0) (hl8:lv≤8) (hd:Pn.headOk (Pn.mk 2 0 es [] [a])=true) (ha:aH C0 47 [.i (.iref a.cells), .i (.isl (aI ws)), .int (lv-1:Nat)] []=some (.int va,[])) (ra:0≤va∧va≤6):aH C0 47 [.i (.iref [.int 2, .int 0, .isl (Ex.aA es), .isl (aI []), .isl (Pn.aA [a])]), .i (.isl (aI ws)), .int lv] []=some (.int (if va=0 then 0 else bP 2 es [] va 0),[]):=by
 rw[aF rfl Tryd.func47 rfl rfl];have c3':¬ (lv:Int)=0:=by omega
 have w1:IntKind.i64.wrap ((lv:Int)-1)=(lv-1:Nat):=by rw[wrO];omega
 have r0:gW [a.cells] 0=some a.cells:=rfl;have hov:=gK (Pn.mk 2 0 es [] [a]) va 0 ra (by omega) hd;rw[Pn.bD]at hov;simp only[Pn.eT,Pn.cK,Pn.fA,Pn.aA,aI,Ex.aA]at hov;rw[Pn.aB a]at ha hov r0
 have c2:(es.length:Int)=1:=by
  simp only[Pn.headOk,zU,zL,Pn.cK,Pn.eT]at hd;simpa using hd.2.1
 simp[c2,hl,c3',Pn.aA,aI,Ex.aA];rw[Pn.aB a];rw[aD];by_cases z1:va=0
 case pos=>simp[w1,ha,r0,z1]
 simp[w1,ha,r0,z1,dC];rw[aD];simp[hov,z1]
theorem WQ {ws:List Int} {es:List Ex} {a:Pn} {lv:Nat} {va:Int} (hl:lv≠0) (hl8:lv≤8) (hd:Pn.headOk (Pn.mk 3 0 es [] [a])=true) (ha:aH C0 47 [.i (.iref a.cells), .i (.isl (aI ws)), .int (lv-1:Nat)] []=some (.int va,[])) (ra:0≤va∧va≤6):aH C0 47 [.i (.iref [.int 3, .int 0, .isl (Ex.aA es), .isl (aI []), .isl (Pn.aA [a])]), .i (.isl (aI ws)), .int lv] []=some (.int (if va=0 then 0 else bP 3 es [] va 0),[]):=by
 rw[aF rfl Tryd.func47 rfl rfl];have c3':¬ (lv:Int)=0:=by omega
 have w1:IntKind.i64.wrap ((lv:Int)-1)=(lv-1:Nat):=by rw[wrO];omega
 have r0:gW [a.cells] 0=some a.cells:=rfl;have hov:=gK (Pn.mk 3 0 es [] [a]) va 0 ra (by omega) hd;rw[Pn.bD]at hov;simp only[Pn.eT,Pn.cK,Pn.fA,Pn.aA,aI,Ex.aA]at hov;rw[Pn.aB a]at ha hov r0
 have hv:cB es.length=true∨(es.length:Int)=1:=by
  simp only[Pn.headOk,zU,zL,Pn.cK,Pn.eT]at hd;have:=hd.2.1;split at this
  ·rename_i h;exact .inl h.2
  ·exact .inr (by simpa using this)
 have hv:cB es.length=true:=by
  rcases hv with h|h
  ·exact h
  ·rw[h];decide
 simp[hv,hl,c3',Pn.aA,aI,Ex.aA];rw[Pn.aB a];rw[aD];by_cases z1:va=0
 case pos=>simp[w1,ha,r0,z1]
 simp[w1,ha,r0,z1,dC];rw[aD];simp[hov,z1]
theorem WP {ws:List Int} {es:List Ex} {a b:Pn} {lv:Nat} {va vb:Int} (hl:lv≠0) (hl8:lv≤8) (hd:Pn.headOk (Pn.mk 4 0 es [] [a,b])=true) (ha:aH C0 47 [.i (.iref a.cells), .i (.isl (aI ws)), .int (lv-1:Nat)] []=some (.int va,[])) (ra:0≤va∧va≤6) (hb:aH C0 47 [.i (.iref b.cells), .i (.isl (aI ws)), .int (lv-1:Nat)] []=some (.int vb,[])) (rb:0≤vb∧vb≤6):aH C0 47 [.i (.iref [.int 4, .int 0, .isl (Ex.aA es), .isl (aI []), .isl (Pn.aA [a,b])]), .i (.isl (aI ws)), .int lv] []=some (.int (if va=0∨vb=0 then 0 else bP 4 es [] va vb),[]):=by
 rw[aF rfl Tryd.func47 rfl rfl];have c3':¬ (lv:Int)=0:=by omega
 have w1:IntKind.i64.wrap ((lv:Int)-1)=(lv-1:Nat):=by rw[wrO];omega
 have r0:gW [a.cells,b.cells] 0=some a.cells:=rfl;have r1:gW [a.cells,b.cells] 1=some b.cells:=rfl;have hov:=gK (Pn.mk 4 0 es [] [a,b]) va vb ra rb hd;rw[Pn.bD]at hov;simp only[Pn.eT,Pn.cK,Pn.fA,Pn.aA,aI,Ex.aA]at hov;rw[Pn.aB a]at ha hov r0 r1;rw[Pn.aB b]at hb hov r0 r1
 have c2:(es.length:Int)=1:=by
  simp only[Pn.headOk,zU,zL,Pn.cK,Pn.eT]at hd;simpa using hd.2.1
 simp[c2,hl,c3',Pn.aA,aI,Ex.aA];rw[Pn.aB a,Pn.aB b];rw[aD];by_cases z1:va=0
 case pos=>simp[w1,ha,r0,z1]
 simp[w1,ha,r0,z1,dC];rw[aD];by_cases z2:vb=0
 case pos=>simp[w1,hb,r1,z2]
 simp[w1,hb,r1,z1,z2,wrap64 (x:=2) (by omega) (by omega)];rw[aD];simp[hov,z1,z2]
theorem WO {ws:List Int} {es:List Ex} {a b:Pn} {lv:Nat} {va vb:Int} (hl:lv≠0) (hl8:lv≤8) (hd:Pn.headOk (Pn.mk 5 0 es [] [a,b])=true) (ha:aH C0 47 [.i (.iref a.cells), .i (.isl (aI ws)), .int (lv-1:Nat)] []=some (.int va,[])) (ra:0≤va∧va≤6) (hb:aH C0 47 [.i (.iref b.cells), .i (.isl (aI ws)), .int (lv-1:Nat)] []=some (.int vb,[])) (rb:0≤vb∧vb≤6):aH C0 47 [.i (.iref [.int 5, .int 0, .isl (Ex.aA es), .isl (aI []), .isl (Pn.aA [a,b])]), .i (.isl (aI ws)), .int lv] []=some (.int (if va=0∨vb=0 then 0 else bP 5 es [] va vb),[]):=by
 rw[aF rfl Tryd.func47 rfl rfl];have c3':¬ (lv:Int)=0:=by omega
 have w1:IntKind.i64.wrap ((lv:Int)-1)=(lv-1:Nat):=by rw[wrO];omega
 have r0:gW [a.cells,b.cells] 0=some a.cells:=rfl;have r1:gW [a.cells,b.cells] 1=some b.cells:=rfl;have hov:=gK (Pn.mk 5 0 es [] [a,b]) va vb ra rb hd;rw[Pn.bD]at hov;simp only[Pn.eT,Pn.cK,Pn.fA,Pn.aA,aI,Ex.aA]at hov;rw[Pn.aB a]at ha hov r0 r1;rw[Pn.aB b]at hb hov r0 r1
 have c2:(es.length:Int)=1:=by
  simp only[Pn.headOk,zU,zL,Pn.cK,Pn.eT]at hd;simpa using hd.2.1
 simp[c2,hl,c3',Pn.aA,aI,Ex.aA];rw[Pn.aB a,Pn.aB b];rw[aD];by_cases z1:va=0
 case pos=>simp[w1,ha,r0,z1]
 simp[w1,ha,r0,z1,dC];rw[aD];by_cases z2:vb=0
 case pos=>simp[w1,hb,r1,z2]
 simp[w1,hb,r1,z1,z2,wrap64 (x:=2) (by omega) (by omega)];rw[aD];simp[hov,z1,z2]
theorem WN {ws:List Int} {a b:Pn} {lv:Nat} {va vb:Int} (hl:lv≠0) (hl8:lv≤8) (hd:Pn.headOk (Pn.mk 6 0 [] [] [a,b])=true) (ha:aH C0 47 [.i (.iref a.cells), .i (.isl (aI ws)), .int (lv-1:Nat)] []=some (.int va,[])) (ra:0≤va∧va≤6) (hb:aH C0 47 [.i (.iref b.cells), .i (.isl (aI ws)), .int (lv-1:Nat)] []=some (.int vb,[])) (rb:0≤vb∧vb≤6):aH C0 47 [.i (.iref [.int 6, .int 0, .isl (Ex.aA []), .isl (aI []), .isl (Pn.aA [a,b])]), .i (.isl (aI ws)), .int lv] []=some (.int (if va=0∨vb=0 then 0 else bP 6 [] [] va vb),[]):=by
 rw[aF rfl Tryd.func47 rfl rfl];have c3':¬ (lv:Int)=0:=by omega
 have w1:IntKind.i64.wrap ((lv:Int)-1)=(lv-1:Nat):=by rw[wrO];omega
 have r0:gW [a.cells,b.cells] 0=some a.cells:=rfl;have r1:gW [a.cells,b.cells] 1=some b.cells:=rfl;have hov:=gK (Pn.mk 6 0 [] [] [a,b]) va vb ra rb hd;rw[Pn.bD]at hov;simp only[Pn.eT,Pn.cK,Pn.fA,Pn.aA,aI,Ex.aA]at hov;rw[Pn.aB a]at ha hov r0 r1;rw[Pn.aB b]at hb hov r0 r1;simp[hl,c3',Pn.aA,aI,Ex.aA];rw[Pn.aB a,Pn.aB b];rw[aD];by_cases z1:va=0
 case pos=>simp[w1,ha,r0,z1]
 simp[w1,ha,r0,z1,dC];rw[aD];by_cases z2:vb=0
 case pos=>simp[w1,hb,r1,z2]
 simp[w1,hb,r1,z1,z2,wrap64 (x:=2) (by omega) (by omega)];rw[aD];simp[hov,z1,z2]
theorem WM {ws:List Int} {a:Pn} {lv:Nat} {va:Int} (hl:lv≠0) (hl8:lv≤8) (hd:Pn.headOk (Pn.mk 7 0 [] [] [a])=true) (ha:aH C0 47 [.i (.iref a.cells), .i (.isl (aI ws)), .int (lv-1:Nat)] []=some (.int va,[])) (ra:0≤va∧va≤6):aH C0 47 [.i (.iref [.int 7, .int 0, .isl (Ex.aA []), .isl (aI []), .isl (Pn.aA [a])]), .i (.isl (aI ws)), .int lv] []=some (.int (if va=0 then 0 else bP 7 [] [] va 0),[]):=by
 rw[aF rfl Tryd.func47 rfl rfl];have c3':¬ (lv:Int)=0:=by omega
 have w1:IntKind.i64.wrap ((lv:Int)-1)=(lv-1:Nat):=by rw[wrO];omega
 have r0:gW [a.cells] 0=some a.cells:=rfl;have hov:=gK (Pn.mk 7 0 [] [] [a]) va 0 ra (by omega) hd;rw[Pn.bD]at hov;simp only[Pn.eT,Pn.cK,Pn.fA,Pn.aA,aI,Ex.aA]at hov;rw[Pn.aB a]at ha hov r0;simp[hl,c3',Pn.aA,aI,Ex.aA];rw[Pn.aB a];rw[aD];by_cases z1:va=0
 case pos=>simp[w1,ha,r0,z1]
 simp[w1,ha,r0,z1,dC];rw[aD];simp[hov,z1]
theorem WK {ws:List Int} {cs:List Int} {a:Pn} {lv:Nat} {va:Int} (hl:lv≠0) (hl8:lv≤8) (hd:Pn.headOk (Pn.mk 8 0 [] cs [a])=true) (ha:aH C0 47 [.i (.iref a.cells), .i (.isl (aI ws)), .int (lv-1:Nat)] []=some (.int va,[])) (ra:0≤va∧va≤6):aH C0 47 [.i (.iref [.int 8, .int 0, .isl (Ex.aA []), .isl (aI cs), .isl (Pn.aA [a])]), .i (.isl (aI ws)), .int lv] []=some (.int (if va=0 then 0 else bP 8 [] cs va 0),[]):=by
 rw[aF rfl Tryd.func47 rfl rfl];have c3':¬ (lv:Int)=0:=by omega
 have w1:IntKind.i64.wrap ((lv:Int)-1)=(lv-1:Nat):=by rw[wrO];omega
 have r0:gW [a.cells] 0=some a.cells:=rfl;have hov:=gK (Pn.mk 8 0 [] cs [a]) va 0 ra (by omega) hd;rw[Pn.bD]at hov;simp only[Pn.eT,Pn.cK,Pn.fA,Pn.aA,aI,Ex.aA]at hov;rw[Pn.aB a]at ha hov r0;simp[hl,c3',Pn.aA,aI,Ex.aA];rw[Pn.aB a];rw[aD];by_cases z1:va=0
 case pos=>simp[w1,ha,r0,z1]
 simp[w1,ha,r0,z1,dC];rw[aD];simp[hov,z1]
end Go.Proofs.YtmcjmafajkeecaaDoor.P

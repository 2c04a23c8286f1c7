/- Part 3 of what the proof rests on: the executor and what it is worth, and the program's functions as it runs them. No condition. -/
import Derived.Test.YtjdfjgmebalaaaaT2
import Derived.Test.YtjdfjgmebalaaaaProg
import Derived.KernelRfl
set_option linter.unusedVariables false
set_option linter.unusedSimpArgs false
namespace Go.Av
structure RAW (wi:World) (root:Nat) (p:Pn) (F:List Nat) (H:PL) (w:World) (m:Mem) (φ:Pl):Prop where
 th:TH w m p root 0 F H
 nr:root ∉ F
 nd:F.Nodup
 all:∀ f∈root::F,wi.heap.size≤f∧f<w.heap.size∧fK φ f∧(∀ o,m f o=none)∧∃ (vs:List Value) (T:TypeId),w.heap[f]?=some (.cells vs.toArray T (0,0))∧∀ v∈vs,v.oneCell'=true
theorem iZ {w w':World} {f:Nat} (h:w'.heap[f]?=w.heap[f]?) (j:Nat):w'.cell? ⟨f,j,none⟩=w.cell? ⟨f,j,none⟩:=cell_of_heap h
theorem RAW.YQ (wi:World) (root:Nat) (p:Pn) (F:List Nat) (H:PL):AFI (RAW wi root p F H):=by
 intro w m φ w' m' φ' ha h;have hs:∀ f∈root::F,w'.heap[f]?=w.heap[f]?:=fun f hf=>ha.block f (h.all f hf).2.1 (h.all f hf).2.2.1
 refine⟨h.th.frame ha.mle (fun j _ _=>iZ (hs root (by simp)) j) (fun f hf j=>iZ (hs f (by simp[hf])) j),h.nr,h.nd,fun f hf=>?_⟩;obtain⟨k1,k2,k3,k4,vs,T,k5,k6⟩:=h.all f hf;exact⟨k1,zK k2 ha.size,ha.range k2 k3,fun o=>(ha.mnew f k2 k3 o).trans (k4 o),vs,T,by rw[hs f hf];exact k5,k6⟩
structure ADP (wi:World) (root:Nat) (p:Pn) (F:List Nat) (H:PL) (bq:Nat) (us:List Value) (wa:World) (ma:Mem) (w:World) (m:Mem) (φ:Pl):Prop where
 th:TH wa ma p root 0 F H
 nr:root ∉ F
 nd:F.Nodup
 le:MLe ma m
 inF:bq∈root::F
 own:∃ n,φ 2=some (bq,n)
 row:∃ T,wa.heap[bq]?=some (.cells us.toArray T (0,0))
 bqn:wi.heap.size≤bq
 oth:∀ f∈root::F,f≠bq→wi.heap.size≤f∧f<w.heap.size∧fK φ f∧(∀ o,m f o=none)∧w.heap[f]?=wa.heap[f]?∧∃ (vs:List Value) (T:TypeId),wa.heap[f]?=some (.cells vs.toArray T (0,0))∧∀ v∈vs,v.oneCell'=true
theorem ADP.YQ (wi:World) (root:Nat) (p:Pn) (F:List Nat) (H:PL) (bq:Nat) (us:List Value) (wa:World) (ma:Mem):AFI (ADP wi root p F H bq us wa ma):=by
 intro w m φ w' m' φ' ha h;refine⟨h.th,h.nr,h.nd,h.le.trans ha.mle,h.inF,?_,h.row,h.bqn,fun f hf hne=>?_⟩
 ·obtain⟨n,e⟩:=h.own;obtain⟨n',e',_⟩:=ha.ple _ _ _ e;exact⟨n',e'⟩
 ·obtain⟨k1,k2,k3,k4,k5,k6⟩:=h.oth f hf hne;exact⟨k1,zK k2 ha.size,ha.range k2 k3,fun o=>(ha.mnew f k2 k3 o).trans (k4 o),(ha.block f k2 k3).trans k5,k6⟩
theorem P5 {us:List Value} {o:Nat} {v0 v1 v2 v3 v4:Value} (h0:us[o]?=some v0) (h1:us[o+1]?=some v1) (h2:us[o+2]?=some v2) (h3:us[o+3]?=some v3) (h4:us[o+4]?=some v4):us=us.take o++([v0,v1,v2,v3,v4]++us.drop (o+5)):=by
 have g:∀ {o:Nat} {v:Value},us[o]?=some v→us.drop o=v::us.drop (o+1):=by
  intro o v h;obtain⟨hl,rfl⟩:=zY.1 h;exact yH hl
 have:us.drop o=[v0,v1,v2,v3,v4]++us.drop (o+5):=by rw[g h0,g h1,g h2,g h3,g h4];rfl
 rw[← this,yG]
mutual
theorem TH.hole {w:World} {m:Mem} {x:Pn} {b o:Nat} {F:List Nat} {H:PL}:TH w m x b o F H→∀ q∈H,∃ v0 v1 v2 v3 v4,ICells m q.2.cells [v0,v1,v2,v3,v4]∧At5 w q.1.1 q.1.2 v0 v1 v2 v3 v4
 | .fresh h1 h2,q,hq=>by simp at hq;subst hq;exact⟨_,_,_,_,_,h1,h2⟩
 | .leaf _ _ _ _,q,hq=>by simp at hq
 | .node _ _ _ _ _ h6 _ _,q,hq=>THL.hole h6 q hq
theorem THL.hole {w:World} {m:Mem} {xs:List Pn} {b o:Nat} {F:List Nat} {H:PL}:THL w m xs b o F H→∀ q∈H,∃ v0 v1 v2 v3 v4,ICells m q.2.cells [v0,v1,v2,v3,v4]∧At5 w q.1.1 q.1.2 v0 v1 v2 v3 v4
 | .nil _ _,q,hq=>by simp at hq
 | .cons h1 h2,q,hq=>by
  rcases zV.1 hq with h|h
  ·exact TH.hole h1 q h
  ·exact THL.hole h2 q h
end
theorem Q3 {m:Mem} {φ:Pl}:∀ {cs:List IV} {vs:List Value},ICells m cs vs→RepC m φ (jV cs) vs
 | [],_, .nil=>.nil
 | c::cs,_, .cons a o b=>.cons (.i a) o (Q3 b)
section
variable {wi:World} {mi:Mem} {nt:Nat}
def lG (pre:List Value) (row:List AV) (post:List Value):List AV:=dO pre++(row++dO post)
theorem GR.OP {ok:Nat→Prop} {root:Nat} {p:Pn} {F:List Nat} {H:PL} {env:Nat→AV} {st:Store} {a:Act} {w:World} {u bq oq:Nat} {y:Pn} (h:GR wi mi nt ok (RAW wi root p F H) env st a w) (hst:st 2=none) (hok:¬ ok 2) (hq:((bq,oq),y)∈H) (hu:env u=.i (.lit (.pointer (some ⟨bq,oq,none⟩)))) :
 ∃ pre post us ma,us.take oq=pre∧us.drop (oq+5)=post∧pre.length=oq∧us.length=oq+5+post.length∧(∀ v∈us,v.oneCell'=true) ∧
   GR wi mi nt (fun id=>ok id∨id=2) (ADP wi root p F H bq us w ma) (upd env u (.own 2 oq)) (upd st 2 (some (.box (lG pre (jV y.cells) post)))) a w:=by
 obtain⟨⟨m,φ,hi,henv,hadv,hk,hr⟩,h6,h7⟩:=h;obtain⟨v0,v1,v2,v3,v4,hc,h5⟩:=hr.th.hole _ hq;simp only at hc h5
 have hinF:bq∈root::F:=by
  rcases hr.th.holes _ hq with e|e
  ·simp at e;simp[e]
  ·simp at e;simp[e]
 obtain⟨k1,k2,k3,k4,us,T,k5,k6⟩:=hr.all bq hinF;have gc:∀ {o:Nat} {v:Value},w.cell? ⟨bq,o,none⟩=some v→us[o]?=some v:=fun h=>by rwa [bH k5]at h
 have hrow:=P5 (gc h5.c0) (gc h5.c1) (gc h5.c2) (gc h5.c3) (gc h5.c4);have hl4:=(zY.1 (gc h5.c4)).1;refine⟨us.take oq,us.drop (oq+5),us,m,rfl,rfl,by rw[yA];omega,by rw[xE];omega,k6,?_⟩
 have hφ2:φ 2=none:=by
  cases e:φ 2 with
  | none=>rfl
  | some q=>exact absurd (hk 2 (by rw[e];simp)) hok
 have hrep:RepC m (upd φ 2 (some (bq,one bq us.length))) (lG (us.take oq) (jV y.cells) (us.drop (oq+5))) us:=by
  have h1:=o8 (m:=m) (φ:=upd φ 2 (some (bq,one bq us.length))) (vs:=us.take oq) fun v hv=>k6 v (zA hv)
  have h2:=o8 (m:=m) (φ:=upd φ 2 (some (bq,one bq us.length))) (vs:=us.drop (oq+5)) fun v hv=>k6 v (yM hv)
  have h3:=BS h1 (BS (Q3 hc) h2);rw[← hrow]at h3;exact h3
 have hp:PLe φ (upd φ 2 (some (bq,one bq us.length))):=fun i r n e=>by
  refine⟨n,?_,rfl,fun _ h=>h⟩;have:i≠2:=fun h=>by rw[h,hφ2]at e;cases e
  simp[upd,this,e]
 refine⟨⟨m,upd φ 2 (some (bq,one bq us.length)),hi.OP hst hφ2 k3 k4 k5 hrep,fun t=>?_,hadv.OP k1,fun id hid=>?_,?_⟩,h6,h7⟩
 ·by_cases ht:t=u
  ·subst ht;have:=henv t;rw[hu]at this;simp only[upd,if_true];rw[this.bJ];exact .own (n:=one bq us.length) (by simp[upd])
  ·simp only[upd,ht,if_false];exact(henv t).mono (.refl _) hp
 ·by_cases e:id=2
  ·exact .inr e
  ·simp[upd,e]at hid;exact .inl (hk id hid)
 ·refine⟨hr.th,hr.nr,hr.nd, .refl _,hinF,⟨one bq us.length,by simp[upd]⟩,⟨T,k5⟩,k1,fun f hf hne=>?_⟩;obtain⟨q1,q2,q3,q4,q5⟩:=hr.all f hf;refine⟨q1,q2,fun i r n e ho=>?_,q4,rfl,q5⟩;by_cases e2:i=2
  ·subst e2;simp[upd]at e;obtain⟨rfl,rfl⟩:=e;exact hne ho
  ·simp[upd,e2]at e;exact q3 i r n e ho
def slA (n id k:Nat):AV:=if n=0 then .nils else .osl id k 0 n
def kD (b:Nat):Nat→List Pn→PL
 | _,[]=>[]
 | o,x::l=>((b,o),x)::kD b (o+5) l
theorem Inv.AK7 {w:World} {m:Mem} {φ:Pl} {st:Store} {id b:Nat} {n:Ext} {blk blk':Blk} (hi:Inv w m φ st) (h:st id=some blk) (e:φ id=some (b,n)) (hb:BlkOk w m φ b n blk'):Inv w m φ (upd st id (some blk')):=by
 refine⟨hi.mem,?_,?_,hi.low⟩
 ·intro i bl hbl;by_cases hid:i=id
  ·subst hid;simp[upd]at hbl;subst hbl;exact⟨b,n,e,(bX hi e h).1,hb⟩
  ·simp[upd,hid]at hbl;exact hi.live i bl hbl
 ·intro i j r r' n1 n2 b1 b2 f e1 e2 p1 p2 o1 o2
  have g:∀ i b1,upd st id (some blk') i=some b1→∃ b2,st i=some b2:=fun i b1 h1=>by
   by_cases hid:i=id
   ·subst hid;exact⟨blk,h⟩
   ·simp[upd,hid]at h1;exact⟨b1,h1⟩
  obtain⟨x1,y1⟩:=g i b1 e1;obtain⟨x2,y2⟩:=g j b2 e2;exact hi.inj i j r r' n1 n2 x1 x2 f y1 y2 p1 p2 o1 o2
theorem H5 {w:World} {m:Mem} {b:Nat}:∀ {ks:List Pn} {o:Nat} {vs:List Value},ICells m (Pn.aA ks).flatten vs→(∀ j v,vs[j]?=some v→w.cell? ⟨b,o+j,none⟩=some v)→THL w m ks b o [] (kD b o ks)
 | [],o,_,_,_=>.nil b o
 | k::ks,o,vs,h,hw=>by
  simp only[Pn.aA,zB]at h;have h1:=h.take 5;have h2:=h.drop 5;rw[zC2 (Pn.bP k)]at h1;rw[zA2 (Pn.bP k)]at h2;have hl:=h1.length;rw[Pn.bP]at hl;have hlen:5≤vs.length:=by rw[yA]at hl;omega
  have hf:THL w m (k::ks) b o ([]++[]) ([((b,o),k)]++kD b (o+5) ks):=by
   refine .cons ?_ (H5 h2 fun j v hj=>?_)
   ·have e:vs.take 5=[vs[0],vs[1],vs[2],vs[3],vs[4]]:=by
     apply List.ext_getElem (by simp;omega);intro i l1 l2;simp at l1 l2
     rcases i with _|_|_|_|_|i
     ·simp
     ·simp
     ·simp
     ·simp
     ·simp
     ·omega
    rw[e]at h1;exact .fresh h1 ⟨hw 0 _ (by simp),hw 1 _ (by simp),hw 2 _ (by simp),hw 3 _ (by simp),hw 4 _ (by simp)⟩
   ·rw[yL]at hj;have:=hw (5+j) v hj
    rwa [← Nat.add_assoc]at this
  exact hf
theorem TCells.rows {w:World}:∀ {cs:List IV} {vs:List Value} {F:List Nat},TCells w cs vs F→∀ f∈F,∃ (us:List Value) (T:TypeId),w.heap[f]?=some (.cells us.toArray T (0,0))∧∀ v∈us,v.oneCell'=true
 | _,_,_, .nil,f,hf=>by simp at hf
 | _,_,_, .lit _ r,f,hf=>r.rows f hf
 | _,_,_, .isl0 _ r,f,hf=>r.rows f hf
 | _,_,_, .isl _ ⟨T,h1,h2⟩ _ _ _ _ g r,f,hf=>by
  rw[zH,zS,zV]at hf
  rcases hf with e|e|e
  ·rw[e];exact⟨_,T,h1,h2⟩
  ·exact g.rows f e
  ·exact r.rows f e
theorem M4:∀ l:List Ex,jH (Ex.aA l)=true
 | []=>rfl
 | e::l=>by simp only[Ex.aA,jH,M4 l,Bool.and_true];rw[Ex.aB];rfl
theorem uP:∀ l:List Int,fV (aF l)=true
 | []=>rfl
 | n::l=>by simp only[aF,fV,uP l,Bool.and_true];rfl
theorem AMN {st:Store} {es:List Ex} {cs:List Int} {idE idC:Nat} (hE:es.length≠0→st idE=some (.tre 5 (Ex.aA es))) (hC:cs.length≠0→st idC=some (.arr 1 (aF cs))) (hne:idE≠idC) :
 ∃ st2,pX st [slA es.length idE 5,slA cs.length idC 1]=some ([.isl (Ex.aA es), .isl (aF cs)],st2)∧∀ i,i≠idE→i≠idC→st2 i=st i:=by
 have hp:=M4 es;have hb:=uP cs;have tE:(Ex.aA es).take es.length=Ex.aA es:=zX (by simp);have tC:(aF cs).take cs.length=aF cs:=zX (by simp);by_cases h1:es.length=0<;>by_cases h2:cs.length=0
 ·have:=zZ.1 h1;have:=zZ.1 h2;subst es;subst cs;exact⟨st,by simp[slA,pX,u7,bnd,Ex.aA,aF],fun _ _ _=>rfl⟩
 ·have:=zZ.1 h1;subst es;refine⟨upd st idC none,by simp[slA,pX,u7,bnd,Ex.aA,h2,hC h2,tT,tst,hb,window,tC],fun i _ h=>by simp[upd,h]⟩
 ·have:=zZ.1 h2;subst cs;refine⟨upd st idE none,by simp[slA,pX,u7,bnd,aF,h1,hE h1,tT,tst,hp,window,tE],fun i h _=>by simp[upd,h]⟩
 ·have hC':upd st idE none idC=some (.arr 1 (aF cs)):=by simp[upd,Ne.symm hne,hC h2]
  refine⟨upd (upd st idE none) idC none,by simp[slA,pX,u7,bnd,h1,h2,hE h1,hC',tT,tst,hp,hb,window,tE,tC],fun i h h'=>by simp[upd,h,h']⟩
theorem GR.AK6 {ok:Nat→Prop} {root:Nat} {p:Pn} {F:List Nat} {H:PL} {env env':Nat→AV} {st st':Store} {a:Act} {w wa:World} {ma:Mem} {u bq oq idE idC idK:Nat} {pre post us:List Value} {k t:Int} {es:List Ex} {cs:List Int} {ks:List Pn}
 (h:GR wi mi nt ok (ADP wi root p F H bq us wa ma) env st a w) (h1:us.take oq=pre) (h2:us.drop (oq+5)=post) (h3:pre.length=oq) (h4:us.length=oq+5+post.length)
 (hq:((bq,oq),Pn.mk k t es cs ks)∈H) (hbox:st 2=some (.box (lG pre [.int k, .int t,slA es.length idE 5,slA cs.length idC 1,slA ks.length idK 5] post)))
 (hE:es.length≠0→st idE=some (.tre 5 (Ex.aA es))) (hC:cs.length≠0→st idC=some (.arr 1 (aF cs))) (hK:ks.length≠0→st idK=some (.arr 5 (Pn.aA ks)))
 (hd:2<idE∧2<idC∧2<idK∧idE≠idC∧idE≠idK∧idC≠idK)
 (hst:∀ i blk,st' i=some blk→i<2∧st i=some blk∧eZ blk) (he:∀ t,env' t=.junk∨(env' t=env t∧(env t=.own 2 oq∨iB st' (env t)))) :
 ∃ F' H' us' b' cap vE vC m2,(((bq,oq),Pn.mk k t es cs ks)::H').Perm (H++kD b' 0 ks)∧us'=pre++([.int .i64 k, .int .i64 t,vE,vC,if ks.length=0 then .slice none 0 0 else .slice (some ⟨b',0,none⟩) ks.length cap]++post)∧(∀ v∈us',v.oneCell'=true)∧(∀ q∈H,q.1.1≠b') ∧
   GR wi mi nt (fun id=>id≤2) (ADP wi root p F' H' bq us' w m2) env' (upd st' 2 (some (.box (dO us')))) a w:=by
 obtain⟨⟨m,φ,hi,henv,hadv,hk,hr⟩,h6,h7⟩:=h;obtain⟨n2,e2⟩:=hr.own;obtain⟨hb2,hok2⟩:=bX hi e2 hbox;obtain⟨d1,d2,d3,d4,d5,d6⟩:=hd
 cases hok2 with
 | @box T _ vs hh hl hrc hm =>
  have hone:=hrc.one;obtain⟨vp,x,rfl,r1,r2⟩:=qO hrc;obtain⟨vr,vq,rfl,r3,r4⟩:=qO r2;obtain rfl:=(A8 r1).symm;obtain rfl:=(A8 r4).symm
  cases r3 with
  | cons a0 o0 r3 =>
  cases r3 with
  | cons a1 o1 r3 =>
  cases r3 with
  | @cons _ vE _ _ aE oE r3 =>
  cases r3 with
  | @cons _ vC _ _ aC oC r3 =>
  cases r3 with
  | @cons _ vK _ _ aK oK r3 =>
  cases r3
  obtain rfl:=a0.bJ;obtain rfl:=a1.bJ;obtain⟨st2,ha2,s2⟩:=AMN hE hC d4;obtain⟨FO,O,ab⟩:=kJ hi (.cons aE oE (.cons aC oC .nil)) ha2;obtain⟨FE,FC,hFO,tE,tC⟩:=ab.cells.split 1
  have hfree:∀ f∈FE++FC,wi.heap.size≤f∧f<w.heap.size∧(∀ o,m f o=none)∧(∃ (vs:List Value) (T:TypeId),w.heap[f]?=some (.cells vs.toArray T (0,0))∧∀ v∈vs,v.oneCell'=true)∧O f:=by
   intro f hf;rw[← hFO]at hf;obtain⟨y1,y2,id,b,n,blk,y3,y4,y5⟩:=ab.free f (ab.own f hf);exact⟨CB hadv y4 y5,y2,y1,ab.cells.rows f hf,ab.own f hf⟩
  have hsub:∀ i blk,st2 i=some blk→st i=some blk:=fun i blk e=>(ab.less i blk e).1
  have i2:Inv w m φ st2:=hi.forget hsub;have hA:=hadv;have hm2:∀ o,m bq o=none:=hm;have hlit:BlkOk w m φ bq n2 (.box (dO (pre++([.int .i64 k, .int .i64 t,vE,vC,vK]++post)))):=.box hh hl (o8 hone) hm2;have i3:=i2.AK7 (by rw[s2 2 (by omega) (by omega)];exact hbox) e2 hlit;generalize hus:pre++([.int .i64 k, .int .i64 t,vE,vC,vK]++post)=us' at hh hl hone hlit i3
  have hst2:∀ i blk,upd st' 2 (some (.box (dO us'))) i=some blk→upd st2 2 (some (.box (dO us'))) i=some blk∧eZ blk:=by
   intro i blk hb;by_cases hid:i=2
   ·subst hid;simp[upd]at hb ⊢;refine⟨hb,?_⟩;subst hb;intro c hc;obtain⟨v,_,rfl⟩:=yD.1 hc;exact .inl ⟨v,rfl⟩
   ·simp[upd,hid]at hb ⊢;obtain⟨q1,q2,q3⟩:=hst i blk hb;exact⟨by rw[s2 i (by omega) (by omega)];exact q2,q3⟩
  have i4:=i3.cut hst2
  have hat:At5 w bq oq (.int .i64 k) (.int .i64 t) vE vC vK:=by
   have g:∀ (j:Nat) (v:Value),[Value.int .i64 k, .int .i64 t,vE,vC,vK][j]?=some v→w.cell? ⟨bq,oq+j,none⟩=some v:=by
    intro j v hj;have hj5:=(zY.1 hj).1;rw[bH hh,← hus,yR (by omega),h3,xP,yU hj5];exact hj
   exact⟨g 0 _ rfl,g 1 _ rfl,g 2 _ rfl,g 3 _ rfl,g 4 _ rfl⟩
  have hHlt:∀ q∈H,q.1.1∈root::F:=fun q hq=>by
   rcases hr.th.holes q hq with e|e
   ·simp[e]
   ·simp[e]
  have hlt:∀ f∈root::F,f<w.heap.size:=fun f hf=>by
   by_cases hne:f=bq
   ·subst hne;exact(zN.1 hh).1
   ·exact(hr.oth f hf hne).2.1
  have hmon:=hr.le;have h22:=s2 2 (by omega) (by omega)
  have hG0:∀ f∈FE++FC,wi.heap.size≤f∧f<w.heap.size∧fK (MV (upd st' 2 (some (.box (dO us')))) φ) f∧(∀ o,m f o=none)∧(∃ (vs:List Value) (T:TypeId),w.heap[f]?=some (.cells vs.toArray T (0,0))∧∀ v∈vs,v.oneCell'=true)∧f≠bq∧f ∉ root::F:=by
   intro f hf;obtain⟨y1,y2,y3,y4,y5⟩:=hfree f hf;have hfb:f≠bq:=fun e=>(ab.less 2 _ (h22.trans hbox)).2 _ _ e2 bq hb2.1 (e ▸ y5)
   refine⟨y1,y2,fun id r n e ho=>?_,y3,y4,hfb,fun hm'=>?_⟩
   ·obtain⟨z1,z2⟩:=gM e;by_cases hid:id=2
    ·subst hid;exact(ab.less 2 _ (h22.trans hbox)).2 _ _ z1 f ho y5
    ·simp[upd,hid]at z2
     cases hx:st' id with
     | none=>exact z2 hx
     | some blk =>
      obtain⟨u1,u2,_⟩:=hst id blk hx;exact(ab.less id blk ((s2 id (by omega) (by omega)).trans u2)).2 _ _ z1 f ho y5
   ·obtain⟨_,_,id,b,n,blk,x3,x4,x5⟩:=ab.free f y5;exact(hr.oth f hm' hfb).2.2.1 id b n x4 x5
  have hnd0:(FE++FC).Nodup:=hFO ▸ ab.nodup;have kE:KCells w [.isl (Ex.aA es)] [vE] FE:=by simpa using tE.toK
  have kC:KCells w [.isl (aF cs)] [vC] FC:=by simpa using tC.toK
  have hnil:(es=[]→vE=.slice none 0 0)∧(cs=[]→vC=.slice none 0 0):=by
   refine⟨fun h=>?_,fun h=>?_⟩
   ·subst h;simp only[slA,yI,if_true]at aE;cases aE;rfl
   ·subst h;simp only[slA,yI,if_true]at aC;cases aC;rfl
  obtain⟨b',cap,G,hvK,hTH,hG,hGn,hbn⟩:∃ b' cap G,vK=(if ks.length=0 then Value.slice none 0 0 else Value.slice (some ⟨b',0,none⟩) ks.length cap)∧TH w m (.mk k t es cs ks) bq oq G (kD b' 0 ks) ∧
   (∀ f∈G,wi.heap.size≤f∧f<w.heap.size∧fK (MV (upd st' 2 (some (.box (dO us')))) φ) f∧(∀ o,m f o=none)∧(∃ (vs:List Value) (T:TypeId),w.heap[f]?=some (.cells vs.toArray T (0,0))∧∀ v∈vs,v.oneCell'=true)∧f≠bq∧f ∉ root::F)∧G.Nodup∧∀ q∈H,q.1.1≠b':=by
   by_cases h0:ks.length=0
   ·have hks:ks=[]:=zZ.1 h0;subst hks;simp only[slA,yI,if_true]at aK
    cases aK
    exact⟨w.heap.size,0,FE++FC,rfl, .leaf hat kE kC hnil,hG0,hnd0,fun q hq e=>by have:=hlt _ (hHlt q hq);omega⟩
   ·simp only[slA,h0,if_false]at aK
    cases aK with
    | @osl _ _ _ _ cap b' nK ao eK l1 l2 l3 l4 =>
     have hao:=l3 (by omega);subst hao;have hK2:st2 idK=some (.arr 5 (Pn.aA ks)):=by rw[s2 idK (by omega) (by omega)];exact hK h0
     obtain⟨hbK,hokK⟩:=bX i2 eK hK2
     cases hokK with
     | @arr TK _ _ vk q1 q2 q3 q4 q5 q6 q7 q8 q9 =>
      have hb'q:b'≠bq:=fun e=>by
       subst e;have:=hi.inj idK 2 b' b' nK n2 _ _ b' (hK h0) hbox eK e2 hbK.1 hb2.1;omega
      have hnF:b' ∉ root::F:=fun hm=>by
       exact(hr.oth b' hm hb'q).2.2.1 idK b' nK eK hbK.1
      have hb0:b' ∉ FE++FC:=fun hm'=>(ab.less idK _ hK2).2 _ _ eK b' hbK.1 (hfree b' hm').2.2.2.2
      refine⟨b',cap,FE++FC++(b'::[]),by simp[h0],?_,?_,?_,fun q hq e=>hnF (e ▸ hHlt q hq)⟩
      ·refine .node hat kE kC (fun e=>h0 (by rw[e];rfl)) (by omega) ?_ (by
        rw[bH q1];have:5*cap-1<vk.length:=by omega
        rw[zW this];rfl) hnil
       rw[Pn.aR]at q5
       exact H5 q5 fun j v hj=>by
        rw[zL,bH q1];rw[zD]at hj;split at hj
        ·exact hj
        ·cases hj
      rotate_left
      ·rw[zF];refine⟨hnd0,by simp,fun x hx y hy e=>?_⟩;simp at hy;subst hy;subst e;exact hb0 hx
      ·intro f hf
       rcases zV.1 hf with hf|hf
       ·exact hG0 f hf
       simp at hf;subst hf;refine⟨CB hadv eK hbK.1,hbK.2 _ hbK.1,?_,q7,⟨vk,TK,q1,q9⟩,hb'q,hnF⟩;refine oJ i3 hst2 (id:=idK) (blk:=.arr 5 (Pn.aA ks)) (by simp[upd,show idK≠2 by omega,hK2]) ?_ eK hbK.1;have:idK≠2:=by omega
       simp only[upd,this,if_false]
       cases hx:st' idK with
       | none=>rfl
       | some blk=>have:=(hst idK blk hx).1;omega
  obtain⟨T0,hrow0⟩:=hr.row
  have hsame:∀ f∈root::F,∀ j,(f≠bq∨j<oq∨oq+5≤j)→w.cell? ⟨f,j,none⟩=wa.cell? ⟨f,j,none⟩:=by
   intro f hf j hj;by_cases hne:f=bq
   ·subst hne;rw[bH hh,bH hrow0,← hus]
    rcases hj with hj|hj|hj
    ·exact absurd rfl hj
    ·rw[yU (by omega),← h1,zD];simp[hj]
    ·rw[yR (by omega),yR (by simp;omega),← h2,yL];simp only[zP,yI,h3];congr 1;omega
   ·exact iZ (hr.oth f hf hne).2.2.2.2.1 j
  obtain⟨F1,H1,k1,k2,k3⟩:=TH.fill hmon hTH hr.th hr.nr hr.nd hq hsame;have hF1:∀ f,f∈F1↔f∈F∨f∈G:=fun f=>by rw[k2.mem_iff,zV]
  refine⟨F1,H1,us',b',cap,vE,vC,m,k3,by rw[← hus,hvK],hone,hbn,⟨⟨m,MV (upd st' 2 (some (.box (dO us')))) φ,i4,fun x=>?_,hA.cut,fun id hid=>?_,?_⟩,h6,h7⟩⟩
  ·rcases he x with e|⟨e,e'|e'⟩
   ·rw[e];exact .junk _
   ·rw[e,e'];have hx:=henv x;rw[e']at hx;generalize a.tmps.getD x undef=yy at hx ⊢
    cases hx with
    | own e3=>exact .own (by rw[uT (by simp[upd])];exact e3)
   ·rw[e];refine iB.rep e' (fun i hi'=>?_) (henv x);refine uT ?_;by_cases hid:i=2
    ·subst hid;simp[upd]
    ·simpa [upd,hid]using hi'
  ·cases hx:MV (upd st' 2 (some (.box (dO us')))) φ id with
   | none=>exact absurd hx hid
   | some q =>
    have:=(gM hx).2;by_cases hid2:id=2
    ·omega
    ·simp[upd,hid2]at this
     cases hy:st' id with
     | none=>exact absurd hy this
     | some blk=>have:=(hst id blk hy).1;omega
  ·refine⟨k1,fun hm=>?_,?_, .refl _,?_,⟨n2,by rw[uT (by simp[upd])];exact e2⟩,⟨T,hh⟩,hr.bqn,fun f hf hne=>?_⟩
   ·rcases(hF1 root).1 hm with h|h
    ·exact hr.nr h
    ·exact(hG root h).2.2.2.2.2.2 (by simp)
   ·rw[k2.nodup_iff];exact zF.2 ⟨hr.nd,hGn,fun x hx y hy e=>(hG y hy).2.2.2.2.2.2 (by rw[← e];simp[hx])⟩
   ·rcases zS.1 hr.inF with e|e
    ·simp[e]
    ·simp[(hF1 bq).2 (.inl e)]
   ·have hf':f∈root::F∨f∈G:=by
     rcases zS.1 hf with e|e
     ·exact .inl (by simp[e])
     ·rcases(hF1 f).1 e with e|e
      ·exact .inl (by simp[e])
      ·exact .inr e
    rcases hf' with hf'|hf'
    ·obtain⟨q1,q2,q3,q4,q5,vs,T',q6,q7⟩:=hr.oth f hf' hne;refine⟨q1,q2,q3.cut,fun o=>?_,rfl,vs,T',by rw[q5];exact q6,q7⟩;exact q4 o
    ·obtain⟨q1,q2,q3,q4,q5,_⟩:=hG f hf';exact⟨q1,q2,q3,q4,rfl,q5⟩
theorem GR.Q7 {ok:Nat→Prop} {root:Nat} {p:Pn} {F:List Nat} {H:PL} {env env':Nat→AV} {st st':Store} {a:Act} {w wa:World} {ma:Mem} {bq:Nat} {us:List Value}
 (h:GR wi mi nt ok (ADP wi root p F H bq us wa ma) env st a w) (hbox:st 2=some (.box (dO us)))
 (hst:∀ i blk,st' i=some blk→i≠2∧st i=some blk∧eZ blk) (he:∀ t,env' t=.junk∨(env' t=env t∧iB st' (env t))) :
 GR wi mi nt (fun id=>st' id≠none) (RAW wi root p F H) env' st' a w:=by
 obtain⟨⟨m,φ,hi,henv,hadv,hk,hr⟩,h6,h7⟩:=h;obtain⟨n2,e2⟩:=hr.own;obtain⟨hb2,hok2⟩:=bX hi e2 hbox;have hst2:∀ i blk,st' i=some blk→st i=some blk∧eZ blk:=fun i blk hb=>(hst i blk hb).2
 cases hok2 with
 | @box T _ vs hh hl hrc hm =>
  have hone:=hrc.one;obtain rfl:=(A8 hrc).symm;obtain⟨T0,hrow0⟩:=hr.row
  have hcell:∀ f∈root::F,∀ j,w.cell? ⟨f,j,none⟩=wa.cell? ⟨f,j,none⟩:=by
   intro f hf j;by_cases hne:f=bq
   ·subst hne;rw[bH hh,bH hrow0]
   ·exact iZ (hr.oth f hf hne).2.2.2.2.1 j
  refine⟨⟨m,MV st' φ,hi.cut hst2,fun x=>?_,hadv.cut,fun id hid=>?_,?_⟩,h6,h7⟩
  ·rcases he x with e|⟨e,e'⟩
   ·rw[e];exact .junk _
   ·rw[e];exact e'.rep (fun i hi'=>uT hi') (henv x)
  ·cases hx:MV st' φ id with
   | none=>exact absurd hx hid
   | some q=>exact(gM hx).2
  ·refine⟨hr.th.frame hr.le (fun j _ _=>hcell root (by simp) j) (fun f hf j=>hcell f (by simp[hf]) j),hr.nr,hr.nd,fun f hf=>?_⟩;by_cases hne:f=bq
   ·subst hne;refine⟨hr.bqn,(zN.1 hh).1,?_,hm,us,T,hh,hone⟩;refine oJ hi hst2 hbox ?_ e2 hb2.1
    cases hx:st' 2 with
    | none=>rfl
    | some blk=>exact absurd rfl (hst 2 blk hx).1
   ·obtain⟨q1,q2,q3,q4,q5,vs',T',q6,q7⟩:=hr.oth f hf hne;exact⟨q1,q2,q3.cut,q4,vs',T',by rw[q5];exact q6,q7⟩
end
theorem KZ {m:Mem} {φ:Pl}:∀ {cs:List IV} {vs:List Value},RepC m φ (jV cs) vs→ICells m cs vs
 | [],_, .nil=>.nil
 | c::cs,_, .cons a o b=>by
  cases a with
  | i a=>exact .cons a o (KZ b)
section
variable {wi:World} {mi:Mem} {nt:Nat}
theorem GR.AMF {ok:Nat→Prop} {R:World→Mem→Pl→Prop} {p:Pn} {env:Nat→AV} {st st':Store} {a:Act} {w:World} {u id:Nat} (h:GR wi mi nt ok R env st a w) (hu:env u=.own id 0) (hbox:st id=some (.box (jV p.cells)))
 (hst:∀ i blk,st' i=some blk→i≠id∧st i=some blk∧eZ blk) :
 ∃ b3,∀ env',(∀ t,env' t=.junk∨(t=u∧env' t=.i (.lit (.pointer (some ⟨b3,0,none⟩))))∨(env' t=env t∧iB st' (env t)))→GR wi mi nt (fun i=>st' i≠none) (RAW wi b3 p [] [((b3,0),p)]) env' st' a w:=by
 obtain⟨⟨m,φ,hi,henv,hadv,hk,_⟩,h6,h7⟩:=h;have hr:=henv u;rw[hu]at hr;generalize hy:a.tmps.getD u undef=yy at hr
 cases hr with
 | @own _ _ b3 n3 e3 =>
  obtain⟨hb,hok⟩:=bX hi e3 hbox;have hst2:∀ i blk,st' i=some blk→st i=some blk∧eZ blk:=fun i blk hb=>(hst i blk hb).2
  cases hok with
  | @box T _ vs hh hl hrc hm =>
   have hc:=KZ hrc;have hlen:=hc.length;rw[Pn.bP]at hlen
   obtain⟨v0,v1,v2,v3,v4,rfl⟩:∃ v0 v1 v2 v3 v4,vs=[v0,v1,v2,v3,v4]:=by
    match vs,hlen with
    | [v0,v1,v2,v3,v4],_=>exact⟨v0,v1,v2,v3,v4,rfl⟩
   refine⟨b3,fun env' he=>⟨⟨m,MV st' φ,hi.cut hst2,fun t=>?_,hadv.cut,fun i hi'=>?_,?_⟩,h6,h7⟩⟩
   ·rcases he t with e|⟨rfl,e⟩|⟨e,e'⟩
    ·rw[e];exact .junk _
    ·rw[e,hy];exact .i (.lit _)
    ·rw[e];exact e'.rep (fun i hi'=>uT hi') (henv t)
   ·cases hx:MV st' φ i with
    | none=>exact absurd hx hi'
    | some q=>exact(gM hx).2
   ·refine⟨.fresh hc ⟨by rw[bH hh];rfl,by rw[bH hh];rfl,by rw[bH hh];rfl,by rw[bH hh];rfl,by rw[bH hh];rfl⟩,by simp,List.nodup_nil,fun f hf=>?_⟩;simp at hf;subst hf;refine⟨CB hadv e3 hb.1,hb.2 _ hb.1,?_,hm,_,T,hh,hrc.one⟩;refine oJ hi hst2 hbox ?_ e3 hb.1
    cases hx:st' id with
    | none=>rfl
    | some blk=>exact absurd rfl (hst id blk hx).1
theorem GR.fin {ok:Nat→Prop} {root:Nat} {p:Pn} {F:List Nat} {env:Nat→AV} {st:Store} {a:Act} {w:World} (h:GR wi mi nt ok (RAW wi root p F []) env st a w) (hst:∀ i blk,st i=some blk→eZ blk) {u:Nat} (hu:env u=.i (.lit (.pointer (some ⟨root,0,none⟩)))) {env':Nat→AV} (he:∀ t,env' t=.junk∨(t=u∧env' t=.i (.iref p.cells))∨(env' t=env t∧iB st (env t))) :
 GR wi mi nt ok (fun _ _ _=>True) env' st a w:=by
 classical
 obtain⟨⟨m,φ,hi,henv,hadv,hk,hr⟩,h6,h7⟩:=h
 let m':Mem:=fun f o=>if f∈root::F then w.cell? ⟨f,o,none⟩else m f o
 have hin:∀ f,f∈root::F→∀ o,m' f o=w.cell? ⟨f,o,none⟩:=fun f hf o=>by show(if f∈root::F then _ else _)=_;rw[if_pos hf]
 have hout:∀ f,f ∉ root::F→∀ o,m' f o=m f o:=fun f hf o=>by show(if f∈root::F then _ else _)=_;rw[if_neg hf]
 have hle:MLe m m':=fun f o v e=>by
  by_cases hf:f∈root::F
  ·rw[(hr.all f hf).2.2.2.1 o]at e;cases e
  ·rw[hout f hf];exact e
 have hmem:jT w m':=fun f o v e=>by
  by_cases hf:f∈root::F
  ·rw[hin f hf]at e;exact e
  ·rw[hout f hf]at e;exact hi.mem f o v e
 have hat:IAt m' root 0 p.cells:=hr.th.iat hle (fun j _ _=>hin root (by simp) j) (fun f hf j=>hin f (by simp[hf]) j);refine⟨⟨m',φ,⟨hmem,fun i blk hb=>?_,hi.inj,hi.low⟩,fun t=>?_,⟨hadv.size,hadv.os,hadv.tape,hadv.output,hadv.block,hadv.mle.trans hle,fun f hf hfr o=>?_,hadv.ple,hadv.pnew⟩,hk,trivial⟩,h6,h7⟩
 ·obtain⟨b,n,q1,q2,q3⟩:=hi.live i blk hb;refine⟨b,n,q1,q2,q3.MR (hst i blk hb) rfl fun o ho=>?_⟩;rw[hout b (fun hf=>(hr.all b hf).2.2.1 i b n q1 q2.1)];exact ho
 ·rcases he t with e|⟨rfl,e⟩|⟨e,e'⟩
  ·rw[e];exact .junk _
  ·have hx:=henv t;rw[hu]at hx;rw[e,hx.bJ];exact .i (.iref hat)
  ·rw[e];exact e'.rep (fun _ _=>rfl) (henv t)
 ·rw[hout f (fun hf'=>by have:=(hr.all f hf').1;omega)];exact hadv.mnew f hf hfr o
theorem RAW.keep {root:Nat} {p:Pn} {F:List Nat} {H:PL} {w:World} {m:Mem} {φ:Pl} (ids:List Nat) (h:RAW wi root p F H w m φ):RAW wi root p F H w m (dR ids φ):=by
 refine⟨h.th,h.nr,h.nd,fun f hf=>?_⟩;obtain⟨k1,k2,k3,k4,k5⟩:=h.all f hf;refine⟨k1,k2,fun id r n e=>?_,k4,k5⟩;unfold dR at e
 cases hx:ids[id]? with
 | none=>rw[hx]at e;cases e
 | some j=>rw[hx]at e;exact k3 j r n e
theorem GR.settle {ok:Nat→Prop} {R:World→Mem→Pl→Prop} (hR:∀ w m φ ids,R w m φ→R w m (dR ids φ)) {env:Nat→AV} {st:Store} {a:Act} {w:World} (G:List Nat) (h:GR wi mi nt ok R env st a w) :
 GR wi mi nt (fun id=>id<(Av.settle G 0 env st).st.length) R (aQ (Av.settle G 0 env st).env) (aS (Av.settle G 0 env st).st) a w:=by
 obtain⟨⟨m,φ,hi,henv,hadv,hok,hK⟩,hsz,hdf⟩:=h;unfold Av.settle qN;generalize hids:fT st 0 (tL env G)=ids;have hd:ids.Nodup:=by rw[← hids];exact eQ _ _ _
 refine⟨⟨m,dR ids φ,hi.keep hd,?_,hadv.keep (fun id h=>absurd rfl h) (fun j hj=>absurd hj (xJ j)),?_,hR _ _ _ ids hK⟩,hsz,hdf⟩
 ·intro t
  have key:∀ G:List Nat,Rep m (dR ids φ) (aQ (jQ (fJ ids) env G) t) (a.tmps.getD t undef):=by
   intro G
   induction G with
   | nil=>exact .junk _
   | cons u G ih =>
    simp only[jQ,aQ];by_cases e:t=u
    ·subst e;simp only[if_true];exact(henv t).ren (jI ids φ)
    ·simp only[e,if_false];exact ih
  exact key G
 ·intro id hne;simp only[fA];unfold dR at hne
  cases hx:ids[id]? with
  | none=>rw[hx]at hne;exact absurd rfl hne
  | some i=>exact(zY.1 hx).1
theorem GR.envTo {ok:Nat→Prop} {R:World→Mem→Pl→Prop} {env env':Nat→AV} {st:Store} {a:Act} {w:World} (h:GR wi mi nt ok R env st a w) (he:∀ t,env' t=.junk∨env' t=env t):GR wi mi nt ok R env' st a w:=by
 refine h.turn fun m φ h1 h2 h3 h4 h5=>⟨m,φ,h1,fun t=>?_,h3,h4,h5⟩
 rcases he t with e|e
 ·rw[e];exact .junk _
 ·rw[e];exact h2 t
theorem GR.ok' {ok ok':Nat→Prop} {R:World→Mem→Pl→Prop} {env:Nat→AV} {st:Store} {a:Act} {w:World} (h:GR wi mi nt ok R env st a w) (he:∀ id,ok id→ok' id):GR wi mi nt ok' R env st a w :=
 h.turn fun m φ h1 h2 h3 h4 h5=>⟨m,φ,h1,h2,h3,fun id hi=>he id (h4 id hi),h5⟩
theorem GR.AIL {C:Ctx} (hS:SoundOk C) {G:List Nat} {c:Code} {S:AS} {a:Act} {w:World} {R:World→Mem→Pl→Prop} (hR:AFI R) {PP:AExit→AS→Prop} (hc:codeOk nt c=true) (hx:∃ e S',dY C G S.st.length c S=some (e,S')∧PP e S') (h:GR wi mi nt (fun id=>id<S.st.length) R (aQ S.env) (aS S.st) a w) (hnr:bC c=true:=by rfl) :
 c.wp C.P (fun e' a' w'=>∃ e S',e'=gK e∧PP e S'∧GR wi mi nt (fun id=>id<S'.st.length) R (aQ S'.env) (aS S'.st) a' w') a w:=by
 obtain⟨e,S',h1,h2⟩:=hx;refine wp_mono (GR.gG hS hR hc h1 h hnr) ?_;rintro e' a' w' ⟨rfl,hg⟩;exact⟨e,S',rfl,h2,hg⟩
end
@[simp] theorem vZ (a:List Value):(dO a).length=a.length:=by simp[dO]
theorem M9 {α:Type}:∀ (a b:List α) (n:Nat),dropE (a.length+n) (a++b)=dropE n b
 | [],b,n=>by simp
 | x::a,b,n=>by
  rw[zP,show a.length+1+n=(a.length+n)+1 by omega];exact M9 a b n
theorem G8 {α:Type}:∀ (a b:List α) (n:Nat) (xs:List α),splice (a++b) (a.length+n) xs=bnd (splice b n xs) fun l=>some (a++l)
 | [],b,n,xs=>by simp;cases splice b n xs<;>rfl
 | x::a,b,n,xs=>by
  rw[zP,show a.length+1+n=(a.length+n)+1 by omega];show bnd (splice (a++b) (a.length+n) xs) _=_;rw[G8 a b n xs]
  cases splice b n xs<;>rfl
theorem JP (pre post:List Value) (row:List AV) (j n:Nat):cut (lG pre row post) (pre.length+j) n=cut (row++dO post) j n:=by
 unfold cut lG;have:=M9 (dO pre) (row++dO post) j;rw[vZ]at this;rw[this]
theorem qL (pre post:List Value) (row:List AV) (j:Nat) (xs:List AV):splice (lG pre row post) (pre.length+j) xs=bnd (splice (row++dO post) j xs) fun l=>some (dO pre++l):=by
 unfold lG;have:=G8 (dO pre) (row++dO post) j xs;rw[vZ]at this;exact this
theorem D9 (a:List Value):aT (dO a)=[]:=by
 induction a with
 | nil=>rfl
 | cons v a ih=>simpa [dO,aT,bU]using ih
theorem GM (r:Nat→Option Nat) (a:List Value):vR r (dO a)=dO a:=by
 induction a with
 | nil=>rfl
 | cons v a ih=>simpa [dO,vR,ren]using ih
theorem SX (a b:List AV):aT (a++b)=aT a++aT b:=by
 induction a with
 | nil=>rfl
 | cons c a ih=>simp[aT,ih]
theorem ZR (r:Nat→Option Nat) (a b:List AV):vR r (a++b)=vR r a++vR r b:=by
 induction a with
 | nil=>rfl
 | cons c a ih=>simp[vR,ih]
theorem aW (pre post:List Value) (row:List AV):aT (lG pre row post)=aT row:=by
 simp[lG,SX,D9]
theorem bG (r:Nat→Option Nat) (pre post:List Value) (row:List AV):vR r (lG pre row post)=lG pre (vR r row) post:=by
 simp[lG,ZR,GM]
section
variable (pre post:List Value) (a0 a1 a2 a3 a4 x:AV)
theorem AKX:cut (lG pre [a0,a1,a2,a3,a4] post) (pre.length+2) 1=some [a2]:=by rw[JP];rfl
theorem AKW:cut (lG pre [a0,a1,a2,a3,a4] post) (pre.length+3) 1=some [a3]:=by rw[JP];rfl
theorem AKV:cut (lG pre [a0,a1,a2,a3,a4] post) (pre.length+4) 1=some [a4]:=by rw[JP];rfl
theorem NC:splice (lG pre [a0,a1,a2,a3,a4] post) (pre.length+2) [x]=some (lG pre [a0,a1,x,a3,a4] post):=by rw[qL];rfl
theorem ZO:splice (lG pre [a0,a1,a2,a3,a4] post) (pre.length+3) [x]=some (lG pre [a0,a1,a2,x,a4] post):=by rw[qL];rfl
theorem KU:splice (lG pre [a0,a1,a2,a3,a4] post) (pre.length+4) [x]=some (lG pre [a0,a1,a2,a3,x] post):=by rw[qL];cases post<;>rfl
theorem AD6:rW 1 (dropE (pre.length+2) (lG pre [a0,a1,a2,a3,a4] post))=some [a2]:=AKX pre post a0 a1 a2 a3 a4
theorem AJA:rW 1 (dropE (pre.length+3) (lG pre [a0,a1,a2,a3,a4] post))=some [a3]:=AKW pre post a0 a1 a2 a3 a4
theorem QZ:rW 1 (dropE (pre.length+4) (lG pre [a0,a1,a2,a3,a4] post))=some [a4]:=AKV pre post a0 a1 a2 a3 a4
end
mutual
theorem TH.AMG {w:World} {m m':Mem} (hm:MLe m m') {x:Pn} {b o:Nat} {F:List Nat} {H:PL}:TH w m x b o F H→(∀ j,o≤j→j<o+5→m' b j=w.cell? ⟨b,j,none⟩)→(∀ f∈F,∀ j,m' f j=w.cell? ⟨f,j,none⟩)→IAt m' b o x.cells
 | .fresh h1 h2,hb,hF=>by
  refine IAt.mk o (h1.mono hm) fun j v hj=>?_
  rcases j with _|_|_|_|_|j
  ·simp at hj;subst hj;exact(hb _ (by omega) (by omega)).trans h2.c0
  ·simp at hj;subst hj;exact(hb _ (by omega) (by omega)).trans h2.c1
  ·simp at hj;subst hj;exact(hb _ (by omega) (by omega)).trans h2.c2
  ·simp at hj;subst hj;exact(hb _ (by omega) (by omega)).trans h2.c3
  ·simp at hj;subst hj;exact(hb _ (by omega) (by omega)).trans h2.c4
  ·simp at hj
 | .leaf h1 h2 h3 h4,hb,hF=>by
  rw[Pn.bV];exact .cons ((hb _ (by omega) (by omega)).trans h1.c0) (.lit _) rfl (.cons ((hb _ (by omega) (by omega)).trans h1.c1) (.lit _) rfl (.cons ((hb _ (by omega) (by omega)).trans h1.c2) (h2.rep fun f hf=>hF f (by simp[hf])) h2.one (.cons ((hb _ (by omega) (by omega)).trans h1.c3) (h3.rep fun f hf=>hF f (by simp[hf])) h3.one (.cons ((hb _ (by omega) (by omega)).trans h1.c4) (.isl0 _ _ fun _=>rfl) rfl (.nil _ _)))))
 | .node h1 h2 h3 h4 h5 h6 h7 h8,hb,hF=>by
  rename_i ks b' cap vE vC FE FC F;rw[Pn.bV];have he:=THL.AKQ hm h6 (fun j _ _=>hF b' (by simp) j) (fun f hf=>hF f (by simp[hf]));have hl:(Pn.aA ks).length=ks.length:=by simp
  have hn:Pn.aA ks≠[]:=fun e=>by rw[e]at hl;simp at hl;exact h4 (zZ.1 hl.symm)
  have hk:IRep m' (.isl (Pn.aA ks)) (.slice (some ⟨b',0,none⟩) ks.length cap):=by
   have:=IRep.isl (cap:=cap) hn he (by omega)
   rwa [hl]at this
  exact .cons ((hb _ (by omega) (by omega)).trans h1.c0) (.lit _) rfl (.cons ((hb _ (by omega) (by omega)).trans h1.c1) (.lit _) rfl (.cons ((hb _ (by omega) (by omega)).trans h1.c2) (h2.rep fun f hf=>hF f (by simp[hf])) h2.one (.cons ((hb _ (by omega) (by omega)).trans h1.c3) (h3.rep fun f hf=>hF f (by simp[hf])) h3.one (.cons ((hb _ (by omega) (by omega)).trans h1.c4) hk rfl (.nil _ _)))))
theorem THL.AKQ {w:World} {m m':Mem} (hm:MLe m m') {xs:List Pn} {b o:Nat} {F:List Nat} {H:PL}:THL w m xs b o F H→(∀ j,o≤j→j<o+5*xs.length→m' b j=w.cell? ⟨b,j,none⟩)→(∀ f∈F,∀ j,m' f j=w.cell? ⟨f,j,none⟩)→IElems m' b o 5 (Pn.aA xs)
 | .nil b o,hb,hF=>by simp only[Pn.aA];exact .nil b o 5
 | .cons h1 h2,hb,hF=>by
  simp only[Pn.aA];exact .cons (TH.AMG hm h1 (fun j l1 l2=>hb j l1 (by simp only[zP];omega)) (fun f hf=>hF f (by simp[hf]))) (Pn.bP _) (THL.AKQ hm h2 (fun j l1 l2=>hb j (by omega) (by simp only[zP];omega)) (fun f hf=>hF f (by simp[hf])))
end
theorem THL.nth {w:World} {m:Mem} {b:Nat}:∀ {xs:List Pn} {o:Nat} {F:List Nat} {i:Nat} {x:Pn},THL w m xs b o F []→xs[i]?=some x →
 ∃ Fa Fi Fz,F=Fa++(Fi++Fz)∧TH w m x b (o+5*i) Fi []∧∀ {w':World} {m':Mem} {y:Pn} {G:List Nat} {HY:PL},MLe m m'→(∀ j,o≤j→j<o+5*xs.length→(j<o+5*i∨o+5*i+5≤j)→w'.cell? ⟨b,j,none⟩=w.cell? ⟨b,j,none⟩) →
   (∀ f∈Fa++Fz,∀ j,w'.cell? ⟨f,j,none⟩=w.cell? ⟨f,j,none⟩)→TH w' m' y b (o+5*i) G HY→THL w' m' (xs.set i y) b o (Fa++(G++Fz)) HY:=by
 intro xs
 induction xs with
 | nil=>intro o F i x _ h;simp at h
 | cons a xs ih =>
  intro o F i x h hx;generalize hH:([]:PL)=H at h
  cases h with
  | @cons _ _ _ _ F1 F2 H1 H2 h1 h2 =>
   obtain⟨rfl,rfl⟩:=zB5.1 hH.symm
   cases i with
   | zero =>
    simp at hx;subst hx;refine⟨[],F1,F2,by simp,by simpa using h1,fun {w' m' y G HY} hm hw hF hy=>?_⟩;have k2:=THL.frame hm (fun j l1 l2=>hw j (by omega) (by simp only[zP];omega) (.inr (by omega))) (fun f hf=>hF f (by simp[hf])) h2;have:=THL.cons hy k2;simpa using this
   | succ i =>
    obtain⟨Fa,Fi,Fz,e,h3,h4⟩:=ih h2 (by simpa using hx);subst e;refine⟨F1++Fa,Fi,Fz,by simp,by rw[show o+5*(i+1)=o+5+5*i by omega];exact h3,fun {w' m' y G HY} hm hw hF hy=>?_⟩;rw[show o+5*(i+1)=o+5+5*i by omega]at hy;have k1:=TH.frame hm (fun j l1 l2=>hw j l1 (by simp only[zP];omega) (.inl (by omega))) (fun f hf=>hF f (by simp[hf])) h1;have k2:=h4 hm (fun j l1 l2 l3=>hw j (by omega) (by simp only[zP];omega) (by omega)) (fun f hf=>hF f (by rcases zV.1 hf with h|h<;>simp[h])) hy;have:=THL.cons k1 k2;simpa using this
theorem ZT {path:List Int} {x y z:Pn} {i:Nat} (h:Pn.at path x=some y):Pn.put (path++[(i:Int)]) x z=Pn.put path x (.mk y.kind y.table y.exprs y.cols (y.kids.set i z)):=by
 induction path generalizing x with
 | nil =>
  simp only[Pn.at,Option.some.injEq]at h;subst h
  cases hk:x.kids[i]? with
  | none =>
   have:x.kids.length≤i:=by simpa using hk
   simp[Pn.put,hk,List.set_eq_of_length_le this,Pn.eta]
  | some k=>simp[Pn.put,hk]
 | cons j path ih =>
  simp only[Pn.at]at h;split at h
  ·rename_i h0
   cases hk:x.kids[j.toNat]? with
   | none=>rw[hk]at h;cases h
   | some k =>
    rw[hk]at h;have:=ih h;simp[Pn.put,hk,this]
  ·cases h
structure AtP (w:World) (m:Mem) (x:Pn) (b o:Nat) (F:List Nat) (path:List Int) (y:Pn) (bq oq:Nat) (Fa Fy Fz:List Nat):Prop where
 eq:F=Fa++(Fy++Fz)
 inb:bq∈b::Fa
 nr:b ∉ F
 nd:F.Nodup
 is:Pn.at path x=some y
 th:TH w m y bq oq Fy []
 fill:∀ {w':World} {m':Mem} {y':Pn} {G:List Nat} {HY:PL},MLe m m'→(∀ f∈b::(Fa++Fz),∀ j,(f≠bq∨j<oq∨oq+5≤j)→w'.cell? ⟨f,j,none⟩=w.cell? ⟨f,j,none⟩)→TH w' m' y' bq oq G HY→TH w' m' (Pn.put path x y') b o (Fa++(G++Fz)) HY
theorem AtP.start {w:World} {m:Mem} {x:Pn} {b o:Nat} {F:List Nat} (h:TH w m x b o F []) (hr:b ∉ F) (hn:F.Nodup):AtP w m x b o F [] x b o [] F [] :=
 ⟨by simp,by simp,hr,hn,rfl,h,fun _ _ hy=>by simpa [Pn.put]using hy⟩
theorem AtP.mem {w:World} {m:Mem} {x:Pn} {b o:Nat} {F:List Nat} {path:List Int} {y:Pn} {bq oq:Nat} {Fa Fy Fz:List Nat} (h:AtP w m x b o F path y bq oq Fa Fy Fz):bq∈b::F:=by
 rw[h.eq]
 rcases zS.1 h.inb with e|e
 ·simp[e]
 ·simp[e]
theorem AtP.frame {w w':World} {m m':Mem} {x:Pn} {b o:Nat} {F:List Nat} {path:List Int} {y:Pn} {bq oq:Nat} {Fa Fy Fz:List Nat} (h:AtP w m x b o F path y bq oq Fa Fy Fz) (hm:MLe m m') (hF:∀ f∈b::F,∀ j,w'.cell? ⟨f,j,none⟩=w.cell? ⟨f,j,none⟩):AtP w' m' x b o F path y bq oq Fa Fy Fz:=by
 refine⟨h.eq,h.inb,h.nr,h.nd,h.is,h.th.frame hm (fun j _ _=>hF bq h.mem j) (fun f hf j=>hF f (by rw[h.eq];simp[hf]) j),fun hm' hw hy=>h.fill (hm.trans hm') (fun f hf j hj=>?_) hy⟩;rw[hw f hf j hj];refine hF f ?_ j;rw[h.eq]
 rcases zS.1 hf with e|e
 ·simp[e]
 ·rcases zV.1 e with e|e<;>simp[e]
theorem AtP.step {w:World} {m:Mem} {x:Pn} {b o:Nat} {F:List Nat} {path:List Int} {y z:Pn} {bq oq:Nat} {Fa Fy Fz:List Nat} {i:Nat} (h:AtP w m x b o F path y bq oq Fa Fy Fz) (hz:y.kids[i]?=some z) :
 ∃ b' cap,w.cell? ⟨bq,oq+4,none⟩=some (.slice (some ⟨b',0,none⟩) y.kids.length cap)∧y.kids.length≤cap∧∃ Fa' Fy' Fz',AtP w m x b o F (path++[(i:Int)]) z b' (5*i) Fa' Fy' Fz':=by
 have ht:=h.th;have hFq:=h.eq;generalize hH:([]:PL)=H at ht
 cases ht with
 | fresh=>cases hH
 | leaf h1 h2 h3 h4=>simp[Pn.kids]at hz
 | @node k t es cs ks _ _ b' cap vE vC FE FC F1 _ h1 h2 h3 h4 h5 h6 h7 h8 =>
  subst hH;have hz:ks[i]?=some z:=hz;obtain⟨Ga,Gi,Gz,e,t1,t2⟩:=h6.nth hz;subst e;have hnd:=h.nd;rw[hFq]at hnd;have hnr:=h.nr;rw[hFq]at hnr
  have hne:bq≠b':=by
   intro e
   rcases zS.1 h.inb with e'|e'
   ·exact hnr (by rw[← e',e];simp)
   ·rw[zF]at hnd;exact hnd.2.2 _ e' b' (by simp) e
  have hb1:FE++FC++(b'::(Ga++(Gi++Gz))++Fz) |>.Nodup:=by
   have hb:=(zF.1 hnd).2.1
   rwa [yY (FE++FC)]at hb
  have hdis:∀ f∈FE++FC,f≠b':=fun f hf=>(zF.1 hb1).2.2 f hf b' (by simp)
  have hb2:=(zF.1 hb1).2.1;simp only[zH,yZ]at hb2;refine⟨b',cap,h1.c4,h5,Fa++(FE++FC++(b'::Ga)),Gi,Gz++Fz,by rw[hFq];simp,by simp,h.nr,h.nd,?_,by simpa using t1,fun {w' m' y' G HY} hm hw hy=>?_⟩
  ·rw[MJ path x _ [(i:Int)] h.is];simp[Pn.at,Pn.kids,hz]
  ·rw[ZT h.is]
   have hK:THL w' m' (ks.set i y') b' 0 (Ga++(G++Gz)) HY:=by
    refine t2 hm (fun j _ _ hj=>hw b' (by simp) j (.inr (by omega))) (fun f hf j=>hw f (by rcases zV.1 hf with e|e<;>simp[e]) j (.inl ?_)) (by simpa using hy);intro e;subst e;exact hb2.1 (by rcases zV.1 hf with e|e<;>simp[e])
   have hlen:(ks.set i y').length=ks.length:=by simp
   have hn:ks.set i y'≠[]:=fun e=>by rw[e]at hlen;simp at hlen;exact h4 (zZ.1 hlen.symm)
   have hbq:bq∈b::((Fa++(FE++FC++(b'::Ga)))++(Gz++Fz)):=by
    rcases zS.1 h.inb with e'|e'
    ·simp[e']
    ·simp[e']
   have hA:=h1.frame (w':=w') (fun j l1 l2=>hw bq hbq j (.inl hne));rw[← hlen]at hA
   have hY:TH w' m' (.mk k t es cs (ks.set i y')) bq oq (FE++FC++(b'::(Ga++(G++Gz)))) HY :=
    .node hA (h2.frame fun f hf j=>hw f (by simp[hf]) j (.inl (hdis f (by simp[hf])))) (h3.frame fun f hf j=>hw f (by simp[hf]) j (.inl (hdis f (by simp[hf])))) hn (by rw[hlen];exact h5) hK (by
     by_cases hj:5*cap-1<5*i∨5*i+5≤5*cap-1
     ·rw[hw b' (by simp) _ (.inr hj)];exact h7
     ·obtain⟨d,hd,e⟩:∃ d,d<5∧5*cap-1=5*i+d:=⟨5*cap-1-5*i,by omega,by omega⟩
      rw[e];exact hy.at5 d hd) h8
   have:=h.fill hm (fun f hf j hj=>hw f (by
    rcases zS.1 hf with e|e
    ·simp[e]
    ·rcases zV.1 e with e|e<;>simp[e]) j (by
    by_cases e:f=b'
    ·subst e;exfalso
     rcases zS.1 hf with e|e
     ·exact hnr (by rw[← e];simp)
     ·rcases zV.1 e with e|e
      ·exact(zF.1 hnd).2.2 _ e f (by simp) rfl
      ·exact hb2.1 (by simp[e])
    ·exact .inl e)) hY
   simpa [Pn.kind,Pn.table,Pn.exprs,Pn.cols,Pn.kids]using this
def AFH:Blk→Prop
 | .box cs=>∀ c∈cs,(∃ v,c=.i v)∨c=.nils
 | .loop _ _ _=>False
 | _=>True
theorem RepC.tree {m:Mem} {φ φ':Pl}:∀ {cs:List AV} {vs:List Value},(∀ c∈cs,(∃ v,c=.i v)∨c=.nils)→RepC m φ cs vs→RepC m φ' cs vs
 | [],_,_, .nil=>.nil
 | c::cs,_,h, .cons a o r=>by
  have hr:=RepC.tree (m:=m) (φ':=φ') (fun d hd=>h d (by simp[hd])) r
  rcases h c (by simp)with ⟨v,rfl⟩|rfl
  ·cases a with|i a=>exact .cons (.i a) o hr
  ·cases a;exact .cons .nils o hr
theorem BlkOk.tree {w:World} {m:Mem} {φ φ':Pl} {b:Nat} {n:Ext} {blk:Blk} (hl:AFH blk) (h:BlkOk w m φ b n blk):BlkOk w m φ' b n blk:=by
 cases h with
 | box h1 h2 h3 h4=>exact .box h1 h2 (h3.tree hl) h4
 | arr h1 h2 h3 h4 h5 h6 h7 h8 h9=>exact .arr h1 h2 h3 h4 h5 h6 h7 h8 h9
 | frz h1 h2=>exact .frz h1 h2
 | fbox h1=>exact .fbox h1
 | tre h1 h2 h3 h4 h5 h6 h7 h8 h9 h10=>exact .tre h1 h2 h3 h4 h5 h6 h7 h8 h9 h10
 | loop=>cases hl
def YG (st':Store):AV→Prop
 | .i _=>True
 | .own id _=>st' id≠none
 | .osl id _ _ _=>st' id≠none
 | .nils=>True
 | _=>False
theorem YG.rep {m:Mem} {φ φ':Pl} {st':Store} {v:AV} {x:Value} (h:YG st' v) (he:∀ i,st' i≠none→φ' i=φ i) (hr:Rep m φ v x):Rep m φ' v x:=by
 unfold YG at h;split at h
 ·cases hr with|i k=>exact .i k
 ·cases hr with
  | own e=>exact .own (by rw[he _ h];exact e)
 ·cases hr with
  | osl e a b c d=>exact .osl (by rw[he _ h];exact e) a b c d
 ·cases hr;exact .nils
 ·cases h
structure CPY (wi:World) (p:Pn) (F:List Nat) (v0 v1 v2 v3 v4:Value) (w:World) (m:Mem) (φ:Pl):Prop where
 th:∀ {w':World} {m':Mem} {b o:Nat},MLe m m'→(∀ f∈F,∀ j,w'.cell? ⟨f,j,none⟩=w.cell? ⟨f,j,none⟩)→At5 w' b o v0 v1 v2 v3 v4→TH w' m' p b o F []
 cells:∀ {m':Mem},MLe m m'→(∀ f∈F,∀ j,m' f j=w.cell? ⟨f,j,none⟩)→ICells m' p.cells [v0,v1,v2,v3,v4]
 nd:F.Nodup
 all:∀ f∈F,wi.heap.size≤f∧f<w.heap.size∧fK φ f∧(∀ o,m f o=none)∧∃ (vs:List Value) (T:TypeId),w.heap[f]?=some (.cells vs.toArray T (0,0))∧∀ v∈vs,v.oneCell'=true
 kc:KCells w p.cells [v0,v1,v2,v3,v4] F∧(p.exprs=[]→v2=.slice none 0 0)∧(p.cols=[]→v3=.slice none 0 0)∧(p.kids=[]→v4=.slice none 0 0)
theorem CPY.YQ (wi:World) (p:Pn) (F:List Nat) (v0 v1 v2 v3 v4:Value):AFI (CPY wi p F v0 v1 v2 v3 v4):=by
 intro w m φ w' m' φ' ha h;have hs:∀ f∈F,w'.heap[f]?=w.heap[f]?:=fun f hf=>ha.block f (h.all f hf).2.1 (h.all f hf).2.2.1
 refine⟨fun hm hw h5=>h.th (ha.mle.trans hm) (fun f hf j=>(hw f hf j).trans (iZ (hs f hf) j)) h5,fun hm hw=>h.cells (ha.mle.trans hm) fun f hf j=>(hw f hf j).trans (iZ (hs f hf) j),h.nd,fun f hf=>?_,h.kc.1.frame fun f hf j=>iZ (hs f hf) j,h.kc.2⟩;obtain⟨k1,k2,k3,k4,vs,T,k5,k6⟩:=h.all f hf;exact⟨k1,zK k2 ha.size,ha.range k2 k3,fun o=>(ha.mnew f k2 k3 o).trans (k4 o),vs,T,by rw[hs f hf];exact k5,k6⟩
theorem TH.cells {w:World} {m:Mem} {x:Pn} {b o:Nat} {F:List Nat} (h:TH w m x b o F []):∃ v0 v1 v2 v3 v4,At5 w b o v0 v1 v2 v3 v4∧(∀ v∈[v0,v1,v2,v3,v4],v.oneCell'=true)∧(∃ ao cap,v4=.slice ao x.kids.length cap)∧(∀ {w':World} {m':Mem} {b' o':Nat},MLe m m'→(∀ f∈F,∀ j,w'.cell? ⟨f,j,none⟩=w.cell? ⟨f,j,none⟩)→At5 w' b' o' v0 v1 v2 v3 v4→TH w' m' x b' o' F []) ∧
 ∀ {m':Mem},MLe m m'→(∀ f∈F,∀ j,m' f j=w.cell? ⟨f,j,none⟩)→ICells m' x.cells [v0,v1,v2,v3,v4]:=by
 generalize hH:([]:PL)=H at h
 cases h with
 | fresh=>cases hH
 | leaf h1 h2 h3 h4 =>
  refine⟨_,_,_,_,_,h1,(by intro v hv;simp only[zS,List.not_mem_nil,or_false]at hv;rcases hv with rfl|rfl|rfl|rfl|rfl<;>first|rfl|exact h2.one|exact h3.one),⟨_,_,rfl⟩,fun hm hF h5=>.leaf h5 (h2.frame fun f hf=>hF f (by simp[hf])) (h3.frame fun f hf=>hF f (by simp[hf])) h4,fun hm hF=>?_⟩;rw[Pn.bV];exact .cons (.lit _) rfl (.cons (.lit _) rfl (.cons (h2.rep fun f hf=>hF f (by simp[hf])) h2.one (.cons (h3.rep fun f hf=>hF f (by simp[hf])) h3.one (.cons (.isl0 _ _ fun _=>rfl) rfl .nil))))
 | @node k t es cs ks _ _ b' cap vE vC FE FC F1 _ h1 h2 h3 h4 h5 h6 h7 h8 =>
  subst hH;refine⟨_,_,_,_,_,h1,(by intro v hv;simp only[zS,List.not_mem_nil,or_false]at hv;rcases hv with rfl|rfl|rfl|rfl|rfl<;>first|rfl|exact h2.one|exact h3.one),⟨_,_,rfl⟩,fun hm hF k5=>.node k5 (h2.frame fun f hf=>hF f (by simp[hf])) (h3.frame fun f hf=>hF f (by simp[hf])) h4 h5 (h6.frame hm (fun j _ _=>hF _ (by simp) j) fun f hf=>hF f (by simp[hf])) (by rw[hF _ (by simp)];exact h7) h8,fun hm hF=>?_⟩;rw[Pn.bV];have he:=THL.AKQ hm h6 (fun j _ _=>hF b' (by simp) j) (fun f hf=>hF f (by simp[hf]));have hl:(Pn.aA ks).length=ks.length:=by simp
  have hn:Pn.aA ks≠[]:=fun e=>by rw[e]at hl;simp at hl;exact h4 (zZ.1 hl.symm)
  have hk:=IRep.isl (cap:=cap) hn he (by omega);rw[hl]at hk;exact .cons (.lit _) rfl (.cons (.lit _) rfl (.cons (h2.rep fun f hf=>hF f (by simp[hf])) h2.one (.cons (h3.rep fun f hf=>hF f (by simp[hf])) h3.one (.cons hk rfl .nil))))
structure RAT (wi:World) (root:Nat) (p:Pn) (F:List Nat) (path:List Int) (y:Pn) (bq oq:Nat) (Fa Fy Fz:List Nat) (w:World) (m:Mem) (φ:Pl):Prop where
 raw:RAW wi root p F [] w m φ
 pos:AtP w m p root 0 F path y bq oq Fa Fy Fz
structure ADK (wi:World) (root:Nat) (p:Pn) (F:List Nat) (path:List Int) (y:Pn) (bq oq:Nat) (Fa Fy Fz:List Nat) (k:Nat) (wa:World) (ma:Mem) (w:World) (m:Mem) (φ:Pl):Prop where
 pos:AtP wa ma p root 0 F path y bq oq Fa Fy Fz
 le:MLe ma m
 own:∃ n,φ k=some (bq,n)
 bqn:wi.heap.size≤bq
 oth:∀ f∈root::F,f≠bq→wi.heap.size≤f∧f<w.heap.size∧fK φ f∧(∀ o,m f o=none)∧w.heap[f]?=wa.heap[f]?∧∃ (vs:List Value) (T:TypeId),wa.heap[f]?=some (.cells vs.toArray T (0,0))∧∀ v∈vs,v.oneCell'=true
def EY (wi:World) (mi:Mem) (p:Pn) (e:Ending) (w:World):Prop :=
 ∃ v0 v1 v2 v3 v4 F m,e=.returned (.agg #[v0,v1,v2,v3,v4])∧(∀ v∈[v0,v1,v2,v3,v4],v.oneCell'=true)∧jT w m∧Adv wi mi (fun _=>none) w m (fun _=>none)∧CPY wi p F v0 v1 v2 v3 v4 w m (fun _=>none)
theorem EY.tree {wi:World} {mi:Mem} {p:Pn} {e:Ending} {w:World} (h:EY wi mi p e w):dC wi mi (fun _=>none) (.i (.agg p.cells)) [] e w:=by
 classical
 obtain⟨v0,v1,v2,v3,v4,F,m,rfl,hone,hm,ha,hc⟩:=h
 let m':Mem:=fun f o=>if f∈F then w.cell? ⟨f,o,none⟩else m f o
 have hin:∀ f,f∈F→∀ o,m' f o=w.cell? ⟨f,o,none⟩:=fun f hf o=>by show(if f∈F then _ else _)=_;rw[if_pos hf]
 have hout:∀ f,f ∉ F→∀ o,m' f o=m f o:=fun f hf o=>by show(if f∈F then _ else _)=_;rw[if_neg hf]
 have hle:MLe m m':=fun f o v e=>by
  by_cases hf:f∈F
  ·rw[(hc.all f hf).2.2.2.1 o]at e;cases e
  ·rw[hout f hf];exact e
 have hmem:jT w m':=fun f o v e=>by
  by_cases hf:f∈F
  ·rw[hin f hf]at e;exact e
  ·rw[hout f hf]at e;exact hm f o v e
 refine⟨_,m',fun _=>none,rfl, .i (.agg (hc.cells hle hin)),⟨hmem,fun id blk e=>by simp[aS]at e,fun id id' b b' n n' blk blk' f e=>by simp[aS]at e,fun _ _ _ _ e=>by cases e⟩,⟨ha.size,ha.os,ha.tape,ha.output,ha.block,ha.mle.trans hle,fun f hf hfr o=>?_, .refl _,fun _ _ _ _ e=>by cases e⟩,fun id h=>absurd rfl h⟩;rw[hout f (fun hf'=>by have:=(hc.all f hf').1;omega)];exact ha.mnew f hf hfr o
section
variable {C:Ctx} {wi:World} {mi:Mem} {nt:Nat}
theorem GR.ops (hS:SoundOk C) {ops:Array Oper} {Q:Exit→Act→World→Prop} {base:Nat} {js:List Nat} {R:World→Mem→Pl→Prop} (hR:AFI R) (hs:ops.all (gI nt)=true) {os:List Oper} {i:Nat} {R0 R1:RS} {a:Act} {w:World} (hl:∀ j,j<os.length→os[j]?=ops[i+j]?) (hx:bT C (aH C) ops.toList false base os i R0=some R1)
 (h:GR wi mi nt (GU base fun j=>j<i) R R0.env R0.st a w) (hQ:∀ a' w',GR wi mi nt (GU base fun j=>j<i+os.length) R R1.env R1.st a' w'→wpOpsIn (FR none) 0 C.P ops Q js a' w'):wpOpsIn (FR none) 0 C.P ops Q (List.range' i os.length++js) a w:=by
 obtain⟨⟨m,φ,h1,h2,h3,h4,h5⟩,h6,h7⟩:=h;refine gD hS.ctx (aY hS) (fun o ho=>yJ.1 hs o ho) os i R0 R1 a w hl hx ⟨⟨m,φ,h1,h2, .refl _ _ _,h4, .nil _ _ _⟩,h6,h7⟩ fun a' w' k=>hQ a' w' ?_
 obtain⟨⟨m',φ',k1,k2,k3,k4,_⟩,k5,k6⟩:=k;exact⟨⟨m',φ',k1,k2,h3.trans k3,k4,hR _ _ _ _ _ _ k3 h5⟩,k5,k6⟩
theorem GR.put {ok:Nat→Prop} {R:World→Mem→Pl→Prop} {env:Nat→AV} {st:Store} {a:Act} {w:World} {d:Nat} {x:AV} {v:Value} (hd:d<nt) (h:GR wi mi nt ok R env st a w) (hr:∀ m φ,R w m φ→Rep m φ x v):GR wi mi nt ok R (upd env d x) st (a.put (some d) v) w:=by
 obtain⟨⟨m,φ,hi,henv,hadv,hok,hK⟩,hsz,hdf⟩:=h;exact⟨⟨m,φ,hi,J5 (dst:=some d) henv hsz (by simpa [AAS]using hd) (hr m φ hK),hadv,hok,hK⟩,by rw[pE];exact hsz,by rw[kM];exact hdf⟩
theorem GR.AIY {ok:Nat→Prop} {root:Nat} {p:Pn} {F:List Nat} {env:Nat→AV} {st:Store} {a:Act} {w:World} {u k:Nat} (h:GR wi mi nt ok (RAW wi root p F []) env st a w) (hu:env u=.i (.lit (.pointer (some ⟨root,0,none⟩)))) (hk:st k=none) (hok:¬ ok k) :
 ∃ v0 v1 v2 v3 v4 post,(∀ v∈[v0,v1,v2,v3,v4],v.oneCell'=true)∧∀ env',(∀ t,env' t=.junk∨(t=u∧env' t=.own k 0)∨env' t=env t) →
   GR wi mi nt (fun id=>ok id∨id=k) (CPY wi p F v0 v1 v2 v3 v4) env' (upd st k (some (.box (dO [v0,v1,v2,v3,v4]++dO post)))) a w:=by
 obtain⟨⟨m,φ,hi,henv,hadv,hid,hr⟩,h6,h7⟩:=h;obtain⟨k1,k2,k3,k4,us,T,k5,k6⟩:=hr.all root (by simp);obtain⟨v0,v1,v2,v3,v4,h5,_,_,hth,hce⟩:=hr.th.cells;obtain⟨_,_,_,_,_,g5,gk,gn⟩:=hr.th.kc fun f hf=>(hr.all f (by simp[hf])).2.2.2.2
 obtain⟨rfl,rfl,rfl,rfl,rfl⟩:=h5.uniq g5;have gc:∀ {o:Nat} {v:Value},w.cell? ⟨root,o,none⟩=some v→us[o]?=some v:=fun h=>by rwa [bH k5]at h
 have hrow:=P5 (gc h5.c0) (gc h5.c1) (gc h5.c2) (gc h5.c3) (gc h5.c4);simp only[xG,zC,zL]at hrow
 have hφk:φ k=none:=by
  cases e:φ k with
  | none=>rfl
  | some q=>exact absurd (hid k (by rw[e];simp)) hok
 refine⟨v0,v1,v2,v3,v4,us.drop 5,fun v hv=>k6 v (by rw[hrow];exact yO _ hv),fun env' he=>?_⟩
 have hrep:RepC m (upd φ k (some (root,one root us.length))) (dO [v0,v1,v2,v3,v4]++dO (us.drop 5)) us:=by
  have h1:=o8 (m:=m) (φ:=upd φ k (some (root,one root us.length))) (vs:=us) k6
  have:dO us=dO [v0,v1,v2,v3,v4]++dO (us.drop 5):=by
   conv=>lhs;rw[hrow]
   simp[dO]
  rwa [this]at h1
 have hp:PLe φ (upd φ k (some (root,one root us.length))):=fun i r n e=>by
  refine⟨n,?_,rfl,fun _ h=>h⟩;have:i≠k:=fun h=>by rw[h,hφk]at e;cases e
  simp[upd,this,e]
 refine⟨⟨m,upd φ k (some (root,one root us.length)),hi.OP hk hφk k3 k4 k5 hrep,fun t=>?_,hadv.OP k1,fun id hne=>?_,?_⟩,h6,h7⟩
 ·rcases he t with e|⟨rfl,e⟩|e
  ·rw[e];exact .junk _
  ·have:=henv t;rw[hu]at this;rw[e,this.bJ];exact .own (n:=one root us.length) (by simp[upd])
  ·rw[e];exact(henv t).mono (.refl _) hp
 ·by_cases e:id=k
  ·exact .inr e
  ·simp[upd,e]at hne;exact .inl (hid id hne)
 ·refine⟨hth,hce,hr.nd,fun f hf=>?_,gk,gn⟩;obtain⟨q1,q2,q3,q4,q5⟩:=hr.all f (by simp[hf]);refine⟨q1,q2,fun i r n e ho=>?_,q4,q5⟩;by_cases e2:i=k
  ·subst e2;simp[upd]at e;obtain⟨rfl,rfl⟩:=e;have:f=root:=ho;exact hr.nr (this ▸ hf)
  ·simp[upd,e2]at e;exact q3 i r n e ho
end
theorem D5:∀ {l m:List Int},aF l=aF m→l=m:=by
 intro l
 induction l with
 | nil=>intro m h;cases m with
  | nil=>rfl
  | cons b m=>simp[aF]at h
 | cons a l ih=>intro m h;cases m with
  | nil=>simp[aF]at h
  | cons b m =>
   simp only[aF,List.cons.injEq]at h;rw[show a=b by simpa using h.1,ih h.2]
theorem Ex.uV:∀ (a b:Ex),a.cells=b.cells→a=b:=by
 intro a
 induction a using Ex.ind with
 | h k c v ks ih =>
  intro b h;obtain⟨k',c',v',ks'⟩:=b
  have key:∀ {l m:List Ex},(∀ a∈l,∀ b,a.cells=b.cells→a=b)→Ex.aA l=Ex.aA m→l=m:=by
   intro l
   induction l with
   | nil=>intro m _ h;cases m with
    | nil=>rfl
    | cons b m=>simp[Ex.aA]at h
   | cons a l ihl=>intro m hi h;cases m with
    | nil=>simp[Ex.aA]at h
    | cons b m =>
     simp only[Ex.aA,List.cons.injEq]at h;rw[hi a (by simp) b h.1,ihl (fun x hx=>hi x (by simp[hx])) h.2]
  rw[Ex.aB,Ex.aB]at h;simp only[List.cons.injEq,IV.lit.injEq,Value.int.injEq,Value.bool.injEq,IV.isl.injEq,true_and,and_true]at h;obtain⟨h1,h2,h3,h4,h5⟩:=h;have h5:=key ih h5;obtain⟨b1,n1⟩:=v;obtain⟨b2,n2⟩:=v';simp only[Ex.kind,Ex.col,Ex.val,Ex.kids]at h1 h2 h3 h4 h5;subst h1 h2 h3 h4 h5;rfl
theorem Ex.OJ:∀ {l m:List Ex},Ex.aA l=Ex.aA m→l=m:=by
 intro l
 induction l with
 | nil=>intro m h;cases m with
  | nil=>rfl
  | cons b m=>simp[Ex.aA]at h
 | cons a l ihl=>intro m h;cases m with
  | nil=>simp[Ex.aA]at h
  | cons b m =>
   simp only[Ex.aA,List.cons.injEq]at h;rw[Ex.uV a b h.1,ihl h.2]
theorem Pn.EM:∀ (a b:Pn),a.cells=b.cells→a=b:=by
 intro a
 induction a using Pn.ind with
 | h k t es cs ks ih =>
  intro b h;obtain⟨k',t',es',cs',ks'⟩:=b
  have key:∀ {l m:List Pn},(∀ a∈l,∀ b,a.cells=b.cells→a=b)→Pn.aA l=Pn.aA m→l=m:=by
   intro l
   induction l with
   | nil=>intro m _ h;cases m with
    | nil=>rfl
    | cons b m=>simp[Pn.aA]at h
   | cons a l ihl=>intro m hi h;cases m with
    | nil=>simp[Pn.aA]at h
    | cons b m =>
     simp only[Pn.aA,List.cons.injEq]at h;rw[hi a (by simp) b h.1,ihl (fun x hx=>hi x (by simp[hx])) h.2]
  rw[Pn.bV,Pn.bV]at h;simp only[List.cons.injEq,IV.lit.injEq,Value.int.injEq,IV.isl.injEq,true_and,and_true]at h;obtain⟨h1,h2,h3,h4,h5⟩:=h;rw[h1,h2,Ex.OJ h3,D5 h4,key ih h5]
def ApA (args:List AV) (x:Pn×List Int×Int×List Int):Prop:=args=[.i (.agg x.1.cells), .i (.isl (aF x.2.1)), .i (.agg [.int x.2.2.1, .isl (aF x.2.2.2)])]
theorem ApA.inj {args:List AV} {x y:Pn×List Int×Int×List Int} (hx:ApA args x) (hy:ApA args y):x=y:=by
 unfold ApA at hx hy;rw[hx]at hy;simp only[List.cons.injEq,AV.i.injEq,IV.agg.injEq,IV.isl.injEq,IV.lit.injEq,Value.int.injEq,true_and,and_true]at hy;obtain⟨h1,h2,h3,h4⟩:=hy;obtain⟨a,b,c,d⟩:=x;obtain⟨a',b',c',d'⟩:=y;simp only at h1 h2 h3 h4;rw[Pn.EM _ _ h1,D5 h2,h3,D5 h4]
noncomputable def AH4 (C:Ctx) (G:List Nat) (na:Nat) (b:Code) (S:AS):XR:=dY C G na b S
@[simp] theorem AG8 {C:Ctx} {G:List Nat} {na:Nat} (a b:Code) (S:AS):dY C G na (.seq a b) S=RP (dY C G na a S) (AH4 C G na b):=XG a b
@[simp] theorem AJB {C:Ctx} {G:List Nat} {na:Nat} (b:Code) (e:List (Nat×AV)) (st:StL):AH4 C G na b ⟨e,st⟩=dY C G na b ⟨e,st⟩:=(rfl)
def XQ (C:Ctx) (call:cZ) (all:List Oper) (draw:Bool) (base:Nat) (os:List Oper) (i:Nat) (env:Nat→AV) (dst:Option Tmp) (log:List (Nat×List Nat×Bool)) (p:AV×Store):Option RS:=bT C call all draw base os i ⟨rM env dst p.1,p.2,log⟩
@[simp] theorem AJX {C:Ctx} {call:cZ} (all:List Oper) (draw:Bool) (base:Nat) (os:List Oper) (i:Nat) (env:Nat→AV) (dst:Option Tmp) (log:List (Nat×List Nat×Bool)) (v:AV) (st:Store):XQ C call all draw base os i env dst log (v,st)=bT C call all draw base os i ⟨rM env dst v,st,log⟩:=(rfl)
attribute [simp] M5 TJ O5 TF XH TI VA
@[simp] theorem AFL (k:Nat):iR k []=true:=(rfl)
@[simp] theorem ACV (k:Nat) (e:List IV) (es:List (List IV)):iR k (e::es)=(e.length == k && iR k es):=(rfl)
@[simp] theorem ACC:gQ (.slice none 0 0)=.nils:=(rfl)
@[simp] theorem AFX:uL (.slice none 0 0)=.nils:=(rfl)
@[simp] theorem ACD (b:Bool):gQ (.bool b)=.i (.lit (.bool b)):=(rfl)
@[simp] theorem AFY (b:Bool):uL (.bool b)=.i (.lit (.bool b)):=(rfl)
@[simp] theorem ACS (b:Bool):cellsOf (.i (.lit (.bool b)))=some [.i (.lit (.bool b))]:=(rfl)
@[simp] theorem AE8 (k:IntKind) (n:Int):gQ (.int k n)=.i (.lit (.int k n)):=(rfl)
@[simp] theorem AI1 (k:IntKind) (n:Int):uL (.int k n)=.i (.lit (.int k n)):=(rfl)
@[simp] theorem AF8 (k:IntKind) (n:Int):cellsOf (.i (.lit (.int k n)))=some [.i (.lit (.int k n))]:=(rfl)
@[simp] theorem YU (s:ByteArray):gQ (.string s)=.i (.lit (.string s)):=(rfl)
@[simp] theorem ACE (s:ByteArray):uL (.string s)=.i (.lit (.string s)):=(rfl)
@[simp] theorem YZ (s:ByteArray):cellsOf (.i (.lit (.string s)))=some [.i (.lit (.string s))]:=(rfl)
@[simp] theorem X0 (a:Option Addr):gQ (.pointer a)=.i (.lit (.pointer a)):=(rfl)
@[simp] theorem AA8 (a:Option Addr):uL (.pointer a)=.i (.lit (.pointer a)):=(rfl)
@[simp] theorem XU (a:Option Addr):cellsOf (.i (.lit (.pointer a)))=some [.i (.lit (.pointer a))]:=(rfl)
@[simp] theorem AE7 (r:Option Nat):gQ (.map r)=.i (.lit (.map r)):=(rfl)
@[simp] theorem AI0 (r:Option Nat):uL (.map r)=.i (.lit (.map r)):=(rfl)
@[simp] theorem AF6 (r:Option Nat):cellsOf (.i (.lit (.map r)))=some [.i (.lit (.map r))]:=(rfl)
@[simp] theorem X3 :gQ (.nilFunc)=.i (.lit (.nilFunc)):=(rfl)
@[simp] theorem AA9 :uL (.nilFunc)=.i (.lit (.nilFunc)):=(rfl)
@[simp] theorem XV :cellsOf (.i (.lit (.nilFunc)))=some [.i (.lit (.nilFunc))]:=(rfl)
@[simp] theorem UR :gQ (.nilIface)=.i (.lit (.nilIface)):=(rfl)
@[simp] theorem YW :uL (.nilIface)=.i (.lit (.nilIface)):=(rfl)
@[simp] theorem UT :cellsOf (.i (.lit (.nilIface)))=some [.i (.lit (.nilIface))]:=(rfl)
@[simp] theorem AA7 (a:Array Value):gQ (.tuple a)=.i (.lit (.tuple a)):=(rfl)
@[simp] theorem AE9 (a:Array Value):uL (.tuple a)=.i (.lit (.tuple a)):=(rfl)
@[simp] theorem AI2 (cs:Array Value):uL (.agg cs)=LH (dP cs.toList):=(rfl)
attribute [simp] dP.eq_1 dP.eq_2 cellsOf.eq_3 cellsOf.eq_4
@[simp] theorem ACQ :cellsOf .nils=some [.nils]:=(rfl)
@[simp] theorem AF4 (i o:Nat):cellsOf (.own i o)=some [(.own i o)]:=(rfl)
@[simp] theorem ACP (i k j o:Nat):cellsOf (.ownE i k j o)=some [(.ownE i k j o)]:=(rfl)
@[simp] theorem AF5 (i k o l:Nat):cellsOf (.osl i k o l)=some [(.osl i k o l)]:=(rfl)
@[simp] theorem AGF (f:Fn) (cs:List AV):cellsOf (.fn f cs)=some [(.fn f cs)]:=(rfl)
@[simp] theorem AB0 (a:Option Addr) (l c:Nat):cellsOf (.i (.lit (.slice a l c)))=some [(.i (.lit (.slice a l c)))]:=(rfl)
@[simp] theorem AF7 (es:List (List IV)):cellsOf (.i (.isl es))=some [(.i (.isl es))]:=(rfl)
@[simp] theorem ACR (cs:List IV):cellsOf (.i (.iref cs))=some [(.i (.iref cs))]:=(rfl)
@[simp] theorem AG9  (x:Option (List IV)):OH .nils x=none:=by cases x<;>rfl
@[simp] theorem AIG (st:Store) :nS st .nils=bnd (frz st sW .nils) fun p=>some (p.1,gJ st p.2):=(rfl)
@[simp] theorem AFD (st:Store) :gZ st .nils=bnd (nS st .nils) fun p=>some (.i p.1,p.2):=(rfl)
@[simp] theorem AJT (st:Store) (i o:Nat):nS st (.own i o)=bnd (frz st sW (.own i o)) fun p=>some (p.1,gJ st p.2):=(rfl)
@[simp] theorem AGH (st:Store) (i o:Nat):gZ st (.own i o)=bnd (nS st (.own i o)) fun p=>some (.i p.1,p.2):=(rfl)
@[simp] theorem AIK (i k o l:Nat) (x:Option (List IV)):OH (.osl i k o l) x=none:=by cases x<;>rfl
@[simp] theorem AJU (st:Store) (i k o l:Nat):nS st (.osl i k o l)=bnd (frz st sW (.osl i k o l)) fun p=>some (p.1,gJ st p.2):=(rfl)
@[simp] theorem AGI (st:Store) (i k o l:Nat):gZ st (.osl i k o l)=bnd (nS st (.osl i k o l)) fun p=>some (.i p.1,p.2):=(rfl)
@[simp] theorem AJV (st:Store) (cs:List AV):nS st (.agg cs)=bnd (frz st sW (.agg cs)) fun p=>some (p.1,gJ st p.2):=(rfl)
@[simp] theorem AGJ (st:Store) (cs:List AV):gZ st (.agg cs)=bnd (nS st (.agg cs)) fun p=>some (.i p.1,p.2):=(rfl)
@[simp] theorem AKY (v:IV) (l:List IV):OH (.i v) (some l)=some (v::l):=(rfl)
@[simp] theorem AJY (v:IV):OH (.i v) none=none:=(rfl)
@[simp] theorem ALK (st:Store) (v:IV):nS st (.i v)=some (v,st):=(rfl)
@[simp] theorem AK1 (st:Store) (v:IV):gZ st (.i v)=some (.i v,st):=(rfl)
@[simp] theorem AIW (st:Store) (f:Fn) (cs:List AV):gZ st (.fn f cs)=some (.fn f cs,st):=(rfl)
@[simp] theorem AGK:tZ (some .strct)=some true:=(rfl)
@[simp] theorem AGL (e:TypeId):tZ (some (.slice e))=some false:=(rfl)
@[simp] theorem AK2 (k:IntKind):tZ (some (.int k))=some false:=(rfl)
@[simp] theorem AFG:tZ (some .string)=some false:=(rfl)
@[simp] theorem AIX:tZ (some .bool)=some false:=(rfl)
@[simp] theorem AGM:tZ (some .other)=some false:=(rfl)
@[simp] theorem AGN (n:Nat) (e:TypeId):tZ (some (.array n e))=some true:=(rfl)
@[simp] theorem AEQ:dQ .add=false:=(rfl)
@[simp] theorem AED:dQ .sub=false:=(rfl)
@[simp] theorem AEJ:dQ .mul=false:=(rfl)
@[simp] theorem AEH:dQ .quo=false:=(rfl)
@[simp] theorem AEG:dQ .rem=false:=(rfl)
@[simp] theorem AEP:dQ .and=false:=(rfl)
@[simp] theorem AG4:dQ .or=false:=(rfl)
@[simp] theorem AEC:dQ .xor=false:=(rfl)
@[simp] theorem YX:dQ .andNot=false:=(rfl)
@[simp] theorem AEO:dQ .eql=false:=(rfl)
@[simp] theorem AEI:dQ .neq=false:=(rfl)
@[simp] theorem AEK:dQ .lss=false:=(rfl)
@[simp] theorem AEL:dQ .leq=false:=(rfl)
@[simp] theorem AEM:dQ .gtr=false:=(rfl)
@[simp] theorem AEN:dQ .geq=false:=(rfl)
@[simp] theorem AEF:dQ .shl=true:=(rfl)
@[simp] theorem AEE:dQ .shr=true:=(rfl)
@[simp] theorem AJF:GL []=.tup []:=(rfl)
@[simp] theorem AJE (v:AV):GL [v]=v:=(rfl)
@[simp] theorem AJD (a b:AV) (l:List AV):GL (a::b::l)=.tup (a::b::l):=(rfl)
attribute [simp] o6.eq_1 o6.eq_2 gB.eq_1 gB.eq_2 gB.eq_3
section
variable (C:Ctx) (call:cZ) (env:Nat→AV) (st:Store) (nb:Nat)
@[simp] theorem AD9 (x:Operand):bM C call (.move x) env st nb=some (ev env x,st):=(rfl)
@[simp] theorem ZM (x:Operand):bM C call (.assign x) env st nb=some (ev env x,st):=(rfl)
@[simp] theorem AD8 (c a b:Operand):bM C call (.pick c a b) env st nb=bnd (VZ (ev env a) (ev env b) (ev env c)) fun v=>some (v,st):=(rfl)
@[simp] theorem AC2 (t:TypeId):bM C call (.alloc t) env st nb=bnd (zeroOf C.P t) fun z=>some (.own nb 0,upd st nb (some (.box (dP z)))):=(rfl)
@[simp] theorem AFR (t:TypeId) (x:Operand):bM C call (.box t x) env st nb=bnd (cellsOf (ev env x)) fun cs=>some (.own nb 0,upd st nb (some (.box cs))):=(rfl)
@[simp] theorem AC0 (t:TypeId) (ps:Array (Nat×Operand)):bM C call (.build t ps) env st nb=bnd (tZ (bF C.P t)) fun g=>tst g (bnd (zeroOf C.P t) fun z=>bnd (partsOf env ps.toList) fun ps=>bnd (JK (BZ C.P t) (dP z) ps) fun cs=>some (LH cs,st)):=(rfl)
@[simp] theorem R9 (t:TypeId) (n:Nat) (ps:Array (Nat×Operand)):bM C call (.buildSlice t n ps) env st nb=bnd (wT (bF C.P t)) fun e=>bnd (partsOf env ps.toList) fun ps=>mJ C e n st nb ps:=(rfl)
@[simp] theorem ADA (t:TypeId) (a:Operand):bM C call (.load t a) env st nb=bnd (CL C t (ev env a) st) fun v=>some (v,st):=(rfl)
@[simp] theorem ABV (t:TypeId) (a x:Operand):bM C call (.store t a x) env st nb=bnd (vN C t (ev env a) (ev env x) st) fun st1=>some (.i (.lit undef),st1):=(rfl)
@[simp] theorem VJ (x:Operand):bM C call (.nilCheck x) env st nb=bnd (AA0 (ev env x)) fun v=>some (v,st):=(rfl)
@[simp] theorem AC1 (op:BinOp) (t:TypeId) (x y:Operand) (u:TypeId):bM C call (.binOp op t x y u) env st nb=bnd (AB8 C op t (ev env x) (ev env y)) fun v=>some (.i v,st):=(rfl)
@[simp] theorem AD7 (op:UnOp) (t:TypeId) (x:Operand):bM C call (.unOp op t x) env st nb=bnd (unA op (ev env x)) fun v=>some (.i v,st):=(rfl)
@[simp] theorem YN (s d:TypeId) (x:Operand):bM C call (.convert s d x) env st nb=bnd (TU (bF C.P s) (bF C.P d) (ev env x)) fun v=>some (v,st):=(rfl)
@[simp] theorem UM (t:TypeId) (l c:Operand):bM C call (.makeSlice t l c) env st nb=NP C t st nb (ev env l) (ev env c):=(rfl)
@[simp] theorem ABW (t:TypeId) (x:Operand) (lo hi:Option Operand):bM C call (.slice t x lo hi none) env st nb=bnd (vO C t (evO env lo) (evO env hi) (ev env x)) fun v=>some (v,st):=(rfl)
@[simp] theorem UO (s:TypeId) (x:Operand) (f:Nat):bM C call (.fieldAddr s x f) env st nb=bnd (dS C.P s f) fun p=>bnd (iA C.P p.1) fun n=>tst (decide (0<n)) (bnd (gY p.2 (ev env x)) fun v=>some (v,st)):=(rfl)
@[simp] theorem ABY (s:TypeId) (x:Operand) (f:Nat):bM C call (.field s x f) env st nb=bnd (dS C.P s f) fun p=>bnd (iA C.P p.1) fun n=>bnd (tZ (bF C.P p.1)) fun g=>bnd (I4 p.2 n g (ev env x)) fun v=>some (v,st):=(rfl)
@[simp] theorem UN (t:TypeId) (x i:Operand):bM C call (.indexAddr t x i) env st nb=bnd (kH C (ev env x) (ev env i) (bF C.P t)) fun v=>some (v,st):=(rfl)
@[simp] theorem ABX (t:TypeId) (x i:Operand):bM C call (.index t x i) env st nb=bnd (H7 C (ev env i) (bF C.P t) (ev env x)) fun v=>some (v,st):=(rfl)
@[simp] theorem YM (x:Operand) (j:Nat):bM C call (.extract x j) env st nb=bnd (tF j (ev env x)) fun v=>some (v,st):=(rfl)
@[simp] theorem VK (f:Fn) (fs cs:Array Operand):bM C call (.makeFunc f fs cs) env st nb=tst fs.toList.isEmpty (bnd (AA2 (evL env cs.toList) f) fun v=>some (v,st)):=(rfl)
@[simp] theorem AFW (cs:List AV) (g:FuncId):AA2 cs (.func g)=some (.fn (.func g) cs):=(rfl)
@[simp] theorem YO (b:Builtin) (as1:Array Operand) (ts:Array TypeId):bM C call (.call ⟨.builtin b,as1,ts⟩) env st nb=gH C st nb b ts.toList (evL env as1.toList):=(rfl)
@[simp] theorem ABZ (f:Operand) (as1:Array Operand) (ts:Array TypeId):bM C call (.call ⟨.value f,as1,ts⟩) env st nb=F8 C call (evL env as1.toList) st nb (ev env f):=(rfl)
@[simp] theorem AD5 (x:Operand):bA env (.move x)=([],true):=(rfl)
@[simp] theorem ZK (x:Operand):bA env (.assign x)=([],true):=(rfl)
@[simp] theorem AD4 (c a b:Operand):bA env (.pick c a b)=([],true):=(rfl)
@[simp] theorem ABT (t:TypeId):bA env (.alloc t)=([],true):=(rfl)
@[simp] theorem AFP (t:TypeId) (x:Operand):bA env (.box t x)=([],true):=(rfl)
@[simp] theorem ABR (t:TypeId) (ps:Array (Nat×Operand)):bA env (.build t ps)=([],true):=(rfl)
@[simp] theorem VD (x:Operand):bA env (.nilCheck x)=([],true):=(rfl)
@[simp] theorem ABS (op:BinOp) (t:TypeId) (x y:Operand) (u:TypeId):bA env (.binOp op t x y u)=([],true):=(rfl)
@[simp] theorem AD3 (op:UnOp) (t:TypeId) (x:Operand):bA env (.unOp op t x)=([],true):=(rfl)
@[simp] theorem YL (s d:TypeId) (x:Operand):bA env (.convert s d x)=([],true):=(rfl)
@[simp] theorem UJ (t:TypeId) (l c:Operand):bA env (.makeSlice t l c)=([],true):=(rfl)
@[simp] theorem ABO (t:TypeId) (x:Operand) (lo hi:Option Operand):bA env (.slice t x lo hi none)=([],true):=(rfl)
@[simp] theorem UL (s:TypeId) (x:Operand) (f:Nat):bA env (.fieldAddr s x f)=([],true):=(rfl)
@[simp] theorem ABQ (s:TypeId) (x:Operand) (f:Nat):bA env (.field s x f)=([],true):=(rfl)
@[simp] theorem UK (t:TypeId) (x i:Operand):bA env (.indexAddr t x i)=([],true):=(rfl)
@[simp] theorem ABP (t:TypeId) (x i:Operand):bA env (.index t x i)=([],true):=(rfl)
@[simp] theorem YK (x:Operand) (j:Nat):bA env (.extract x j)=([],true):=(rfl)
@[simp] theorem VE (f:Fn) (fs cs:Array Operand):bA env (.makeFunc f fs cs)=([],true):=(rfl)
attribute [simp] bA.eq_1 bA.eq_2 bA.eq_3 bA.eq_4 bA.eq_5 bA.eq_6
@[simp] theorem AFO (as1:Array Operand) (ts:Array TypeId):bA env (.call ⟨.builtin .len,as1,ts⟩)=([],true):=(rfl)
@[simp] theorem AFM (as1:Array Operand) (ts:Array TypeId):bA env (.call ⟨.builtin .min,as1,ts⟩)=([],true):=(rfl)
@[simp] theorem AFN (as1:Array Operand) (ts:Array TypeId):bA env (.call ⟨.builtin .max,as1,ts⟩)=([],true):=(rfl)
@[simp] theorem AJC (args:List AV) (g:FuncId) (cs:List AV):F8 C call args st nb (.fn (.func g) cs)=if g=1000000007 then none else eB call (C.ownArgs g) g (args++cs) st nb:=(rfl)
@[simp] theorem AHA (args:List AV) (id:Nat):F8 C call args st nb (.fn (.yield 0) [.own id 0])=eB call true qJ (.fn (.yield 0) [.own id 0]::args) st nb:=(rfl)
variable (all:List Oper) (base i:Nat) (log:List (Nat×List Nat×Bool)) (dst:Option Tmp) (op:Op) (ty:TypeId) (pos:String) (after:Array Edge) (os:List Oper)
@[simp] theorem AHQ (t:Tmp) (v:AV):rM env (some t) v=upd env t v:=(rfl)
@[simp] theorem AHR (v:AV):rM env none v=env:=(rfl)
@[simp] theorem AFT (draw:Bool) (R:RS):bT C call all draw base [] i R=some R:=(rfl)
@[simp] theorem AHI:bT C call all false base (⟨dst,op,ty,pos,after,none⟩::os) i ⟨env,st,log⟩ =
 bnd (bM C call op env st (base+8*i)) (XQ C call all false base os (i+1) env dst []):=(rfl)
@[simp] theorem AHH (g:Nat×Bool):bT C call all false base (⟨dst,op,ty,pos,after,some g⟩::os) i ⟨env,st,log⟩ =
 bnd (KG env g.2 ((all[g.1]?).bind (·.dst))) fun b=>if b=true then bnd (bM C call op env st (base+8*i)) (XQ C call all false base os (i+1) env dst [])
  else bT C call all false base os (i+1) ⟨rM env dst (.i (.lit undef)),st,log⟩:=(rfl)
@[simp] theorem AHG:bT C call all true base (⟨dst,op,ty,pos,after,none⟩::os) i ⟨env,st,log⟩ =
 tst (AIN base all ⟨dst,op,ty,pos,after,none⟩ st (bA env op).1 (vM st (bA env op)).1 (bA env op).2 log)
  (bnd (bM C call op env st (base+8*i)) (XQ C call all true base os (i+1) env dst (EW i (bA env op).2 log (vM st (bA env op)).1))):=(rfl)
@[simp] theorem AHF (g:Nat×Bool):bT C call all true base (⟨dst,op,ty,pos,after,some g⟩::os) i ⟨env,st,log⟩ =
 bnd (KG env g.2 ((all[g.1]?).bind (·.dst))) fun b=>if b=true then
  tst (AIN base all ⟨dst,op,ty,pos,after,some g⟩ st (bA env op).1 (vM st (bA env op)).1 (bA env op).2 log)
   (bnd (bM C call op env st (base+8*i)) (XQ C call all true base os (i+1) env dst (EW i (bA env op).2 log (vM st (bA env op)).1)))
  else bT C call all true base os (i+1) ⟨rM env dst (.i (.lit undef)),st,log⟩:=(rfl)
end
attribute [simp] aQ.eq_1 aQ.eq_2
attribute [simp] aS.eq_1 aS.eq_2 aS.eq_3
attribute [simp] Z5.eq_1 Z5.eq_2
attribute [simp] AFF.eq_1 AFF.eq_2
attribute [simp] LH.eq_1
attribute [simp] jV.eq_1 jV.eq_2
attribute [simp] mV.eq_1 mV.eq_2
attribute [simp] gF.eq_1 gF.eq_2
attribute [simp] dropE.eq_1 dropE.eq_2 dropE.eq_3
attribute [simp] rW.eq_1 rW.eq_2 rW.eq_3
attribute [simp] cut.eq_1
attribute [simp] splice.eq_1 splice.eq_2 splice.eq_3 splice.eq_4 splice.eq_5
attribute [simp] wT.eq_1
attribute [simp] pV.eq_1 pV.eq_2
attribute [simp] frz.eq_1 frz.eq_2 frz.eq_3 frz.eq_4 frz.eq_5 frz.eq_6
attribute [simp] uQ.eq_1 uQ.eq_2 uQ.eq_3
attribute [simp] wS.eq_1 wS.eq_2 wS.eq_3
attribute [simp] sW.eq_1
attribute [simp] gJ.eq_1 gJ.eq_2
attribute [simp] kU.eq_1 kU.eq_2
attribute [simp] bU.eq_1 bU.eq_2 bU.eq_3 bU.eq_4 bU.eq_5 bU.eq_6 bU.eq_7 bU.eq_8 bU.eq_9
attribute [simp] aT.eq_1 aT.eq_2
attribute [simp] fI.eq_1 fI.eq_2 fI.eq_3 fI.eq_4 fI.eq_5 fI.eq_6 fI.eq_7
attribute [simp] ren.eq_1 ren.eq_2 ren.eq_3 ren.eq_4 ren.eq_5 ren.eq_6 ren.eq_7 ren.eq_8 ren.eq_9
attribute [simp] vR.eq_1 vR.eq_2
attribute [simp] tX.eq_1 tX.eq_2 tX.eq_3 tX.eq_4 tX.eq_5 tX.eq_6 tX.eq_7
attribute [simp] iV.eq_1 iV.eq_2
attribute [simp] fJ.eq_1
attribute [simp] FN.eq_1 FN.eq_2
attribute [simp] reach.eq_1 reach.eq_2 reach.eq_3
attribute [simp] DR.eq_1
attribute [simp] mY.eq_1 mY.eq_2
attribute [simp] upto.eq_1 upto.eq_2
attribute [simp] fT.eq_1
attribute [simp] jE.eq_1 jE.eq_2
attribute [simp] ev.eq_1 ev.eq_2 ev.eq_3 ev.eq_4
attribute [simp] evL.eq_1 evL.eq_2
attribute [simp] evO.eq_1 evO.eq_2
attribute [simp] JZ.eq_1 JZ.eq_2 JZ.eq_3 JZ.eq_4 JZ.eq_5 JZ.eq_6 JZ.eq_7 JZ.eq_8 JZ.eq_9 JZ.eq_10 JZ.eq_11 JZ.eq_12 JZ.eq_13 JZ.eq_14 JZ.eq_15
attribute [simp] shI.eq_1 shI.eq_2
attribute [simp] Z4.eq_1 Z4.eq_2 Z4.eq_3 Z4.eq_4 Z4.eq_5 Z4.eq_6 Z4.eq_7
attribute [simp] AIV.eq_1 AIV.eq_2
attribute [simp] AIT.eq_1 AIT.eq_2
attribute [simp] AFB.eq_1 AFB.eq_2
attribute [simp] AB8.eq_1 AB8.eq_2 AB8.eq_3 AB8.eq_4 AB8.eq_5 AE1.eq_1 AE1.eq_2 AE1.eq_3 AE1.eq_4 AIU.eq_1 AIU.eq_2
attribute [simp] unA.eq_1 unA.eq_2
attribute [simp] kF.eq_1
attribute [simp] iI.eq_1 iI.eq_2
attribute [simp] lF.eq_1 lF.eq_2
attribute [simp] dG.eq_1 dG.eq_2 dG.eq_3 dG.eq_4
attribute [simp] wN.eq_1 wN.eq_2
attribute [simp] oQ.eq_1
attribute [simp] ML.eq_1 ML.eq_2
attribute [simp] AFE.eq_1 SK.eq_1 ABN.eq_1 iO.eq_1 iO.eq_2 MM.eq_1 wO.eq_1
@[simp] theorem AIC (k:Nat) (es:List (List IV)):SK (some (.arr k es))=false:=(rfl)
@[simp] theorem AIA (k:Nat) (es:List (List IV)):SK (some (.frz k es))=false:=(rfl)
@[simp] theorem AIB (cs:List AV):SK (some (.box cs))=false:=(rfl)
@[simp] theorem AMD (v:IV):slC (.i v)=false:=(rfl)
@[simp] theorem AG3:SK none=false:=(rfl)
@[simp] theorem AH1 (st:Store):ABN st .nils=false:=(rfl)
@[simp] theorem AL9 (st:Store) (v:IV):ABN st (.i v)=false:=(rfl)
attribute [simp] kS.eq_1
attribute [simp] EH.eq_1 EH.eq_2
attribute [simp] OD.eq_1
attribute [simp] ACF.eq_1 ACF.eq_2 ACF.eq_3 ACF.eq_4 ACF.eq_5
attribute [simp] vO.eq_1 vO.eq_2 vO.eq_3 vO.eq_4
attribute [simp] JK.eq_1 JK.eq_2
attribute [simp] partsOf.eq_1 partsOf.eq_2
attribute [simp] LC.eq_1 LC.eq_2
attribute [simp] BZ.eq_1
attribute [simp] mM.eq_1 mM.eq_2 mM.eq_3
attribute [simp] kX.eq_1 kX.eq_2
attribute [simp] dV.eq_1 dV.eq_2
attribute [simp] TV.eq_1 TV.eq_2
attribute [simp] IK.eq_1 IK.eq_2
attribute [simp] ADL.eq_1 ADL.eq_2
attribute [simp] FM.eq_1 FM.eq_2
attribute [simp] FJ.eq_1 FJ.eq_2
attribute [simp] loadAt.eq_1 loadAt.eq_2 loadAt.eq_3
attribute [simp] CL.eq_1
attribute [simp] nO.eq_1
attribute [simp] lN.eq_1
attribute [simp] storeAt.eq_1 storeAt.eq_2
attribute [simp] vN.eq_1
attribute [simp] eT.eq_1 eT.eq_2
attribute [simp] oP.eq_1 oP.eq_2
attribute [simp] iH.eq_1 iH.eq_2 iH.eq_3
attribute [simp] l7.eq_1 l7.eq_2 l7.eq_3
attribute [simp] pM.eq_1
attribute [simp] iL.eq_1
attribute [simp] eB.eq_1
attribute [simp] qF.eq_1 qF.eq_2
attribute [simp] gH.eq_1 gH.eq_2 gH.eq_3 gH.eq_4 gH.eq_5
attribute [simp] TU.eq_1 TU.eq_2
attribute [simp] VZ.eq_1
attribute [simp] AA0.eq_1 AA0.eq_2 AA0.eq_3 AA0.eq_4 AA0.eq_5
attribute [simp] NP.eq_1
attribute [simp] gY.eq_1 gY.eq_2 gY.eq_3 gY.eq_4
attribute [simp] I4.eq_1 I4.eq_2
attribute [simp] D6.eq_1 D6.eq_2 D6.eq_3
attribute [simp] NU.eq_1
attribute [simp] kH.eq_1 kH.eq_2
attribute [simp] H7.eq_1 H7.eq_2
attribute [simp] tF.eq_1
attribute [simp] oV.eq_1 mJ.eq_1 AFZ.eq_1 QM.eq_1 QM.eq_2 slL.eq_1 slL.eq_2 slC.eq_1 slC.eq_2
attribute [simp] OX.eq_1 OX.eq_2
attribute [simp] KG.eq_1 KG.eq_2
attribute [simp] rR.eq_1 rR.eq_2
attribute [simp] eP.eq_1 eP.eq_2
attribute [simp] vM.eq_1
attribute [simp] allIn.eq_1 allIn.eq_2
attribute [simp] NK.eq_1 NK.eq_2
attribute [simp] AIN.eq_1
attribute [simp] WY.eq_1 WY.eq_2
attribute [simp] mW.eq_1 mW.eq_2
attribute [simp] X7.eq_1
attribute [simp] nQ.eq_1 nQ.eq_2
attribute [simp] rT.eq_1
attribute [simp] vV.eq_1 vV.eq_2
attribute [simp] SF.eq_1 SF.eq_2
attribute [simp] EW.eq_1 EW.eq_2
attribute [simp] jQ.eq_1 jQ.eq_2
attribute [simp] tL.eq_1 tL.eq_2
attribute [simp] qN.eq_1
attribute [simp] settle.eq_1
attribute [simp] AB9.eq_1 sI.eq_1 sI.eq_2 p9.eq_1 p9.eq_2 L6.eq_1 mQ.eq_1 AB2.eq_1 IY.eq_1 DL.eq_1 P6.eq_1 sH.eq_1 sH.eq_2 P7.eq_1 GK.eq_1 O7.eq_1 JV.eq_1 setSt.eq_1 setSt.eq_2 setSt.eq_3
@[simp] theorem AFQ (k:Nat):IY (.exit k)=.over (.exit k):=(rfl)
@[simp] theorem AEW (k:Nat):DL (.exit k)=false:=(rfl)
@[simp] theorem AG6:DL .ret=false:=(rfl)
@[simp] theorem AH9:IY .ret=.over .ret:=(rfl)
@[simp] theorem AJW (vs:List AV):O7 [] vs=[]:=(rfl)
@[simp] theorem AIS (vs:List AV) (E:List (Nat×AV)):JV [] vs E=E:=(rfl)
attribute [simp] RP.eq_1 RP.eq_2 RP.eq_3 RP.eq_4
attribute [simp] ER.eq_1 ER.eq_2 ER.eq_3 ER.eq_4
attribute [simp] OI.eq_1
attribute [simp] XM.eq_1 XM.eq_2
attribute [simp] P9.eq_1 P9.eq_2
attribute [simp] BQ.eq_1 BQ.eq_2
attribute [simp] oH.eq_1 oH.eq_2
attribute [simp] PD.eq_1 PD.eq_2
attribute [simp] qG.eq_1 qG.eq_2
attribute [simp] NJ.eq_1
attribute [simp] finish.eq_1
attribute [simp] ACO.eq_1 ACO.eq_2 ACO.eq_3 ACO.eq_4
attribute [simp] wV.eq_1 wV.eq_2 wV.eq_3
attribute [simp] M7.eq_1 M7.eq_2
attribute [simp] enter.eq_1
attribute [simp] rY.eq_1 rY.eq_2
attribute [simp] PE.eq_1 PE.eq_2
attribute [simp] jS.eq_1 jS.eq_2 jS.eq_3 jS.eq_4 jS.eq_5
attribute [simp] jR.eq_1 jR.eq_2
attribute [simp] fV.eq_1 fV.eq_2
attribute [simp] YV.eq_1 YV.eq_2 YV.eq_3 YV.eq_4
attribute [simp] uK.eq_1 uK.eq_2
attribute [simp] tT.eq_1 tT.eq_2 LA.eq_1 l9.eq_1 l9.eq_2 jH.eq_1 jH.eq_2 N7.eq_1 jL.eq_1 jL.eq_2 eG.eq_1 eG.eq_2
@[simp] theorem AHS (v:Value):LA (.lit v)=true:=(rfl)
@[simp] theorem AHT (es:List (List IV)):LA (.isl es)=true:=(rfl)
@[simp] theorem AGP (v:Value):N7 (.lit v)=.lit v:=(rfl)
attribute [simp] u7.eq_1 u7.eq_2 u7.eq_3
attribute [simp] pX.eq_1 pX.eq_2
attribute [simp] qC.eq_1
attribute [simp] dM.eq_1 dM.eq_2
attribute [simp] storeT.eq_1 storeT.eq_2
@[simp] theorem ADI (st:Store) (v:AV):BR st [v]=some ([v],st):=(rfl)
@[simp] theorem ADJ (st:Store):BR st []=some ([],st):=(rfl)
@[simp] theorem ADH (st:Store) (a b:AV) (r:List AV):BR st (a::b::r)=qG st (a::b::r):=(rfl)
@[simp] theorem AI8 (st:Store) (cs:List AV):uO st (.agg cs)=bnd (nS st (.agg cs)) fun p=>some (.i p.1,p.2):=(rfl)
@[simp] theorem AG1 (st:Store) :uO st .nils=some (.nils,st):=(rfl)
@[simp] theorem AI6 (st:Store) (i o:Nat):uO st (.own i o)=some ((.own i o),st):=(rfl)
@[simp] theorem AG0 (st:Store) (i k j o:Nat):uO st (.ownE i k j o)=some ((.ownE i k j o),st):=(rfl)
@[simp] theorem AI7 (st:Store) (i k o l:Nat):uO st (.osl i k o l)=some ((.osl i k o l),st):=(rfl)
@[simp] theorem AJR (st:Store) (f:Fn) (cs:List AV):uO st (.fn f cs)=some ((.fn f cs),st):=(rfl)
@[simp] theorem AKP (st:Store) (v:IV):uO st (.i v)=some ((.i v),st):=(rfl)
@[simp] theorem AI5 (st:Store) (cs:List AV):uO st (.tup cs)=some ((.tup cs),st):=(rfl)
@[simp] theorem AG2 (st:Store) :uO st .junk=some (.junk,st):=(rfl)
@[simp] theorem AJ6 (all:List Oper) (after:List Edge) (j:Nat):eX all 3 after j=if rT after j=true then true else after.any fun e=>Region.binds .any e && eX all 2 (pO all e.on) j:=(rfl)
@[simp] theorem AJ7 (all:List Oper) (after:List Edge) (j:Nat):eX all 2 after j=if rT after j=true then true else after.any fun e=>Region.binds .any e && eX all 1 (pO all e.on) j:=(rfl)
@[simp] theorem AJ8 (all:List Oper) (after:List Edge) (j:Nat):eX all 1 after j=if rT after j=true then true else after.any fun e=>Region.binds .any e && eX all 0 (pO all e.on) j:=(rfl)
@[simp] theorem AJ9 (all:List Oper) (after:List Edge) (j:Nat):eX all 0 after j=rT after j:=(rfl)
attribute [simp] pO.eq_1
attribute [simp] undef
attribute [simp] wide
end Go.Av
namespace Go.Proofs.Ytjdfjgmebalaaaa
open Go Go.Av
def GS:FuncId→List Nat
 | 3=>[0,1,2,3,4,5,8,9,10,11,12,13,14,15,16,17,18,19,20,21,24,29,34,68,73,78,83,105,113,116,136,141,144]
 | 4=>[0,1,2,3,4,5,8,9,10,11,12,13,14,15,16,17,18,19,20,21,24,29,34,68,73,78,83,105,113,116,136,141,144]
 | 5=>[0,1,2,4,10,16,22]
 | 6=>[0,1,2,3,4,5,8,9,15]
 | 7=>[0,1,2,3]
 | 8=>[0,2,3,4,11]
 | 9=>[0,1,2,3,4,5,7,8,9,10,11,22]
 | 10=>[0,1,2,3,4,9,14,20,26,32]
 | 11=>[0,1,4,5,10,14,25]
 | 12=>[0,1,2,4]
 | 13=>[0,1,4,5,9]
 | 14=>[0,1,2,4,10,16,22]
 | 15=>[0,1,2,3,4,5,8,9,10,11,12,18,26,34,43]
 | 16=>[0,1,2,3,4,5,7,8,9,10,25,31,38]
 | 17=>[0,1,4,5,11,15,25]
 | 18=>[0,1,4,10]
 | 19=>[0,1,4,5,11,15,25]
 | 20=>[0,1,2,3,4,5,8]
 | 21=>[0,1,2,3,4,6,7,8,9,10,11,12,15,24]
 | 22=>[0,2,3,4,11]
 | 23=>[0,2,3,4,11]
 | 24=>[0,1,2,4,7]
 | 25=>[0,1,2,3,6,7]
 | 26=>[0,1,4,5,6,7,8,9,16,39,40,41,57,58,59]
 | 27=>[0,1,2,3,5,6,9]
 | 28=>[0,1,4,5,6,38,62,67,68,69,84,90,91,92,107]
 | 29=>[0,1,4,5,10,14,26]
 | 30=>[0,1,4,5,10,14,26]
 | 31=>[0,1,4,5,9]
 | 32=>[0,1,4,5,9]
 | 33=>[0,1,4,5,9,18,27,39,49,60]
 | 34=>[0,1,4,5,9,17]
 | 35=>[0,1,4,5,9,18,27,38,47,56]
 | 36=>[0,1,3,4,5,8,17]
 | 37=>[0,1,2,3,4,6,7,8,17,26]
 | 38=>[0,1,2,4,7]
 | 39=>[0,1,3,4,5]
 | 40=>[0,1,4,5,6,19,24,25,26]
 | 41=>[0,2,3,4,9,10,11]
 | 42=>[0,1,2,4,5,18]
 | 43=>[0,2,3,4,5,6,7,14,38,39,40,76,77,78]
 | 44=>[0,1,2,4,10]
 | 45=>[0,1,2,6]
 | 46=>[0,1,2,3,4,5,6,7,46,51,65,70,83,88,102]
 | 47=>[0,1,2,3,4,5,19,37]
 | 48=>[0,1,2,3]
 | 49=>[0,2,4,12,13,14,15,16,21]
 | 50=>[0,1,2,6,7,8,9,10,31,60,87,92,106,118,119,120,137]
 | 51=>[0,2,3,6]
 | 52=>[0,2,3,6]
 | 53=>[0,2,3,4,5,6,13,37,38,39]
 | 54=>[0,1,4,5,10,12,13,14,24]
 | 55=>[0,1,4,5,49,54,55,56,71]
 | 56=>[0,1,2,3,4,9,14,20,26]
 | 57=>[0,1,4,5,6,18,32]
 | 58=>[0,2,3,7,15]
 | 59=>[0,1,2,3,6,7,8,9,23,28,41,47,48,55,61,70,74,82,106,114,122,126,131,144]
 | 60=>[0,1,4,12,13,14]
 | 61=>[0,1,2]
 | 62=>[0,2,3,6]
 | 63=>[0,1,2,3,4,5,33,38,52]
 | 64=>[0,1,2,3,4,16]
 | 65=>[0,1,2,3]
 | 66=>[0,2]
 | 67=>[0,2,3,4,5,7,10,13,15]
 | 68=>[0,1,2,6,7,8,13,14,21,22,26,27,35,46,47,48,59,65]
 | 69=>[0,1,2,3,4,9,14]
 | 70=>[0,1,2,3,4,6,7,9,12,14,16]
 | 71=>[0,1,2,4]
 | 72=>[0,1,4,5,9,18,21]
 | 73=>[0,1,4,5,9,35]
 | 74=>[0,1,4,5,7,10,11,12,13,14,24]
 | 75=>[0,1,2,4]
 | 76=>[0,1,2,3,6,7,24,29,41,43,44,57]
 | 77=>[0,1,2,6,7,8,28,62,90,95,96,97,109]
 | 78=>[0,2,3,4,7,10]
 | 79=>[0,1,2]
 | 80=>[0,2,3,4,7,10]
 | 81=>[0,1,2,4]
 | 97=>[]
 | _=>[]
def eU:FuncId→Bool
 | 26=>true
 | 27=>true
 | 42=>true
 | 53=>true
 | 60=>true
 | 61=>true
 | _=>false
def keepR:FuncId→Bool
 | 51=>true
 | 62=>true
 | 52=>true
 | 47=>true
 | _=>false
def EB:TypeId→Bool
 | 66=>true
 | 67=>true
 | 72=>true
 | _=>false
@[simp] theorem gS4:GS 4=[0,1,2,3,4,5,8,9,10,11,12,13,14,15,16,17,18,19,20,21,24,29,34,68,73,78,83,105,113,116,136,141,144]:=(rfl)
@[simp] theorem oA5:eU 5=false:=(rfl)
@[simp] theorem kR5:keepR 5=false:=(rfl)
@[simp] theorem gS5:GS 5=[0,1,2,4,10,16,22]:=(rfl)
@[simp] theorem oA7:eU 7=false:=(rfl)
@[simp] theorem gS7:GS 7=[0,1,2,3]:=(rfl)
@[simp] theorem oA8:eU 8=false:=(rfl)
@[simp] theorem gS8:GS 8=[0,2,3,4,11]:=(rfl)
@[simp] theorem AOY:eU 10=false:=(rfl)
@[simp] theorem AQK:keepR 10=false:=(rfl)
@[simp] theorem ASH:GS 10=[0,1,2,3,4,9,14,20,26,32]:=(rfl)
@[simp] theorem AOX:eU 11=false:=(rfl)
@[simp] theorem AQJ:keepR 11=false:=(rfl)
@[simp] theorem ASG:GS 11=[0,1,4,5,10,14,25]:=(rfl)
@[simp] theorem ASF:GS 12=[0,1,2,4]:=(rfl)
@[simp] theorem AQI:keepR 13=false:=(rfl)
@[simp] theorem ASE:GS 13=[0,1,4,5,9]:=(rfl)
@[simp] theorem AQH:keepR 14=false:=(rfl)
@[simp] theorem ASD:GS 14=[0,1,2,4,10,16,22]:=(rfl)
@[simp] theorem AQG:keepR 15=false:=(rfl)
@[simp] theorem ASC:GS 15=[0,1,2,3,4,5,8,9,10,11,12,18,26,34,43]:=(rfl)
@[simp] theorem ASB:GS 16=[0,1,2,3,4,5,7,8,9,10,25,31,38]:=(rfl)
@[simp] theorem AOW:eU 17=false:=(rfl)
@[simp] theorem AQF:keepR 17=false:=(rfl)
@[simp] theorem ASA:GS 17=[0,1,4,5,11,15,25]:=(rfl)
@[simp] theorem AOV:eU 18=false:=(rfl)
@[simp] theorem AQE:keepR 18=false:=(rfl)
@[simp] theorem AS9:GS 18=[0,1,4,10]:=(rfl)
@[simp] theorem AOU:eU 19=false:=(rfl)
@[simp] theorem AQD:keepR 19=false:=(rfl)
@[simp] theorem AS8:GS 19=[0,1,4,5,11,15,25]:=(rfl)
@[simp] theorem AOT:eU 20=false:=(rfl)
@[simp] theorem AQC:keepR 20=false:=(rfl)
@[simp] theorem AS7:GS 20=[0,1,2,3,4,5,8]:=(rfl)
@[simp] theorem AOS:eU 22=false:=(rfl)
@[simp] theorem AS6:GS 22=[0,2,3,4,11]:=(rfl)
@[simp] theorem AOR:eU 23=false:=(rfl)
@[simp] theorem AS5:GS 23=[0,2,3,4,11]:=(rfl)
@[simp] theorem AOQ:eU 24=false:=(rfl)
@[simp] theorem AQB:keepR 24=false:=(rfl)
@[simp] theorem AS4:GS 24=[0,1,2,4,7]:=(rfl)
@[simp] theorem AOP:eU 25=false:=(rfl)
@[simp] theorem AQA:keepR 25=false:=(rfl)
@[simp] theorem AS3:GS 25=[0,1,2,3,6,7]:=(rfl)
@[simp] theorem AOO:eU 26=true:=(rfl)
@[simp] theorem AS2:GS 26=[0,1,4,5,6,7,8,9,16,39,40,41,57,58,59]:=(rfl)
@[simp] theorem AON:eU 29=false:=(rfl)
@[simp] theorem AQ9:keepR 29=false:=(rfl)
@[simp] theorem AS1:GS 29=[0,1,4,5,10,14,26]:=(rfl)
@[simp] theorem AOM:eU 30=false:=(rfl)
@[simp] theorem AQ8:keepR 30=false:=(rfl)
@[simp] theorem AS0:GS 30=[0,1,4,5,10,14,26]:=(rfl)
@[simp] theorem AQ7:keepR 31=false:=(rfl)
@[simp] theorem ARZ:GS 31=[0,1,4,5,9]:=(rfl)
@[simp] theorem AQ6:keepR 32=false:=(rfl)
@[simp] theorem ARY:GS 32=[0,1,4,5,9]:=(rfl)
@[simp] theorem AOL:eU 33=false:=(rfl)
@[simp] theorem AQ5:keepR 33=false:=(rfl)
@[simp] theorem ARX:GS 33=[0,1,4,5,9,18,27,39,49,60]:=(rfl)
@[simp] theorem AOK:eU 34=false:=(rfl)
@[simp] theorem AQ4:keepR 34=false:=(rfl)
@[simp] theorem ARW:GS 34=[0,1,4,5,9,17]:=(rfl)
@[simp] theorem AOJ:eU 35=false:=(rfl)
@[simp] theorem AQ3:keepR 35=false:=(rfl)
@[simp] theorem ARV:GS 35=[0,1,4,5,9,18,27,38,47,56]:=(rfl)
@[simp] theorem AOI:eU 36=false:=(rfl)
@[simp] theorem AQ2:keepR 36=false:=(rfl)
@[simp] theorem ARU:GS 36=[0,1,3,4,5,8,17]:=(rfl)
@[simp] theorem AOH:eU 37=false:=(rfl)
@[simp] theorem AQ1:keepR 37=false:=(rfl)
@[simp] theorem ART:GS 37=[0,1,2,3,4,6,7,8,17,26]:=(rfl)
@[simp] theorem AOG:eU 38=false:=(rfl)
@[simp] theorem AQ0:keepR 38=false:=(rfl)
@[simp] theorem ARS:GS 38=[0,1,2,4,7]:=(rfl)
@[simp] theorem AOF:eU 39=false:=(rfl)
@[simp] theorem APZ:keepR 39=false:=(rfl)
@[simp] theorem ARR:GS 39=[0,1,3,4,5]:=(rfl)
@[simp] theorem AOE:eU 40=false:=(rfl)
@[simp] theorem APY:keepR 40=false:=(rfl)
@[simp] theorem ARQ:GS 40=[0,1,4,5,6,19,24,25,26]:=(rfl)
@[simp] theorem AOD:eU 41=false:=(rfl)
@[simp] theorem APX:keepR 41=false:=(rfl)
@[simp] theorem ARP:GS 41=[0,2,3,4,9,10,11]:=(rfl)
@[simp] theorem AOC:eU 42=true:=(rfl)
@[simp] theorem ARO:GS 42=[0,1,2,4,5,18]:=(rfl)
@[simp] theorem AOB:eU 43=false:=(rfl)
@[simp] theorem ARN:GS 43=[0,2,3,4,5,6,7,14,38,39,40,76,77,78]:=(rfl)
@[simp] theorem AOA:eU 44=false:=(rfl)
@[simp] theorem APW:keepR 44=false:=(rfl)
@[simp] theorem ARL:GS 44=[0,1,2,4,10]:=(rfl)
@[simp] theorem AO9:eU 45=false:=(rfl)
@[simp] theorem APV:keepR 45=false:=(rfl)
@[simp] theorem ARK:GS 45=[0,1,2,6]:=(rfl)
@[simp] theorem AO8:eU 47=false:=(rfl)
@[simp] theorem APU:keepR 47=true:=(rfl)
@[simp] theorem ARJ:GS 47=[0,1,2,3,4,5,19,37]:=(rfl)
@[simp] theorem AO7:eU 48=false:=(rfl)
@[simp] theorem ARI:GS 48=[0,1,2,3]:=(rfl)
@[simp] theorem AO6:eU 49=false:=(rfl)
@[simp] theorem APT:keepR 49=false:=(rfl)
@[simp] theorem ARH:GS 49=[0,2,4,12,13,14,15,16,21]:=(rfl)
@[simp] theorem AO5:eU 50=false:=(rfl)
@[simp] theorem APS:keepR 50=false:=(rfl)
@[simp] theorem ARG:GS 50=[0,1,2,6,7,8,9,10,31,60,87,92,106,118,119,120,137]:=(rfl)
@[simp] theorem AO4:eU 51=false:=(rfl)
@[simp] theorem APR:keepR 51=true:=(rfl)
@[simp] theorem ARF:GS 51=[0,2,3,6]:=(rfl)
@[simp] theorem AO3:eU 52=false:=(rfl)
@[simp] theorem APQ:keepR 52=true:=(rfl)
@[simp] theorem ARD:GS 52=[0,2,3,6]:=(rfl)
@[simp] theorem AO2:eU 53=true:=(rfl)
@[simp] theorem ARC:GS 53=[0,2,3,4,5,6,13,37,38,39]:=(rfl)
@[simp] theorem AO1:eU 56=false:=(rfl)
@[simp] theorem APP:keepR 56=false:=(rfl)
@[simp] theorem ARB:GS 56=[0,1,2,3,4,9,14,20,26]:=(rfl)
@[simp] theorem AO0:eU 57=false:=(rfl)
@[simp] theorem APO:keepR 57=false:=(rfl)
@[simp] theorem ARA:GS 57=[0,1,4,5,6,18,32]:=(rfl)
@[simp] theorem ANZ:eU 58=false:=(rfl)
@[simp] theorem APN:keepR 58=false:=(rfl)
@[simp] theorem AR9:GS 58=[0,2,3,7,15]:=(rfl)
@[simp] theorem ANW:eU 59=false:=(rfl)
@[simp] theorem APM:keepR 59=false:=(rfl)
@[simp] theorem AR8:GS 59=[0,1,2,3,6,7,8,9,23,28,41,47,48,55,61,70,74,82,106,114,122,126,131,144]:=(rfl)
@[simp] theorem ANV:eU 60=true:=(rfl)
@[simp] theorem APL:keepR 60=false:=(rfl)
@[simp] theorem AR7:GS 60=[0,1,4,12,13,14]:=(rfl)
@[simp] theorem ANU:eU 61=true:=(rfl)
@[simp] theorem APK:keepR 61=false:=(rfl)
@[simp] theorem AR6:GS 61=[0,1,2]:=(rfl)
@[simp] theorem ANT:eU 62=false:=(rfl)
@[simp] theorem APJ:keepR 62=true:=(rfl)
@[simp] theorem AR5:GS 62=[0,2,3,6]:=(rfl)
@[simp] theorem ANR:eU 64=false:=(rfl)
@[simp] theorem API:keepR 64=false:=(rfl)
@[simp] theorem AR4:GS 64=[0,1,2,3,4,16]:=(rfl)
@[simp] theorem ANQ:eU 65=false:=(rfl)
@[simp] theorem APH:keepR 65=false:=(rfl)
@[simp] theorem AR3:GS 65=[0,1,2,3]:=(rfl)
@[simp] theorem ANP:eU 66=false:=(rfl)
@[simp] theorem APG:keepR 66=false:=(rfl)
@[simp] theorem AR2:GS 66=[0,2]:=(rfl)
@[simp] theorem ANO:eU 67=false:=(rfl)
@[simp] theorem APF:keepR 67=false:=(rfl)
@[simp] theorem AR1:GS 67=[0,2,3,4,5,7,10,13,15]:=(rfl)
@[simp] theorem ANN:eU 68=false:=(rfl)
@[simp] theorem APE:keepR 68=false:=(rfl)
@[simp] theorem AR0:GS 68=[0,1,2,6,7,8,13,14,21,22,26,27,35,46,47,48,59,65]:=(rfl)
@[simp] theorem ANM:eU 69=false:=(rfl)
@[simp] theorem APD:keepR 69=false:=(rfl)
@[simp] theorem AQZ:GS 69=[0,1,2,3,4,9,14]:=(rfl)
@[simp] theorem ANL:eU 70=false:=(rfl)
@[simp] theorem APC:keepR 70=false:=(rfl)
@[simp] theorem AQY:GS 70=[0,1,2,3,4,6,7,9,12,14,16]:=(rfl)
@[simp] theorem ANK:eU 71=false:=(rfl)
@[simp] theorem APB:keepR 71=false:=(rfl)
@[simp] theorem AQX:GS 71=[0,1,2,4]:=(rfl)
@[simp] theorem ANJ:eU 72=false:=(rfl)
@[simp] theorem APA:keepR 72=false:=(rfl)
@[simp] theorem AQW:GS 72=[0,1,4,5,9,18,21]:=(rfl)
@[simp] theorem ANI:eU 73=false:=(rfl)
@[simp] theorem AP9:keepR 73=false:=(rfl)
@[simp] theorem AQV:GS 73=[0,1,4,5,9,35]:=(rfl)
@[simp] theorem ANH:eU 74=false:=(rfl)
@[simp] theorem AP8:keepR 74=false:=(rfl)
@[simp] theorem AQU:GS 74=[0,1,4,5,7,10,11,12,13,14,24]:=(rfl)
@[simp] theorem ANG:eU 75=false:=(rfl)
@[simp] theorem AP7:keepR 75=false:=(rfl)
@[simp] theorem AQT:GS 75=[0,1,2,4]:=(rfl)
@[simp] theorem ANF:eU 76=false:=(rfl)
@[simp] theorem AP6:keepR 76=false:=(rfl)
@[simp] theorem AQS:GS 76=[0,1,2,3,6,7,24,29,41,43,44,57]:=(rfl)
@[simp] theorem ANE:eU 77=false:=(rfl)
@[simp] theorem AP5:keepR 77=false:=(rfl)
@[simp] theorem AQR:GS 77=[0,1,2,6,7,8,28,62,90,95,96,97,109]:=(rfl)
@[simp] theorem ANC:eU 78=false:=(rfl)
@[simp] theorem AP4:keepR 78=false:=(rfl)
@[simp] theorem AQQ:GS 78=[0,2,3,4,7,10]:=(rfl)
@[simp] theorem ANB:eU 79=false:=(rfl)
@[simp] theorem AP3:keepR 79=false:=(rfl)
@[simp] theorem AQP:GS 79=[0,1,2]:=(rfl)
@[simp] theorem ANA:eU 80=false:=(rfl)
@[simp] theorem AP2:keepR 80=false:=(rfl)
@[simp] theorem AQO:GS 80=[0,2,3,4,7,10]:=(rfl)
@[simp] theorem AN9:eU 81=false:=(rfl)
@[simp] theorem AP1:keepR 81=false:=(rfl)
@[simp] theorem AQN:GS 81=[0,1,2,4]:=(rfl)
@[simp] theorem ASI:EB 72=true:=(rfl)
noncomputable def ADT:FuncId→Option (List AV→StL→Option (AV×StL))
 | 53=>some AAV
 | 43=>some AAU
 | _=>none
noncomputable def C0:Ctx:={ P:=Try.prog,G:=GS,ownArgs:=eU,keepRes:=keepR,eqT:=EB,prim:=ADT }
@[simp] theorem dk3:bF Try.prog 3=some (.int .i64):=by kernel_rfl
@[simp] theorem sz3:iA Try.prog 3=some 1:=by kernel_rfl
@[simp] theorem by3:XY Try.prog 3=some 8:=by kernel_rfl
@[simp] theorem ze3:zeroOf Try.prog 3=some [(.int .i64 0)]:=by kernel_rfl
@[simp] theorem dk4:bF Try.prog 4=some .bool:=by kernel_rfl
@[simp] theorem sz4:iA Try.prog 4=some 1:=by kernel_rfl
@[simp] theorem ze4:zeroOf Try.prog 4=some [(.bool false)]:=by kernel_rfl
@[simp] theorem ASZ:bF Try.prog 22=some (.slice 69):=by kernel_rfl
@[simp] theorem AN8:iA Try.prog 22=some 1:=by kernel_rfl
@[simp] theorem ASY:bF Try.prog 23=some (.slice 3):=by kernel_rfl
@[simp] theorem AN7:iA Try.prog 23=some 1:=by kernel_rfl
@[simp] theorem ASX:bF Try.prog 24=some (.slice 26):=by kernel_rfl
@[simp] theorem AN6:iA Try.prog 24=some 1:=by kernel_rfl
@[simp] theorem ASW:bF Try.prog 26=some .strct:=by kernel_rfl
@[simp] theorem AN5:iA Try.prog 26=some 5:=by kernel_rfl
@[simp] theorem AM7:dS Try.prog 26 0=some (3,0):=by kernel_rfl
@[simp] theorem AM6:dS Try.prog 26 1=some (3,1):=by kernel_rfl
@[simp] theorem AM5:dS Try.prog 26 2=some (22,2):=by kernel_rfl
@[simp] theorem AM4:dS Try.prog 26 3=some (23,3):=by kernel_rfl
@[simp] theorem AM3:dS Try.prog 26 4=some (24,4):=by kernel_rfl
@[simp] theorem ASV:bF Try.prog 28=some (.slice 74):=by kernel_rfl
@[simp] theorem AN4:iA Try.prog 28=some 1:=by kernel_rfl
@[simp] theorem ASU:bF Try.prog 29=some (.slice 31):=by kernel_rfl
@[simp] theorem AN3:iA Try.prog 29=some 1:=by kernel_rfl
@[simp] theorem AST:bF Try.prog 31=some .strct:=by kernel_rfl
@[simp] theorem AN2:iA Try.prog 31=some 5:=by kernel_rfl
@[simp] theorem AT3:XY Try.prog 31=some 88:=by kernel_rfl
@[simp] theorem AMV:zeroOf Try.prog 31=some [(.int .i64 0),(.int .i64 0),(.slice none 0 0),(.slice none 0 0),(.slice none 0 0)]:=by kernel_rfl
@[simp] theorem AM2:dS Try.prog 31 0=some (3,0):=by kernel_rfl
@[simp] theorem AM1:dS Try.prog 31 1=some (3,1):=by kernel_rfl
@[simp] theorem AM0:dS Try.prog 31 2=some (28,2):=by kernel_rfl
@[simp] theorem ALZ:dS Try.prog 31 3=some (23,3):=by kernel_rfl
@[simp] theorem ALY:dS Try.prog 31 4=some (29,4):=by kernel_rfl
@[simp] theorem ASS:bF Try.prog 52=some .other:=by kernel_rfl
@[simp] theorem AN1:iA Try.prog 52=some 1:=by kernel_rfl
@[simp] theorem AT2:XY Try.prog 52=some 8:=by kernel_rfl
@[simp] theorem AMU:zeroOf Try.prog 52=some [(.pointer none)]:=by kernel_rfl
@[simp] theorem ASR:bF Try.prog 67=some .strct:=by kernel_rfl
@[simp] theorem AN0:iA Try.prog 67=some 2:=by kernel_rfl
@[simp] theorem ALX:dS Try.prog 67 0=some (4,0):=by kernel_rfl
@[simp] theorem ALW:dS Try.prog 67 1=some (3,1):=by kernel_rfl
@[simp] theorem ASQ:bF Try.prog 69=some .strct:=by kernel_rfl
@[simp] theorem AMZ:iA Try.prog 69=some 5:=by kernel_rfl
@[simp] theorem ALV:dS Try.prog 69 0=some (3,0):=by kernel_rfl
@[simp] theorem ALU:dS Try.prog 69 1=some (3,1):=by kernel_rfl
@[simp] theorem ALT:dS Try.prog 69 2=some (67,2):=by kernel_rfl
@[simp] theorem ALS:dS Try.prog 69 3=some (22,4):=by kernel_rfl
@[simp] theorem ASP:bF Try.prog 72=some .strct:=by kernel_rfl
@[simp] theorem AMY:iA Try.prog 72=some 2:=by kernel_rfl
@[simp] theorem AMT:zeroOf Try.prog 72=some [(.bool false),(.int .i64 0)]:=by kernel_rfl
@[simp] theorem ALR:dS Try.prog 72 0=some (4,0):=by kernel_rfl
@[simp] theorem ALQ:dS Try.prog 72 1=some (3,1):=by kernel_rfl
@[simp] theorem ASO:bF Try.prog 74=some .strct:=by kernel_rfl
@[simp] theorem AMX:iA Try.prog 74=some 5:=by kernel_rfl
@[simp] theorem AT1:XY Try.prog 74=some 56:=by kernel_rfl
@[simp] theorem AMS:zeroOf Try.prog 74=some [(.int .i64 0),(.int .i64 0),(.bool false),(.int .i64 0),(.slice none 0 0)]:=by kernel_rfl
@[simp] theorem ALP:dS Try.prog 74 0=some (3,0):=by kernel_rfl
@[simp] theorem ALO:dS Try.prog 74 1=some (3,1):=by kernel_rfl
@[simp] theorem ALN:dS Try.prog 74 2=some (72,2):=by kernel_rfl
@[simp] theorem ALM:dS Try.prog 74 3=some (28,4):=by kernel_rfl
@[simp] theorem ASN:bF Try.prog 80=some .other:=by kernel_rfl
@[simp] theorem AMW:iA Try.prog 80=some 1:=by kernel_rfl
@[simp] theorem AT0:XY Try.prog 80=some 8:=by kernel_rfl
@[simp] theorem AMR:zeroOf Try.prog 80=some [(.pointer none)]:=by kernel_rfl
@[simp] theorem ASM:bF Try.prog 86=some (.slice 52):=by kernel_rfl
@[simp] theorem ASL:bF Try.prog 92=some (.array 2 3):=by kernel_rfl
@[simp] theorem AMQ:zeroOf Try.prog 92=some [(.int .i64 0),(.int .i64 0)]:=by kernel_rfl
@[simp] theorem ASJ:bF Try.prog 94=some (.slice 80):=by kernel_rfl
end Go.Proofs.Ytjdfjgmebalaaaa
namespace Go.Av
def fnT (fn:Func):Bool:=(fn.name != "runtime.NumGoroutine") && match fn.body with
 | some c=>codeOk fn.ntmps c
 | none=>true
theorem UC {α:Type} {p:α→Bool} {l:List α} (c n:Nat) (hc:0<c) (hl:l.length≤c*n) (h:∀ i,i<n→((l.drop (c*i)).take c).all p=true):l.all p=true:=by
 rw[yV];intro x hx;obtain⟨j,hj,rfl⟩:=List.getElem_of_mem hx;have hd:c*(j / c)+j % c=j:=Nat.div_add_mod j c;have hm:j % c<c:=Nat.mod_lt _ hc
 have hi:j / c<n:=by
  rw[Nat.div_lt_iff_lt_mul hc,z8];omega
 refine yV.1 (h (j / c) hi) _ ?_;refine zT (i:=j % c) ?_;rw[zD,if_pos hm,yL,hd,zW hj]
theorem XC {P:Program} (h:P.funcs.toList.all fnT=true):Q9 P=true:=h
end Go.Av
namespace Go.Proofs.Ytjdfjgmebalaaaa
open Go Go.Av
set_option maxHeartbeats 2000000
theorem ft:DZ Try.prog=true:=by kernel_rfl
theorem nt0:((Try.prog.funcs.toList.drop (25*0)).take 25).all fnT=true:=by kernel_rfl
theorem nt1:((Try.prog.funcs.toList.drop (25*1)).take 25).all fnT=true:=by kernel_rfl
theorem nt2:((Try.prog.funcs.toList.drop (25*2)).take 25).all fnT=true:=by kernel_rfl
theorem nt3:((Try.prog.funcs.toList.drop (25*3)).take 25).all fnT=true:=by kernel_rfl
theorem ntl:Try.prog.funcs.toList.length≤25*4:=zR (by kernel_rfl)
theorem nt:Q9 Try.prog=true:=XC (UC 25 4 (by decide) ntl fun i hi=>by
 have h:i=0∨i=1∨i=2∨i=3:=by omega
 rcases h with rfl|rfl|rfl|rfl
 ·exact nt0
 ·exact nt1
 ·exact nt2
 ·exact nt3)
theorem mo:Try.prog.follows .mixedOrders=true:=by kernel_rfl
theorem eqS:∀ t,EB t=true→QD Try.prog t=true:=by
 intro t h;unfold EB at h;split at h
 ·kernel_rfl
 ·kernel_rfl
 ·kernel_rfl
 ·cases h
@[simp] theorem C_P:C0.P=Try.prog:=(rfl)
@[simp] theorem C_G (f):C0.G f=GS f:=(rfl)
@[simp] theorem C_o (f):C0.ownArgs f=eU f:=(rfl)
@[simp] theorem C_k (f):C0.keepRes f=keepR f:=(rfl)
@[simp] theorem C_e (f):C0.eqT f=EB f:=(rfl)
@[simp] theorem C_t:C0.tree=false:=(rfl)
theorem wrap64 {x:Int} (h1:-9223372036854775808≤x) (h2:x<9223372036854775808):IntKind.i64.wrap x=x:=by
 unfold IntKind.wrap;simp[IntKind.signed,IntKind.bits];omega
theorem wrO {n:Int} (h1:-9223372036854775808≤n:=by omega) (h2:n<9223372036854775808:=by omega):IntKind.i64.wrap n=n:=wrap64 h1 h2
set_option maxRecDepth 4000
noncomputable def C1:Ctx:={ P:=Try.prog,G:=GS,ownArgs:=eU,keepRes:=keepR,eqT:=EB,prim:=fun _=>none }
@[simp] theorem AUF:C1.P=Try.prog:=(rfl)
@[simp] theorem AUG (f):C1.G f=GS f:=(rfl)
@[simp] theorem AUC (f):C1.ownArgs f=eU f:=(rfl)
@[simp] theorem AUD (f):C1.keepRes f=keepR f:=(rfl)
@[simp] theorem AUE (f):C1.eqT f=EB f:=(rfl)
@[simp] theorem AUB:C1.tree=false:=(rfl)
theorem XN:aH C1 51 [.i (.isl [])] []=some (.nils,[]):=by
 rw[aI rfl Try.func51 rfl rfl];simp
theorem QH {ks:List Ex} (h:ks≠[]) (hl:ks.length<1000000000):aH C1 51 [.i (.isl (Ex.aA ks))] []=some (.osl 0 5 0 ks.length,[some (.arr 5 (Ex.aA ks))]):=by
 rw[aI rfl Try.func51 rfl rfl];have h1:56*(ks.length:Int)≤281474976710656:=by omega
 simp[h,h1];unfold over;simp
theorem fG:SoundOk C1:=jW (C:=C1) ft nt eqS mo (VW fun _=>rfl)
def ptr (p:Nat×Nat):IV:=.lit (.pointer (some ⟨p.1,p.2,none⟩))
def zc:List AV:=[.int 0, .int 0, .bool false, .int 0, .nils]
def AFJ (p:Nat×Nat):AS:={ env:=[(0, .i (ptr p))],st:=[] }
def AL5 (e:Ex) (p:Nat×Nat):AS:={ env:=[(0, .i (ptr p)),(2, .own 0 0),(3, .own 1 0),(4, .junk),(5, .junk),(6, .junk),(13, .junk),(37, .junk),(38, .junk),(39, .junk)],st:=[some (.box zc),some (.box (jV e.cells))] }
def SL (b3:Nat) (todo X:KL):AS :=
 { env:=[(0, .junk),(2, .own 0 0),(3, .i (ptr (b3,0))),(4, .osl 1 1 0 todo.length),(5, .junk),(6, .junk),(13, .junk),(37, .junk),(38, .junk),(39, .junk)],st:=[some (.box zc),some (.arr 1 ((todo++X).map fun k=>[ptr k.1]))] }
theorem BV:∀ (l:KL),∀ c∈(l.map fun k=>[ptr k.1]).flatten,∃ v,c=.lit v
 | [],c,h=>by simp at h
 | k::l,c,h=>by
  simp only[yS,zB,zV,xL]at h
  rcases h with rfl|h
  ·exact⟨_,rfl⟩
  ·exact BV l c h
def PP (b3:Nat) (b o n:Nat) (x:Ex) (ES:List (List IV)) (env:Nat→AV) (st:Store):Prop :=
 env 2=.own 0 0∧env 3=.i (ptr (b3,0))∧env 4=.osl 1 1 0 n∧env 5=.i (ptr (b,o))∧env 32=.i (ptr (b,o+4))∧st 0=some (.box zc)∧st 1=some (.arr 1 ES) ∧
  ((env 30=.nils∧x.kids=[])∨∃ id,env 30=.osl id 5 0 x.kids.length∧x.kids≠[]∧st id=some (.arr 5 (Ex.aA x.kids))∧2≤id)
theorem UY:IntKind.i64.wrap 1=1:=wrO
def RW (init:KL) (b' i:Nat):List (List IV):=(init.map fun k=>[ptr k.1])++(List.range i).map fun j=>[ptr (b',j*5)]
theorem MP (init:KL) (b' i:Nat):(RW init b' i).length=init.length+i:=by simp[RW]
theorem EZ (init:KL) (b' i:Nat):RW init b' i++[[ptr (b',i*5)]]=RW init b' (i+1):=by simp[RW,zB9]
theorem lV (b:Nat):∀ (o:Nat) (l:List Ex),(bB b o l).map (fun k=>[ptr k.1])=(List.range l.length).map fun j=>[ptr (b,o+j*5)]
 | _,[]=>by simp[bB]
 | o,a::l=>by
  simp only[bB,yS,lV b (o+5) l,zP,zB6,List.map_map];simp only[List.cons.injEq,Nat.zero_mul,xV,true_and];apply List.map_congr_left;intro j _;simp only[Function.comp,Nat.succ_eq_add_one];rw[show o+5+j*5=o+(j+1)*5 by omega]
theorem lW (b:Nat):∀ (o:Nat) (l:List Ex),(bB b o l).length=l.length
 | _,[]=>rfl
 | o,a::l=>by simp[bB,lW b (o+5) l]
theorem lU (b:Nat):∀ (o:Nat) (l:List Ex),((bB b o l).map fun k=>k.2.size).sum=Ex.aL l
 | _,[]=>rfl
 | o,a::l=>by simp[bB,Ex.aL,lU b (o+5) l]
def YS (b3 b' cap:Nat) (x:Ex) (init:KL) (ES:List (List IV)) (i:Nat):AS :=
 { env:=[(0, .junk),(2, .own 0 0),(3, .i (ptr (b3,0))),(4,if i=0 then .osl 1 1 0 init.length else .osl 2 1 0 (init.length+i)),(5, .i (.iref [.int x.kind, .int x.col, .bool x.val.null, .int x.val.n, .lit (.slice (some ⟨b',0,none⟩) x.kids.length cap)])),(6,jk i (.int (i-1))),(13, .junk),(37, .int x.kids.length),(38, .int i),(39,jk i (.bool true))],
   st:=some (.box zc)::if i=0 then [some (.arr 1 ES)]else [none,some (.arr 1 (RW init b' i))] }
set_option maxHeartbeats 1000000
theorem MB {e:Ex} (he:e.size<1000000000) {wi:World} {mi:Mem} {b o:Nat} (hi:Inv wi mi (fun _=>none) (aS []))
 (hrun:∀ w',wi.heap.size≤w'.heap.size→(∀ f,f<wi.heap.size→w'.heap[f]?=wi.heap[f]?)→∃ y,(Instr.loadAt 74 (.pointer (some ⟨b,o,none⟩))).run C1.P w'=.ok y w'∧IRep mi (.agg e.cells) y) :
 Calls Try.prog 53 #[.pointer (some ⟨b,o,none⟩)] wi (dC wi mi (fun _=>none) (.i (.agg e.cells)) []):=by
 refine calls_of_wp (fn:=Try.f53) Try.func53 rfl ?_
 have g0:GG wi mi 52 (fun id=>id<(AFJ (b,o)).st.length) [] (aQ (AFJ (b,o)).env) (aS (AFJ (b,o)).st) { tmps:=[Value.pointer (some ⟨b,o,none⟩)].toArray++Array.replicate (52-1) undef,defers:=[] } wi:=by
  refine⟨⟨mi,fun _=>none,hi,?_, .refl _ _ _,fun id h=>absurd rfl h,fun k hk=>by simp at hk⟩,by simp,rfl⟩;intro t;have:=tN (m:=mi) (φ:=fun _=>none) (52-1) (show RepL mi (fun _=>none) [.i (ptr (b,o))] [.pointer (some ⟨b,o,none⟩)]from .cons (.i (.lit _)) .nil) t
  cases t with
  | zero=>simpa [AFJ,aQ,wV]using this
  | succ t=>simp only[AFJ,aQ];simp;exact .junk _
 refine wp_seq (wp_mono (GG.gG fG (G:=GS 53) (S:=AFJ (b,o)) (e:=.normal) (S':={ env:=[(0, .i (ptr (b,o))),(2, .own 0 0),(3, .junk),(4, .junk),(5, .junk),(6, .junk),(13, .junk),(37, .junk),(38, .junk),(39, .junk)],st:=[some (.box zc)] }) (by kernel_rfl) (by simp[AFJ,zc,ptr]) g0) ?_);rintro _ a1 w1 ⟨rfl,g1⟩
 refine wp_seq (GG.ADM fG (os1:=[_,_]) (os2:=[_,_]) (G:=GS 53) (S:={ env:=[(0, .i (ptr (b,o))),(2, .own 0 0),(3, .junk),(4, .junk),(5, .junk),(6, .junk),(13, .junk),(37, .junk),(38, .junk),(39, .junk)],st:=[some (.box zc)] }) (S':=AL5 e (b,o)) rfl (by
  have h:∀ ops:Array Oper,ops.all (gI 52)=true→∀ o∈ops,gI 52 o=true:=fun ops h o ho=>yJ.1 h o ho
  exact h _ (by kernel_rfl)) g1 (by decide) hrun ?_ ?_)
 ·rw[Ex.aB];simp[AL5,zc,ptr,Ex.aB]
 intro a2 w2 g2
 obtain⟨b3,g3⟩:=g2.pub (u:=3) (id:=1) (e:=e) (st':=aS [some (.box zc)]) (ok':=fun id=>id<1) rfl rfl (by
  intro i blk h
  cases i with
  | zero=>simp[aS]at h;subst h;exact⟨by omega,rfl,by simp[eZ,zc]⟩
  | succ i=>simp[aS]at h) (by
  intro i h
  cases i with
  | zero=>omega
  | succ i=>simp[aS]at h)
 have g3:=g3 (aQ [(2, .own 0 0),(3, .i (ptr (b3,0)))]) (by
  intro t;simp only[aQ];by_cases h2:t=2
  ·subst h2;exact .inr (.inr ⟨rfl,by simp[AL5,aQ,iB,aS]⟩)
  ·by_cases h3:t=3
   ·subst h3;exact .inr (.inl ⟨rfl,rfl⟩)
   ·simp[h2,h3])
 refine wp_seq (wp_mono (GG.gG fG (G:=GS 53) (S:={ env:=[(2, .own 0 0),(3, .i (ptr (b3,0)))],st:=[some (.box zc)] }) (e:=.normal) (S':=SL b3 [((b3,0),e)] []) (by kernel_rfl) (by simp[SL,ptr,zc]) g3) ?_);rintro _ a3 w3 ⟨rfl,g4⟩;refine wp_seq (wp_block ?_);refine rP (fun n a w=>∃ todo X K:KL,(∀ k∈todo,k∈K)∧((b3,0),e)∈K∧(todo.map fun k=>k.2.size).sum=n∧n<1000000000∧GG wi mi 52 (fun id=>id<(SL b3 todo X).st.length) K (aQ (SL b3 todo X).env) (aS (SL b3 todo X).st) a w) ?_ (n:=e.size) ⟨[((b3,0),e)],[],[((b3,0),e)],fun k hk=>hk,by simp,by simp,he,g4⟩;rintro n a w ⟨todo,X,K,hsub,hb3,hsum,hn,g⟩
 rcases List.eq_nil_or_concat todo with rfl|⟨init,k,rfl⟩
 ·refine wp_mono (GG.gG fG (G:=GS 53) (S:=SL b3 [] X) (e:=.exit 0) (S':={ env:=[(0, .junk),(2, .own 0 0),(3, .i (ptr (b3,0))),(4, .osl 1 1 0 0),(5, .junk),(6, .junk),(13, .bool false),(37, .junk),(38, .junk),(39, .junk)],st:=[some (.box zc),some (.arr 1 (X.map fun k=>[ptr k.1]))] }) (by kernel_rfl) (by simp[SL,ptr,zc]) g) ?_;rintro _ a5 w5 ⟨rfl,g5⟩;simp only[gK,Exit.then,Exit.inBlock,if_true]
  have g6:=(g5.see (u:=3) (b:=b3) (o:=0) rfl hb3).envTo (env':=aQ [(2, .own 0 0),(3, .i (.iref e.cells))]) (by
   intro t;simp only[aQ,upd];by_cases h2:t=2
   ·subst h2;simp
   ·by_cases h3:t=3
    ·subst h3;simp
    ·simp[h2,h3])
  refine wp_mono (GG.gG fG (G:=GS 53) (S:={ env:=[(2, .own 0 0),(3, .i (.iref e.cells))],st:=[some (.box zc),some (.arr 1 (X.map fun k=>[ptr k.1]))] }) (e:=.ret) (S':={ env:=[(0, .junk),(2, .own 0 0),(3, .i (.iref e.cells)),(4, .junk),(5, .junk),(6, .junk),(13, .junk),(37, .junk),(38, .junk),(39, .junk)],st:=[some (.box (jV e.cells)),some (.arr 1 (X.map fun k=>[ptr k.1]))] }) (by kernel_rfl) (by simp[zc]) g6) ?_;rintro _ a6 w6 ⟨rfl,g7⟩;obtain⟨⟨m,φ,q1,q2,q3,q4,q5⟩,q6,q7⟩:=g7
  obtain⟨v,k1,k2⟩:=jJ (C:=C1) (fn:=Try.f53) (keep:=false) (na:=0) (S:={ env:=[(0, .junk),(2, .own 0 0),(3, .i (.iref e.cells)),(4, .junk),(5, .junk),(6, .junk),(13, .junk),(37, .junk),(38, .junk),(39, .junk)],st:=[some (.box (jV e.cells)),some (.arr 1 (X.map fun k=>[ptr k.1]))] }) (r:=.i (.agg e.cells)) (stl':=[]) (fun id h=>absurd rfl h) ⟨⟨⟨m,φ,q1,q2,q3,q4, .nil _ _ _⟩,q6,q7⟩,zB3 _⟩ (by
   show finish C1 false [ResultVar.cell 2 74] 0 _=_
   simp)
  exact⟨q7,v,k1,k2⟩
 ·clear g0 g4 g3 g1 g2;obtain⟨⟨b,o⟩,x⟩:=k
  have hlen:∀ l:KL,l.length≤(l.map fun k=>k.2.size).sum:=by
   intro l
   induction l with
   | nil=>simp
   | cons a l ih=>have:=Ex.jX a.2;simp;omega
  have hil:=hlen init;simp at hsum;have hxk:((b,o),x)∈K:=hsub _ (by simp);have hxs:=Ex.size_eq x;have hkl:=Ex.dJ x.kids;have hne:¬ ((init.length:Int)+1≤0):=by omega
  have hpos:(0:Int)<(init.length:Int)+1:=by omega
  have w1:IntKind.i64.wrap (init.length:Int)=init.length:=wrO;generalize hES:((init++[((b,o),x)]++X).map fun k=>[ptr k.1])=ES
  have hnth:gB ES init.length=some [ptr (b,o)]:=by
   rw[fE,← hES];simp
  have hlit:∀ c∈ES.flatten,∃ v,c=.lit v:=by rw[← hES];exact BV _
  have hlt:(init.length:Int)<(init.length:Int)+1:=by omega
  have hlt2:(init.length:Int)≤(init.length:Int)+1:=by omega
  refine wp_seq (wp_mono (GG.gG fG (G:=GS 53) (S:=SL b3 (init++[((b,o),x)]) X) (e:=.normal) (S':={ env:=[(0, .junk),(2, .own 0 0),(3, .i (ptr (b3,0))),(4, .osl 1 1 0 (init.length+1)),(5, .junk),(6, .junk),(13, .bool true),(37, .junk),(38, .junk),(39, .junk)],st:=[some (.box zc),some (.arr 1 ES)] }) (by kernel_rfl) (by simp only[SL,hES];simp[ptr,zc,hpos]) (by simpa using g)) ?_);rintro _ a5 w5 ⟨rfl,g5⟩;clear g;refine wp_block ?_;refine wp_seq (wp_mono (GG.gG fG (G:=GS 53) (S:={ env:=[(0, .junk),(2, .own 0 0),(3, .i (ptr (b3,0))),(4, .osl 1 1 0 (init.length+1)),(5, .junk),(6, .junk),(13, .bool true),(37, .junk),(38, .junk),(39, .junk)],st:=[some (.box zc),some (.arr 1 ES)] }) (e:=.normal) (S':={ env:=[(0, .junk),(2, .own 0 0),(3, .i (ptr (b3,0))),(4, .osl 1 1 0 (init.length+1)),(5,(.i (ptr (b,o)))),(6, .junk),(13, .bool true),(37, .junk),(38, .junk),(39, .junk)],st:=[some (.box zc),some (.arr 1 ES)] }) (by kernel_rfl) (by simp only[ptr]at hnth;simp[ptr,zc,hnth,w1,hlt]) g5) ?_);rintro _ a6 w6 ⟨rfl,g6⟩;clear g5;refine wp_seq (wp_mono (GG.gG fG (G:=GS 53) (S:={ env:=[(0, .junk),(2, .own 0 0),(3, .i (ptr (b3,0))),(4, .osl 1 1 0 (init.length+1)),(5,(.i (ptr (b,o)))),(6, .junk),(13, .bool true),(37, .junk),(38, .junk),(39, .junk)],st:=[some (.box zc),some (.arr 1 ES)] }) (e:=.normal) (S':={ env:=[(0, .junk),(2, .own 0 0),(3, .i (ptr (b3,0))),(4, .osl 1 1 0 init.length),(5,(.i (ptr (b,o)))),(6, .junk),(13, .bool true),(37, .junk),(38, .junk),(39, .junk)],st:=[some (.box zc),some (.arr 1 ES)] }) (by kernel_rfl) (by simp[ptr,zc,w1,hlt2]) g6) ?_);rintro _ a7 w7 ⟨rfl,g7⟩;clear g6
  refine wp_seq (GG.region fG (os1:=[_,_]) (os2:=[_,_,_,_,_,_]) (u:=26) (PP:=PP b3 b o init.length x ES) rfl (by
   have h:∀ ops:Array Oper,ops.all (gI 52)=true→∀ o∈ops,gI 52 o=true:=fun ops h o ho=>yJ.1 h o ho
   exact h _ (by kernel_rfl)) g7 hxk ?_ ?_)
  ·rw[Ex.aB];by_cases hx:x.kids=[]
   ·simp[ptr,zc,hx,PP,Ex.aA,XN]
   ·simp[ptr,zc,PP,QH hx (by omega),hx]
  ·rintro env st a8 w8 ⟨p2,p3,p4,p5,p32,q0,q1,p30⟩ g8;clear g7
   obtain⟨w9,b',ao,cap,e1,e2,hrun,hG⟩:=GG.turn (C:=C1) (ok':=fun id=>id<2) (st':=aS [some (.box zc),some (.arr 1 ES)]) (u:=30) (t:=28) g8 (by simp) hi.mem hxk rfl (by
    rcases p30 with ⟨h1,h2⟩|⟨id,h1,h2,h3,h4⟩
    ·refine .inl ⟨h1,h2,?_⟩;intro i blk h
     rcases i with _|_|i
     ·simp[aS]at h;subst h;exact q0
     ·simp[aS]at h;subst h;exact q1
     ·simp[aS]at h
    ·refine .inr ⟨id,h1,h2,h3,?_⟩;intro i blk h
     rcases i with _|_|i
     ·simp[aS]at h;subst h;exact⟨by omega,q0⟩
     ·simp[aS]at h;subst h;exact⟨by omega,q1⟩
     ·simp[aS]at h) (by
    intro i blk h
    rcases i with _|_|i
    ·simp[aS]at h;subst h;simp[eZ,zc]
    ·simp[aS]at h;subst h;exact hlit
    ·simp[aS]at h) (by
    intro i h
    rcases i with _|_|i
    ·omega
    ·omega
    ·simp[aS]at h)
   have ev5:=g8.SG (t:=5) p5;have ev32:=g8.SG (t:=32) p32
   refine FW (C:=C1) (w':=w9) rfl (by
    show(Instr.storeAt 28 (a8.tmps.getD 32 undef) (a8.tmps.getD 30 undef)).run C1.P w8=_
    rw[ev32];exact hrun) ?_
   have g9:=hG (aQ [(2, .own 0 0),(3, .i (ptr (b3,0))),(4, .osl 1 1 0 init.length),(5,(.i (.iref [.int x.kind, .int x.col, .bool x.val.null, .int x.val.n, .lit (.slice ao x.kids.length cap)])))]) (by
    intro t;simp only[aQ];by_cases h2:t=2
    ·subst h2;exact .inr (.inr ⟨by simp[p2],by rw[p2];simp[iB,aS]⟩)
    by_cases h3:t=3
    ·subst h3;exact .inr (.inr ⟨by simp[p3],by rw[p3];simp[iB,ptr]⟩)
    by_cases h4:t=4
    ·subst h4;exact .inr (.inr ⟨by simp[p4],by rw[p4];simp[iB,aS]⟩)
    by_cases h5:t=5
    ·subst h5;exact .inr (.inl ⟨ev5,by simp⟩)
    ·simp[h2,h3,h4,h5])
   clear hG g8;show Code.wp _ _ _ _ _;refine wp_seq (wp_mono (GG.gG fG (G:=GS 53) (S:={ env:=[(2, .own 0 0),(3, .i (ptr (b3,0))),(4, .osl 1 1 0 init.length),(5,(.i (.iref [.int x.kind, .int x.col, .bool x.val.null, .int x.val.n, .lit (.slice ao x.kids.length cap)])))],st:=[some (.box zc),some (.arr 1 ES)] }) (e:=.normal) (S':={ env:=[(0, .junk),(2, .own 0 0),(3, .i (ptr (b3,0))),(4, .osl 1 1 0 init.length),(5,(.i (.iref [.int x.kind, .int x.col, .bool x.val.null, .int x.val.n, .lit (.slice ao x.kids.length cap)]))),(6, .junk),(13, .junk),(37, .int x.kids.length),(38, .int 0),(39, .junk)],st:=[some (.box zc),some (.arr 1 ES)] }) (by kernel_rfl) (by simp[ptr,zc]) g9) ?_);rintro _ a10 w10 ⟨rfl,g10⟩;clear g9;by_cases hx:x.kids=[]
   ·refine wp_mono (GG.gG fG (G:=GS 53) (S:={ env:=[(0, .junk),(2, .own 0 0),(3, .i (ptr (b3,0))),(4, .osl 1 1 0 init.length),(5,(.i (.iref [.int x.kind, .int x.col, .bool x.val.null, .int x.val.n, .lit (.slice ao x.kids.length cap)]))),(6, .junk),(13, .junk),(37, .int x.kids.length),(38, .int 0),(39, .junk)],st:=[some (.box zc),some (.arr 1 ES)] }) (e:=.normal) (S':={ env:=[(0, .junk),(2, .own 0 0),(3, .i (ptr (b3,0))),(4, .osl 1 1 0 init.length),(5,(.i (.iref [.int x.kind, .int x.col, .bool x.val.null, .int x.val.n, .lit (.slice ao x.kids.length cap)]))),(6, .junk),(13, .junk),(37, .int x.kids.length),(38, .int 0),(39, .bool false)],st:=[some (.box zc),some (.arr 1 ES)] }) (by kernel_rfl) (by
     simp only[hx,yI];simp;rw[aG]
     simp[ptr,zc]) g10) ?_
    rintro _ a11 w11 ⟨rfl,g11⟩;simp only[gK,Exit.then,Exit.inBlock];refine⟨n-1,by omega,init,((b,o),x)::X,K++bB b' 0 x.kids,fun k hk=>yO _ (hsub k (by simp[hk])),yO _ hb3,?_,by omega,?_⟩
    ·rw[hx]at hxs;simp[Ex.aL]at hxs;omega
    ·have hES2:((init++((b,o),x)::X).map fun k=>[ptr k.1])=ES:=by rw[← hES];simp
     simp only[SL,hES2]
     exact g11.envTo (by
      intro t;simp only[aQ];by_cases h2:t=2
      ·subst h2;simp
      by_cases h3:t=3
      ·subst h3;simp
      by_cases h4:t=4
      ·subst h4;simp
      ·simp[h2,h3,h4])
   ·obtain rfl:=e2 hx;have hET:ES.take init.length=RW init b' 0:=by rw[← hES];simp[RW]
    have hEL:init.length≤ES.length:=by rw[← hES];simp
    have hlim:∀ i,i≤x.kids.length→(init.length+i+1)*8≤140737488355328:=fun i hi=>by omega
    have hk0:x.kids.length≠0:=fun h=>hx (zZ.1 h)
    refine wp_mono (GG.gG fG (G:=GS 53) (S:={ env:=[(0, .junk),(2, .own 0 0),(3, .i (ptr (b3,0))),(4, .osl 1 1 0 init.length),(5,(.i (.iref [.int x.kind, .int x.col, .bool x.val.null, .int x.val.n, .lit (.slice (some ⟨b',0,none⟩) x.kids.length cap)]))),(6, .junk),(13, .junk),(37, .int x.kids.length),(38, .int 0),(39, .junk)],st:=[some (.box zc),some (.arr 1 ES)] }) (e:=.normal) (S':={ env:=[(0, .junk),(2, .own 0 0),(3, .i (ptr (b3,0))),(4, .osl 2 1 0 (init.length+x.kids.length)),(5,(.i (.iref [.int x.kind, .int x.col, .bool x.val.null, .int x.val.n, .lit (.slice (some ⟨b',0,none⟩) x.kids.length cap)]))),(6, .int (x.kids.length-1)),(13, .junk),(37, .int x.kids.length),(38, .int x.kids.length),(39, .bool false)],st:=[some (.box zc),none,some (.arr 1 (RW init b' x.kids.length))] }) (by kernel_rfl) (by
     simp;rw[aV (YS b3 b' cap x init ES) x.kids.length (by simp[YS])]
     ·rw[aG];simp[YS,hk0,d9 hk0,zc,ptr]
     ·intro i hi;have w2:IntKind.i64.wrap ((i:Int)+1)=i+1:=wrO;have hi0:(i:Int)<x.kids.length:=by omega
      by_cases h0:i=0
      ·subst h0;have hl:(init.length+1)*8≤140737488355328:=by omega
       have hR:RW init b' 0++[[.lit (.pointer (some ⟨b',0,none⟩))]]=RW init b' 1:=by simpa [ptr]using EZ init b' 0
       simp[YS,zc,ptr,UY,hi,hET,hEL,hl,hR]
      ·have hl:=hlim i (by omega);have hT:(RW init b' i).take (init.length+i)=RW init b' i:=zX (by rw[MP];omega);have hR:RW init b' i++[[.lit (.pointer (some ⟨b',i*5,none⟩))]]=RW init b' (i+1):=by simpa [ptr]using EZ init b' i
       simp[YS,h0,d9 h0,zc,ptr,w2,hi,hT,MP,hl,hR,← Nat.add_assoc]) g10) ?_
    rintro _ a11 w11 ⟨rfl,g11⟩;simp only[gK,Exit.then,Exit.inBlock];refine⟨n-1,by omega,init++bB b' 0 x.kids,[],K++bB b' 0 x.kids,?_,yO _ hb3,?_,by omega,?_⟩
    ·intro k hk
     rcases zV.1 hk with h|h
     ·exact yO _ (hsub k (by simp[h]))
     ·exact zA3 _ h
    ·rw[yF,List.sum_append,lU];omega
    ·have g12:=g11.settle [2,3,4]
     have hR:List.map (fun k:(Nat×Nat)×Ex=>[ptr k.1]) (init++bB b' 0 x.kids++[])=RW init b' x.kids.length:=by
      rw[zO,yF,lV];simp[RW]
     have hl:(init++bB b' 0 x.kids).length=init.length+x.kids.length:=by rw[zM,lW]
     simp only[SL,hR,hl]
     have hs:Av.settle [2,3,4] 0 (aQ [(0, .junk),(2, .own 0 0),(3, .i (ptr (b3,0))),(4, .osl 2 1 0 (init.length+x.kids.length)),(5, .i (.iref [.int x.kind, .int x.col, .bool x.val.null, .int x.val.n, .lit (.slice (some ⟨b',0,none⟩) x.kids.length cap)])),(6, .int (x.kids.length-1)),(13, .junk),(37, .int x.kids.length),(38, .int x.kids.length),(39, .bool false)]) (aS [some (.box zc),none,some (.arr 1 (RW init b' x.kids.length))])={ env:=[(2, .own 0 0),(3, .i (ptr (b3,0))),(4, .osl 1 1 0 (init.length+x.kids.length))],st:=[some (.box zc),some (.arr 1 (RW init b' x.kids.length))] }:=by
      simp[zc,ptr]
     rw[hs]at g12
     exact g12.envTo (by
      intro t;simp only[aQ];by_cases h2:t=2
      ·subst h2;simp
      by_cases h3:t=3
      ·subst h3;simp
      by_cases h4:t=4
      ·subst h4;simp
      ·simp[h2,h3,h4])
theorem PT {w:World} {m:Mem} {φ:Pl} {st:Store} {t:TypeId} {a v:AV} {x:Value} (hi:Inv w m φ st) (hr:Rep m φ a x) (h:CL C1 t a st=some v):∃ y,(Instr.loadAt t x).run C1.P w=.ok y w∧Rep m φ v y:=by
 obtain⟨ad,y,k1,k2,k3⟩:=qX hi hr h;exact⟨y,by subst k1;simpa [Instr.loadAt,Instr.sureAddr]using k2,k3⟩
theorem AAC {w:World} {m:Mem} (h:jT w m):Inv w m (fun _=>none) (aS []):=⟨h,fun id blk e=>(by simp[aS]at e),fun i j b b' n n' b1 b2 f e=>(by simp[aS]at e),fun _ _ _ _ e=>(by cases e)⟩
theorem wG {e:Ex} (he:e.size<1000000000) {wi:World} {mi:Mem} {φ:Pl} {vs:List Value} (hi:Inv wi mi φ (aS [])) (hr:RepL mi φ [.i (.iref e.cells)] vs) (h0:∀ id,φ id≠none→id<0) :
 Calls Try.prog 53 vs.toArray wi (dC wi mi φ (.i (.agg e.cells)) []):=by
 obtain rfl:φ=fun _=>none:=by
  funext id
  cases h:φ id with
  | none=>rfl
  | some p=>exact absurd (h0 id (by rw[h];simp)) (xJ _)
 cases hr with
 | cons h1 h2 =>
  cases h2
  have hp:=h1
  cases h1 with
  | i h1=>cases h1 with
   | iref ha =>
    refine MB he hi fun w' hs hw=>?_
    obtain⟨y,k1,k2⟩:=PT (t:=74) (v:=.i (.agg e.cells)) (hi.later hs hw) hp (by rw[Ex.aB];simp)
    cases k2 with
    | i k2=>exact⟨y,k1,k2⟩
theorem TS {e:Ex} (he:e.size<1000000000) {w:World} {m:Mem} {φ:Pl} {vs:List Value} {es:List (List IV)} {j:Nat} (hes:es[j]?=some e.cells) (hi:Inv w m φ (aS [some (.arr 5 es)])) (hr:RepL m φ [.ownE 0 5 j 0] vs) (h0:∀ id,φ id≠none→id<1) :
 Calls Try.prog 53 vs.toArray w (dC w m φ (.i (.agg e.cells)) [some (.arr 5 es)]):=by
 cases hr with
 | cons h1 h2 =>
  cases h2
  have hp:=h1
  cases h1 with
  | ownE hφ =>
   refine(MB he (AAC hi.mem) fun w' hs hw=>?_).mono ?_
   ·obtain⟨y,k1,k2⟩:=PT (t:=74) (v:=.i (.agg e.cells)) (hi.later hs hw) hp (by
     have h5:=hes;rw[← fE]at h5
     rw[Ex.aB]at h5 ⊢;simp[h5])
    cases k2 with
    | i k2=>exact⟨y,k1,k2⟩
   ·rintro en w' ⟨v,m',φ',rfl,j1,j2,j3,j4⟩;have free0:∀ b,fK (fun _=>none) b:=fun b id r n e=>by cases e
    have hsame:∀ f,f<w.heap.size→w'.heap[f]?=w.heap[f]?:=fun f hf=>j3.block f hf (free0 f)
    refine⟨v,m',φ,rfl,?_,⟨j2.mem,fun id blk hb=>?_,hi.inj,fun id b n f e ho=>zK (hi.low id b n f e ho) j3.size⟩,⟨j3.size,j3.os,j3.tape,j3.output,fun b hb' _=>hsame b hb',j3.mle,fun b hb' _ o=>j3.mnew b hb' (free0 b) o, .refl _,fun _ _ _ _ e ho=>.inr (fK.not e ho)⟩,h0⟩
    ·cases j1 with
     | i j1=>exact .i j1
    ·obtain⟨b,n,k1,k2,k3⟩:=hi.live id blk hb;exact⟨b,n,k1,⟨k2.1,fun f hf=>zK (k2.2 f hf) j3.size⟩,k3.mono k2.1 (fun f hf=>hsame f (k2.2 f hf)) j3.mle (.refl _) fun f hf o=>j3.mnew f (k2.2 f hf) (free0 f) o⟩
end Go.Proofs.Ytjdfjgmebalaaaa
namespace Go.Av.V
open Go.Av
def RL (w:World) (b n:Nat):Prop:=∃ (vs:List Value) (T:TypeId),w.heap[b]?=some (.cells vs.toArray T (0,0))∧n≤vs.length∧∀ v∈vs,v.oneCell'=true
theorem RL.lt {w:World} {b n:Nat} (h:RL w b n):b<w.heap.size:=by
 obtain⟨vs,T,e,_⟩:=h;exact(zN.1 e).1
abbrev Nd:=Ex×Option (Nat×Nat)
structure PF (B:Nat) (w:World) (m:Mem) (φ:Pl) (b o:Nat) (y:Nd):Prop where
 new:B≤b
 row:∃ (vs:List Value) (T:TypeId),w.heap[b]?=some (.cells vs.toArray T (0,0))
 free:fK φ b
 cel:IAt m b o y.1.cells
 lit:∀ b' cap,y.2=some (b',cap)→m b (o+4)=some (.slice (some ⟨b',0,none⟩) y.1.kids.length cap)∧B≤b'∧fK φ b'∧RL w b' (5*cap)
abbrev KL:=List ((Nat×Nat)×Nd)
theorem PF.lt {B:Nat} {w:World} {m:Mem} {φ:Pl} {b o:Nat} {x:Nd} (h:PF B w m φ b o x):b<w.heap.size:=by
 obtain⟨vs,T,e⟩:=h.row;exact(zN.1 e).1
theorem PF.adv {B:Nat} {w w':World} {m m':Mem} {φ φ':Pl} {b o:Nat} {x:Nd} (h:PF B w m φ b o x) (k:Adv w m φ w' m' φ'):PF B w' m' φ' b o x:=by
 refine⟨h.new,?_,k.range h.lt h.free,h.cel.mono k.mle,fun b' cap e=>?_⟩
 ·rw[k.block b h.lt h.free];exact h.row
 ·obtain⟨h1,h2,h3,h4⟩:=h.lit b' cap e;refine⟨k.mle _ _ _ h1,h2,k.range h4.lt h3,?_⟩;obtain⟨vs,T,e1,e2⟩:=h4;exact⟨vs,T,by rw[k.block b' (zN.1 e1).1 h3];exact e1,e2⟩
structure GG (wi:World) (mi:Mem) (nt:Nat) (ok:Nat→Prop) (K:KL) (env:Nat→AV) (st:Store) (a:Act) (w:World):Prop where
 out:∃ m φ,Inv w m φ st∧(∀ t,Rep m φ (env t) (a.tmps.getD t undef))∧Adv wi mi (fun _=>none) w m φ∧(∀ id,φ id≠none→ok id)∧∀ k∈K,PF wi.heap.size w m φ k.1.1 k.1.2 k.2
 size:nt≤a.tmps.size
 defers:a.defers=[]
section
variable {C:Ctx} {wi:World} {mi:Mem} {nt:Nat}
theorem GG.ofA {ok ok':Nat→Prop} {K:KL} {env env':Nat→AV} {st st':Store} {a a':Act} {w w':World} {m:Mem} {φ:Pl} (h3:Adv wi mi (fun _=>none) w m φ) (h5:∀ k∈K,PF wi.heap.size w m φ k.1.1 k.1.2 k.2) (h:ARel [] w m φ nt ok' env' st' a' w'):GG wi mi nt ok' K env' st' a' w':=by
 obtain⟨⟨m',φ',k1,k2,k3,k4,_⟩,k5,k6⟩:=h;exact⟨⟨m',φ',k1,k2,h3.trans k3,k4,fun k hk=>(h5 k hk).adv k3⟩,k5,k6⟩
theorem GG.code (hC:CtxOk C) {call:cZ} (hcall:CallOk C call) (hdraw:MQ C call) {G:List Nat} {n:Nat} {c:Code} {S S':AS} {e:AExit} {a:Act} {w:World} {K:KL} (hc:codeOk nt c=true) (hx:exec C call G S.st.length n c S=some (e,S')) (h:GG wi mi nt (fun id=>id<S.st.length) K (aQ S.env) (aS S.st) a w) (hnr:bC c=true:=by rfl) :
 c.wp C.P (fun e' a' w'=>e'=gK e∧GG wi mi nt (fun id=>id<S'.st.length) K (aQ S'.env) (aS S'.st) a' w') a w:=by
 obtain⟨⟨m,φ,h1,h2,h3,h4,h5⟩,h6,h7⟩:=h;refine wpIn_wide.1 (wpIn_mono (bL (ρ:=none) hC hcall hdraw h4 n c S S' e [] a w hc (.inl rfl) hx ⟨⟨⟨m,φ,h1,h2, .refl _ _ _,h4, .nil _ _ _⟩,h6,h7⟩,zQ _⟩) ?_);rintro e' a' w' ⟨rfl,ds,k,kd⟩;have kd:=kd hnr;subst kd;exact⟨rfl, .ofA (ok:=fun _=>True) (env:=fun _=>.junk) (st:=st0) (a:=a) h3 h5 k.1⟩
where st0:Store:=fun _=>none
theorem GG.ops (hC:CtxOk C) {call:cZ} (hcall:CallOk C call) {ops:Array Oper} {Q:Exit→Act→World→Prop} {base:Nat} {js:List Nat} {K:KL} (hs:∀ o∈ops,gI nt o=true) {os:List Oper} {i:Nat} {R R':RS} {a:Act} {w:World} (hl:∀ j,j<os.length→os[j]?=ops[i+j]?) (hx:bT C call ops.toList false base os i R=some R')
 (h:GG wi mi nt (GU base fun j=>j<i) K R.env R.st a w) (hQ:∀ a' w',GG wi mi nt (GU base fun j=>j<i+os.length) K R'.env R'.st a' w'→wpOpsIn (FR none) 0 C.P ops Q js a' w'):wpOpsIn (FR none) 0 C.P ops Q (List.range' i os.length++js) a w:=by
 obtain⟨⟨m,φ,h1,h2,h3,h4,h5⟩,h6,h7⟩:=h;exact gD hC hcall hs os i R R' a w hl hx ⟨⟨m,φ,h1,h2, .refl _ _ _,h4, .nil _ _ _⟩,h6,h7⟩ fun a' w' k=>hQ a' w' (.ofA (ok:=fun _=>True) (env:=fun _=>.junk) (st:=fun _=>none) (a:=a) h3 h5 k)
theorem GG.settle {ok:Nat→Prop} {K:KL} {env:Nat→AV} {st:Store} {a:Act} {w:World} (G:List Nat) (h:GG wi mi nt ok K env st a w) :
 GG wi mi nt (fun id=>id<(settle G 0 env st).st.length) K (aQ (settle G 0 env st).env) (aS (settle G 0 env st).st) a w:=by
 obtain⟨⟨m,φ,hi,henv,hadv,hok,hK⟩,hsz,hdf⟩:=h;unfold Av.settle qN;generalize hids:fT st 0 (tL env G)=ids;have hd:ids.Nodup:=by rw[← hids];exact eQ _ _ _
 have hfree:∀ b,fK φ b→fK (dR ids φ) b:=by
  intro b hb id r n e;unfold dR at e
  cases hx:ids[id]? with
  | none=>rw[hx]at e;cases e
  | some j=>rw[hx]at e;exact hb j r n e
 refine⟨⟨m,dR ids φ,hi.keep hd,?_,hadv.keep (fun id h=>absurd rfl h) (fun j hj=>absurd hj (xJ j)),?_,fun k hk=>⟨(hK k hk).new,(hK k hk).row,hfree _ (hK k hk).free,(hK k hk).cel,fun b' cap e=>by
  obtain⟨h1,h2,h3,h4⟩:=(hK k hk).lit b' cap e
  exact⟨h1,h2,hfree _ h3,h4⟩⟩⟩,hsz,hdf⟩
 ·intro t
  have key:∀ G:List Nat,Rep m (dR ids φ) (aQ (jQ (fJ ids) env G) t) (a.tmps.getD t undef):=by
   intro G
   induction G with
   | nil=>exact .junk _
   | cons u G ih =>
    simp only[jQ,aQ];by_cases e:t=u
    ·subst e;simp only[if_true];exact(henv t).ren (jI ids φ)
    ·simp only[e,if_false];exact ih
  exact key G
 ·intro id hne;simp only[fA];unfold dR at hne
  cases hx:ids[id]? with
  | none=>rw[hx]at hne;exact absurd rfl hne
  | some i=>exact(zY.1 hx).1
theorem GG.see {ok:Nat→Prop} {K:KL} {env:Nat→AV} {st:Store} {a:Act} {w:World} {u b o:Nat} {x:Nd} (h:GG wi mi nt ok K env st a w) (hu:env u=.i (.lit (.pointer (some ⟨b,o,none⟩)))) (hk:((b,o),x)∈K):GG wi mi nt ok K (upd env u (.i (.iref x.1.cells))) st a w:=by
 obtain⟨⟨m,φ,hi,henv,hadv,hok,hK⟩,hsz,hdf⟩:=h;refine⟨⟨m,φ,hi,fun t=>?_,hadv,hok,hK⟩,hsz,hdf⟩;simp only[upd];split
 ·rename_i e;subst e;have:=henv t;rw[hu]at this;rw[this.bJ];exact .i (.iref (hK _ hk).cel)
 ·exact henv t
theorem GG.envTo {ok:Nat→Prop} {K:KL} {env env':Nat→AV} {st:Store} {a:Act} {w:World} (h:GG wi mi nt ok K env st a w) (he:∀ t,env' t=.junk∨env' t=env t):GG wi mi nt ok K env' st a w:=by
 obtain⟨⟨m,φ,hi,henv,hadv,hok,hK⟩,hsz,hdf⟩:=h;refine⟨⟨m,φ,hi,fun t=>?_,hadv,hok,hK⟩,hsz,hdf⟩
 rcases he t with e|e
 ·rw[e];exact .junk _
 ·rw[e];exact henv t
theorem GG.ok' {ok ok':Nat→Prop} {K:KL} {env:Nat→AV} {st:Store} {a:Act} {w:World} (h:GG wi mi nt ok K env st a w) (he:∀ id,ok id→ok' id):GG wi mi nt ok' K env st a w:=by
 obtain⟨⟨m,φ,hi,henv,hadv,hok,hK⟩,hsz,hdf⟩:=h;exact⟨⟨m,φ,hi,henv,hadv,fun id h=>he id (hok id h),hK⟩,hsz,hdf⟩
end
section
variable {C:Ctx} {wi:World} {mi:Mem}
theorem uE {w:World} {m:Mem} {φ:Pl} {st:Store} {K:KL} {b o:Nat} {y:Nd} {x:Ex} (hyx:y.1=x) {v:Value} {t:TypeId} (ht:iA C.P t=some 1) (hi:Inv w m φ st) (hst:ABE st) (hadv:Adv wi mi (fun _=>none) w m φ) (hmi:jT wi mi)
 (hK:∀ k∈K,PF wi.heap.size w m φ k.1.1 k.1.2 k.2) (hk:((b,o),y)∈K) (hnl:∀ k∈K,k.1=(b,o)→k.2.2=none) (hv:IRep m (.isl (Ex.aA x.kids)) v) :
 ∃ w' m',(Instr.storeAt t (.pointer (some ⟨b,o+4,none⟩)) v).run C.P w=.ok () w'∧Inv w' m' φ st∧Adv wi mi (fun _=>none) w' m' φ∧(∀ k∈K,PF wi.heap.size w' m' φ k.1.1 k.1.2 k.2) ∧
   IAt m' b o [.int x.kind, .int x.col, .bool x.val.null, .int x.val.n, .lit v]∧(∀ c n,RL w c n→RL w' c n):=by
 have hp:=hK _ hk;subst hyx;obtain⟨u,hx⟩:=uS hp.cel;obtain⟨vs,T,hrow⟩:=hp.row;have hone:=o9 hv
 have hcells:v.cells.toList=[v]:=by
  rcases iX hv with ⟨_,ao,cap,rfl⟩|⟨_,b',off,k',cap,rfl,_⟩<;>rfl
 have hcsz:v.cells.size=1:=by rw[← Array.length_toList,hcells];rfl
 have hlen:o+4<vs.length:=by
  have:=hi.mem _ _ _ hx.c4;simp only[World.cell?,hrow,xM]at this;have h2:vs.toArray[o+4]?=some u:=by simpa using this
  have:=(zN.1 h2).1;simpa using this
 have hrun:=gT (P:=C.P) (t:=t) (v:=v) (off:=o+4) (by rw[hcsz];exact ht) hrow (by omega) (by rw[hcells];simpa using hone);rw[hcells,hcsz]at hrun;generalize hvs':vs.take (o+4)++[v]++vs.drop (o+4+1)=vs' at hrun;have hheap:(w.setRow b vs'.toArray).heap[b]?=some (.cells vs'.toArray T (0,0)):=setRow_heap w b _ _ T (0,0) hrow;have hother:∀ k,k≠b→(w.setRow b vs'.toArray).heap[k]?=w.heap[k]?:=fun k hk=>setRow_other w b k _ hk
 have hget:∀ j,vs'[j]?=if j=o+4 then some v else vs[j]?:=by
  intro j;subst hvs'
  have hs:vs.take (o+4)++[v]++vs.drop (o+4+1)=vs.set (o+4) v:=by
   rw[List.set_eq_take_append_cons_drop];simp[hlen]
  rw[hs,List.getElem?_set];by_cases e:o+4=j
  ·subst e;simp[hlen]
  ·simp[e,Ne.symm e]
 have hall:(∀ u∈vs,u.oneCell'=true)→∀ u∈vs',u.oneCell'=true:=by
  intro h u hu;obtain⟨j,hj⟩:=List.getElem?_of_mem hu;rw[hget]at hj;split at hj
  ·injection hj with hj;subst hj;exact hone
  ·exact h u (zT hj)
 refine⟨w.setRow b vs'.toArray,turn m b (o+4) v,?_,?_,?_,?_,?_,?_⟩
 ·simp only[Instr.storeAt,Instr.sureAddr,Sem.run_bind,Sem.run_pure,Result.andThen_ok];exact hrun
 ·refine⟨?_,?_,hi.inj,fun i b n f e ho=>by simpa [World.setRow]using hi.low i b n f e ho⟩
  ·intro b1 o1 q hq;unfold turn at hq;by_cases e1:b1=b
   ·subst e1;simp only[World.cell?,hheap,xM]
    have:vs'.toArray[o1]?=some q:=by
     rw[List.getElem?_toArray,hget];split at hq
     ·rename_i e;rw[if_pos e.2];exact hq
     ·rename_i e;have e2:o1≠o+4:=fun h=>e ⟨rfl,h⟩
      rw[if_neg e2];have:=hi.mem _ _ _ hq;simp only[World.cell?,hrow,xM]at this;simpa using this
    simpa using this
   ·rw[if_neg (fun h=>e1 h.1)]at hq;have:=hi.mem _ _ _ hq;simp only[World.cell?]at this ⊢;rw[hother b1 e1];exact this
  ·intro id blk hb;obtain⟨b2,n2,h1,h2,h3⟩:=hi.live id blk hb;have hne:b2≠b:=fun e=>hp.free id b2 n2 h1 (by rw[← e];exact h2.1)
   refine⟨b2,n2,h1,⟨h2.1,fun f hf=>by simpa [World.setRow]using h2.2 f hf⟩,h3.MR (hst id blk hb) (hother b2 hne) fun o' ho'=>?_⟩;unfold turn;rw[if_neg (fun h=>hne h.1)];exact ho'
 ·refine⟨by simpa [World.setRow]using hadv.size,hadv.os,⟨hadv.tape.tape,hadv.tape.fwd⟩,hadv.output,?_,?_,?_,hadv.ple,hadv.pnew⟩
  ·intro k hk hn;rw[hother k (by have h3:wi.heap.size≤b:=hp.new;omega)];exact hadv.block k hk hn
  ·intro b1 o1 q hq;have h1:=hadv.mle _ _ _ hq;unfold turn;rw[if_neg ?_];· exact h1
   rintro⟨rfl,_⟩;have h2:=hmi _ _ _ hq;have h3:wi.heap.size≤b1:=hp.new;simp only[World.cell?]at h2
   cases h4:wi.heap[b1]? with
   | none=>rw[h4]at h2;cases h2
   | some z=>have:=(zN.1 h4).1;omega
  ·intro k hk hn o';have h3:wi.heap.size≤b:=hp.new;unfold turn;rw[if_neg (fun h=>by have:=h.1;omega)];exact hadv.mnew k hk hn o'
 ·intro k hk;have h:=hK k hk;have hvl:vs'.length=vs.length:=by subst hvs';simp;omega
  refine⟨h.new,?_,h.free,VC hx hv _ _ _ h.cel,fun b' cap e=>?_⟩
  ·by_cases e:k.1.1=b
   ·rw[e];exact⟨vs',T,hheap⟩
   ·rw[hother _ e];exact h.row
  ·obtain⟨h1,h2,h3,h4⟩:=h.lit b' cap e;refine⟨?_,h2,h3,?_⟩
   ·unfold turn;rw[if_neg]
    ·exact h1
    ·rintro⟨e1,e2⟩;have:=hnl k hk (by rw[← e1,show o=k.1.2 by omega]);rw[this]at e;cases e
   ·obtain⟨vs2,T2,e1,e2,e3⟩:=h4;by_cases eb:b'=b
    ·subst eb;rw[hrow]at e1;injection e1 with e1;injection e1 with e1 _;have:vs=vs2:=by simpa using congrArg Array.toList e1
     subst this;exact⟨vs',T,hheap,by omega,hall e3⟩
    ·exact⟨vs2,T2,by rw[hother _ eb];exact e1,e2,e3⟩
 ·have low:∀ i,i<4→∀ q,m b (o+i)=some q→turn m b (o+4) v b (o+i)=some q:=by
   intro i hi q hq;unfold turn;rw[if_neg (by rintro⟨_,h⟩;omega)];exact hq
  refine .cons (by simpa using low 0 (by omega) _ (by simpa using hx.c0)) (.lit _) rfl (.cons (low 1 (by omega) _ hx.c1) (.lit _) rfl (.cons (low 2 (by omega) _ hx.c2) (.lit _) rfl (.cons (low 3 (by omega) _ hx.c3) (.lit _) rfl (.cons ?_ (.lit _) hone (.nil _ _)))));unfold turn;rw[if_pos ⟨rfl,rfl⟩]
 ·rintro c n ⟨vs2,T2,e1,e2,e3⟩;have hvl:vs'.length=vs.length:=by subst hvs';simp;omega
  by_cases eb:c=b
  ·subst eb;rw[hrow]at e1;injection e1 with e1;injection e1 with e1 _;have:vs=vs2:=by simpa using congrArg Array.toList e1
   subst this;exact⟨vs',T,hheap,by omega,hall e3⟩
  ·exact⟨vs2,T2,by rw[hother _ eb];exact e1,e2,e3⟩
end
def bB (b:Nat):Nat→List Ex→KL
 | _,[]=>[]
 | o,x::l=>((b,o),(x,none))::bB b (o+5) l
theorem pI {b:Nat}:∀ {o:Nat} {l:List Ex} {i:Nat} {x:Ex},l[i]?=some x→((b,o+5*i),(x,none))∈bB b o l
 | _,[],_,_,h=>by simp at h
 | o,a::l,0,x,h=>by simp at h;subst h;simp[bB]
 | o,a::l,i+1,x,h=>by
  have:=pI (b:=b) (o:=o+5) (l:=l) (i:=i) (x:=x) (by simpa using h);simp only[bB,zS];exact .inr (by rw[show o+5*(i+1)=o+5+5*i by omega];exact this)
theorem lX {m:Mem} {b:Nat}:∀ {o k:Nat} {l:List Ex},IElems m b o k (Ex.aA l)→∀ p∈bB b o l,p.1.1=b∧p.2.2=none∧IAt m p.1.1 p.1.2 p.2.1.cells
 | _,_,[],_,p,hp=>by simp[bB]at hp
 | o,k,a::l,h,p,hp=>by
  obtain⟨rfl,h1,h2⟩:=kR h;simp only[bB,zS]at hp
  rcases hp with rfl|hp
  ·exact⟨rfl,rfl,h1⟩
  ·exact lX h2 p hp
section
variable {C:Ctx} {wi:World} {mi:Mem}
theorem JI {w:World} {m:Mem} {φ:Pl} {st st':Store} {K:KL} {id:Nat} {v:Value} {ks:List Ex} (hks:ks≠[]) (hi:Inv w m φ st) (hr:Rep m φ (.osl id 5 0 ks.length) v) (hid:st id=some (.arr 5 (Ex.aA ks))) (hadv:Adv wi mi (fun _=>none) w m φ)
 (hK:∀ k∈K,PF wi.heap.size w m φ k.1.1 k.1.2 k.2) (hst:∀ i blk,st' i=some blk→i≠id∧st i=some blk∧eZ blk) :
 ∃ b' cap m1 φ2,v=.slice (some ⟨b',0,none⟩) ks.length cap∧Inv w m1 φ2 st'∧Adv wi mi (fun _=>none) w m1 φ2∧(∀ k∈K++bB b' 0 ks,PF wi.heap.size w m1 φ2 k.1.1 k.1.2 k.2)∧IRep m1 (.isl (Ex.aA ks)) v ∧
   (∀ i,st' i≠none→φ2 i=φ i)∧(∀ i,φ2 i≠none→st' i≠none) ∧
   (wi.heap.size≤b'∧fK φ2 b'∧RL w b' (5*cap))∧(∀ f,fK φ f→f≠b'):=by
 have hlen:0<ks.length:=xW.2 hks
 have hfr:nS st (.osl id 5 0 ks.length)=some (.isl (Ex.aA ks),upd st id (some (.frz 5 (Ex.aA ks)))):=by
  simp[nS,frz,sW,pV,hid,tst,window,bnd,gJ,zX]
 obtain⟨m1,k1,k2,k3⟩:=gX hi hr hfr
 cases hr with
 | @osl _ _ _ _ cap b' n' ao eφ hlc hcap ha1 ha2 =>
  have hao:=ha1 (by omega);subst hao;obtain⟨hb,hok⟩:=bX hi eφ hid
  have hrl:RL w b' (5*cap):=by
   cases hok with|arr h1 h2 _ _ _ _ _ _ h9=>exact⟨_,_,h1,by rw[h2];simpa using hcap,h9⟩
  have hrow:∃ (vs:List Value) (T:TypeId),w.heap[b']?=some (.cells vs.toArray T (0,0)):=by
   obtain⟨vs,T,e,_⟩:=hrl;exact⟨vs,T,e⟩
  have hnew:wi.heap.size≤b':=by
   rcases hadv.pnew id b' n' b' eφ hb.1 with h|h
   ·exact h
   ·exact absurd (fun id b n e=>by cases e) h
  have dec:∀ i,st' i=none∨st' i≠none:=fun i=>by cases st' i<;>simp
  let φ2:Pl:=fun i=>match st' i with
   | some _=>φ i
   | none=>none
  have hφ2:∀ i,st' i≠none→φ2 i=φ i:=fun i h=>by
   show(match st' i with|some _=>φ i|none=>none)=φ i
   cases e:st' i with
   | none=>exact absurd e h
   | some _=>rfl
  have hφ2n:∀ i,φ2 i≠none→st' i≠none:=fun i h e=>h (by
   show(match st' i with|some _=>φ i|none=>none)=none
   rw[e])
  have hsub:∀ i p,φ2 i=some p→φ i=some p∧st' i≠none:=fun i p h=>by
   have h1:=hφ2n i (by rw[h];simp);exact⟨by rw[← hφ2 i h1];exact h,h1⟩
  have hA1:=hadv.trans k3
  have hfree2:fK φ2 b':=by
   intro i r n e ho;obtain⟨h1,h2⟩:=hsub _ _ e
   cases hb2:st' i with
   | none=>exact h2 hb2
   | some blk =>
    obtain⟨q1,q2,_⟩:=hst i blk hb2;exact q1 (hi.inj i id r b' n n' blk _ b' q2 hid h1 eφ ho hb.1)
  refine⟨b',cap,m1,φ2,by simp,?_,?_,?_,k1,hφ2,hφ2n,⟨hnew,hfree2,hrl⟩,fun f hf e=>hf id b' n' eφ (e ▸ hb.1)⟩
  ·refine⟨k2.mem,?_,?_,fun i b n f e ho=>k2.low i b n f (hsub _ _ e).1 ho⟩
   ·intro i blk hb';obtain⟨h1,h2,h3⟩:=hst i blk hb';have h4:upd st id (some (.frz 5 (Ex.aA ks))) i=some blk:=by simp[upd,h1,h2]
    obtain⟨b,n,q1,q2,q3⟩:=k2.live i blk h4;exact⟨b,n,by rw[hφ2 i (by rw[hb'];simp)];exact q1,q2,q3.MR h3 rfl fun o h=>h⟩
   ·intro i j b bx n n2 b1 b2 f h1 h2 h3 h4 o1 o2;obtain⟨q1,q2,_⟩:=hst i b1 h1;obtain⟨r1,r2,_⟩:=hst j b2 h2;exact hi.inj i j b bx n n2 b1 b2 f q2 r2 (hsub _ _ h3).1 (hsub _ _ h4).1 o1 o2
  ·refine⟨hA1.size,hA1.os,hA1.tape,hA1.output,hA1.block,hA1.mle,hA1.mnew,(fun _ _ _ h=>by cases h),?_⟩;intro i b n f h2 ho;exact hA1.pnew i b n f (hsub _ _ h2).1 ho
  ·intro k hk
   rcases zV.1 hk with hk|hk
   ·have h:=hK k hk
    exact⟨h.new,h.row,fun i r n e=>h.free i r n (hsub _ _ e).1,h.cel.mono k3.mle,fun b2 c2 e=>by
     obtain⟨h1,h2,h3,h4⟩:=h.lit b2 c2 e
     exact⟨k3.mle _ _ _ h1,h2,fun i r n e=>h3 i r n (hsub _ _ e).1,h4⟩⟩
   ·have hel:IElems m1 b' 0 5 (Ex.aA ks):=by
     rcases iX k1 with ⟨e1,_⟩|⟨_,b2,off,k',cap',hv,hel,_⟩
     ·exact absurd (by cases ks with|nil=>rfl|cons a l=>simp[Ex.aA]at e1) hks
     ·injection hv with q1 _ _;injection q1 with q1;injection q1 with q1 q2;subst q1;subst q2
      cases ks with
      | nil=>exact absurd rfl hks
      | cons a l=>obtain⟨rfl,_⟩:=kR hel;exact hel
    obtain⟨e1,e3,e2⟩:=lX hel k hk;exact⟨by rw[e1];exact hnew,by rw[e1];exact hrow,by rw[e1];exact hfree2,e2,fun b2 c2 e=>by rw[e3]at e;cases e⟩
end
section
variable {C:Ctx} {wi:World} {mi:Mem} {nt:Nat}
theorem GG.gG (hS:SoundOk C) {G:List Nat} {c:Code} {S S':AS} {e:AExit} {a:Act} {w:World} {K:KL} (hc:codeOk nt c=true) (hx:dY C G S.st.length c S=some (e,S')) (h:GG wi mi nt (fun id=>id<S.st.length) K (aQ S.env) (aS S.st) a w) (hnr:bC c=true:=by rfl) :
 c.wp C.P (fun e' a' w'=>e'=gK e∧GG wi mi nt (fun id=>id<S'.st.length) K (aQ S'.env) (aS S'.st) a' w') a w:=by
 obtain⟨n,hn⟩:=(dE _).1 hx;exact GG.code hS.ctx (aY hS) (hS.draw _ (aY hS)) hc hn h hnr
theorem JO {w:World} {m m1:Mem} {φ:Pl} {st st1 st':Store} {K:KL} {id b':Nat} {n':Ext} {blk0:Blk} (hi:Inv w m φ st) (k2:Inv w m1 φ st1) (hA1:Adv wi mi (fun _=>none) w m1 φ) (hle:MLe m m1) (eφ:φ id=some (b',n')) (hid:st id=some blk0)
 (hK:∀ k∈K,PF wi.heap.size w m φ k.1.1 k.1.2 k.2) (hst:∀ i blk,st' i=some blk→i≠id∧st i=some blk∧st1 i=some blk∧eZ blk) :
 ∃ φ2,Inv w m1 φ2 st'∧Adv wi mi (fun _=>none) w m1 φ2∧(∀ k∈K,PF wi.heap.size w m1 φ2 k.1.1 k.1.2 k.2)∧fK φ2 b'∧(∀ i,st' i≠none→φ2 i=φ i)∧(∀ i,φ2 i≠none→st' i≠none):=by
 let φ2:Pl:=fun i=>match st' i with
  | some _=>φ i
  | none=>none
 have hφ2:∀ i,st' i≠none→φ2 i=φ i:=fun i h=>by
  show(match st' i with|some _=>φ i|none=>none)=φ i
  cases e:st' i with
  | none=>exact absurd e h
  | some _=>rfl
 have hφ2n:∀ i,φ2 i≠none→st' i≠none:=fun i h e=>h (by
  show(match st' i with|some _=>φ i|none=>none)=none
  rw[e])
 have hsub:∀ i p,φ2 i=some p→φ i=some p∧st' i≠none:=fun i p h=>by
  have h1:=hφ2n i (by rw[h];simp);exact⟨by rw[← hφ2 i h1];exact h,h1⟩
 refine⟨φ2,⟨k2.mem,?_,?_,fun i b n f e ho=>k2.low i b n f (hsub _ _ e).1 ho⟩,?_,?_,?_,hφ2,hφ2n⟩
 ·intro i blk hb';obtain⟨h1,h2,h4,h3⟩:=hst i blk hb';obtain⟨b,n,q1,q2,q3⟩:=k2.live i blk h4;exact⟨b,n,by rw[hφ2 i (by rw[hb'];simp)];exact q1,q2,q3.MR h3 rfl fun o h=>h⟩
 ·intro i j b bx n n2 b1 b2 f h1 h2 h3 h4 o1 o2;obtain⟨q1,q2,_⟩:=hst i b1 h1;obtain⟨r1,r2,_⟩:=hst j b2 h2;exact hi.inj i j b bx n n2 b1 b2 f q2 r2 (hsub _ _ h3).1 (hsub _ _ h4).1 o1 o2
 ·refine⟨hA1.size,hA1.os,hA1.tape,hA1.output,hA1.block,hA1.mle,hA1.mnew,(fun _ _ _ h=>by cases h),?_⟩;intro i b n f h2 ho;exact hA1.pnew i b n f (hsub _ _ h2).1 ho
 ·intro k hk;have h:=hK k hk
  exact⟨h.new,h.row,fun i r n e=>h.free i r n (hsub _ _ e).1,h.cel.mono hle,fun b2 c2 e=>by
   obtain⟨h1,h2,h3,h4⟩:=h.lit b2 c2 e
   exact⟨hle _ _ _ h1,h2,fun i r n e=>h3 i r n (hsub _ _ e).1,h4⟩⟩
 ·intro i r n e ho;obtain⟨h1,h2⟩:=hsub _ _ e
  cases hb2:st' i with
  | none=>exact h2 hb2
  | some blk =>
   obtain⟨q1,q2,_⟩:=hst i blk hb2;exact q1 (hi.inj i id r b' n n' blk _ b' q2 hid h1 eφ ho (bX hi eφ hid).1.1)
theorem GG.pub {ok ok':Nat→Prop} {K:KL} {env:Nat→AV} {st st':Store} {a:Act} {w:World} {u id:Nat} {e:Ex} (h:GG wi mi nt ok K env st a w) (hu:env u=.own id 0) (hid:st id=some (.box (jV e.cells)))
 (hst:∀ i blk,st' i=some blk→i≠id∧st i=some blk∧eZ blk) (hok:∀ i,st' i≠none→ok' i) :
 ∃ b',(∀ env',(∀ t,env' t=.junk∨(t=u∧env' t=.i (.lit (.pointer (some ⟨b',0,none⟩))))∨(env' t=env t∧iB st' (env t)))→GG wi mi nt ok' (K++[((b',0),(e,none))]) env' st' a w):=by
 obtain⟨⟨m,φ,hi,henv,hadv,_,hK⟩,hsz,hdf⟩:=h;have hr:=henv u;rw[hu]at hr
 have hfr:nS st (.own id 0)=some (.iref e.cells,upd st id (some (.fbox e.cells))):=by
  have h1:∀ (l:List IV) (n:Nat),wS st (n+l.length+1) (jV l)=some (l,[]):=by
   intro l
   induction l with
   | nil=>intro n;simp[jV,wS]
   | cons c l ih=>intro n;simp only[jV,zP];rw[show n+(l.length+1)+1=(n+l.length+1)+1 by omega];simp[wS,frz,bnd,ih n]
  have h2:wS st 18 (jV e.cells)=some (e.cells,[]):=by
   have:=h1 e.cells 12;rw[Ex.bP]at this;exact this
  have h3:uQ st 19 id 0 (some (.box (jV e.cells)))=some (.iref e.cells,[(id, .fbox e.cells)]):=by
   show bnd (wS st 18 (jV e.cells)) (fun p=>tst (decide (0≤p.1.length)) (some (IV.iref (dropE 0 p.1),(id,Blk.fbox p.1)::p.2)))=_;rw[h2];simp[dropE]
  have h4:frz st 20 (.own id 0)=some (.iref e.cells,[(id, .fbox e.cells)]):=by
   show uQ st 19 id 0 (st id)=_;rw[hid];exact h3
  show bnd (frz st 20 (.own id 0)) (fun p=>some (p.1,gJ st p.2))=_;rw[h4];rfl
 obtain⟨m1,k1,k2,k3⟩:=gX hi hr hfr
 cases hr':a.tmps.getD u undef with
 | pointer p =>
  rw[hr']at hr k1
  cases hr with
  | @own _ _ b' n' eφ =>
   obtain⟨hb,hbok⟩:=bX hi eφ hid
   have hrow:∃ (vs:List Value) (T:TypeId),w.heap[b']?=some (.cells vs.toArray T (0,0)):=by
    cases hbok with|box h1=>exact⟨_,_,h1⟩
   have hnew:wi.heap.size≤b':=by
    rcases hadv.pnew id b' n' b' eφ hb.1 with h|h
    ·exact h
    ·exact absurd (fun id b n e=>by cases e) h
   obtain⟨φ2,g1,g2,g3,g4,g5,g6⟩:=JO (wi:=wi) (mi:=mi) (K:=K) hi k2 (hadv.trans k3) k3.mle eφ hid hK (st':=st') fun i blk hb'=>by
    obtain⟨q1,q2,q3⟩:=hst i blk hb';exact⟨q1,q2,by simp[upd,q1,q2],q3⟩
   refine⟨b',fun env' he=>⟨⟨m1,φ2,g1,fun t=>?_,g2,fun i hi'=>hok i (g6 i hi'),?_⟩,hsz,hdf⟩⟩
   ·rcases he t with h|⟨rfl,h⟩|⟨h,hs⟩
    ·rw[h];exact .junk _
    ·rw[h,hr'];exact .i (.lit _)
    ·rw[h];exact hs.rep g5 (henv t)
   ·intro k hk
    rcases zV.1 hk with hk|hk
    ·exact g3 k hk
    ·simp only[xL]at hk;subst hk;refine⟨hnew,hrow,g4,?_,fun b2 c2 e=>by cases e⟩
     cases k1 with|iref hat=>exact hat
 | _=>rw[hr']at hr;cases hr
def UQ (b o:Nat) (x:Ex) (b' cap:Nat):KL:=if x.kids=[]then []else((b,o),(x,some (b',cap)))::bB b' 0 x.kids
theorem GG.turn {ok ok':Nat→Prop} {K:KL} {env:Nat→AV} {st st':Store} {a:Act} {w:World} {u b o:Nat} {x:Ex} {t:TypeId} {r:AV} (h:GG wi mi nt ok K env st a w) (ht:iA C.P t=some 1) (hmi:jT wi mi) (hk:((b,o),(x,none))∈K) (hnl:∀ k∈K,k.1=(b,o)→k.2.2=none) (hu:env u=r)
 (hr:(r=.nils∧x.kids=[]∧∀ i blk,st' i=some blk→st i=some blk)∨∃ id,r=.osl id 5 0 x.kids.length∧x.kids≠[]∧st id=some (.arr 5 (Ex.aA x.kids))∧∀ i blk,st' i=some blk→i≠id∧st i=some blk)
 (hlit:ABE st') (hok:∀ i,st' i≠none→ok' i) :
 ∃ w' b' ao cap,a.tmps.getD u undef=.slice ao x.kids.length cap∧(x.kids≠[]→ao=some ⟨b',0,none⟩)∧(Instr.storeAt t (.pointer (some ⟨b,o+4,none⟩)) (a.tmps.getD u undef)).run C.P w=.ok () w' ∧
   (∀ env',(∀ t,env' t=.junk∨(a.tmps.getD t undef=.pointer (some ⟨b,o,none⟩)∧env' t=.i (.iref [.int x.kind, .int x.col, .bool x.val.null, .int x.val.n, .lit (.slice ao x.kids.length cap)]))∨(env' t=env t∧iB st' (env t))) →
    GG wi mi nt ok' (K++UQ b o x b' cap) env' st' a w')∧(x.kids≠[]→∀ k∈K,k.1.1≠b'∧∀ b2 c2,k.2.2=some (b2,c2)→b2≠b'):=by
 obtain⟨⟨m,φ,hi,henv,hadv,_,hK⟩,hsz,hdf⟩:=h;have hru:=henv u;rw[hu]at hru
 have main:∃ (b':Nat) (ao:Option Addr) (cap:Nat) (m1:Mem) (φ2:Pl),a.tmps.getD u undef=.slice ao x.kids.length cap∧(x.kids≠[]→ao=some ⟨b',0,none⟩)∧Inv w m1 φ2 st'∧Adv wi mi (fun _=>none) w m1 φ2∧(∀ k∈K++bB b' 0 x.kids,PF wi.heap.size w m1 φ2 k.1.1 k.1.2 k.2) ∧
  IRep m1 (.isl (Ex.aA x.kids)) (a.tmps.getD u undef)∧(∀ i,st' i≠none→φ2 i=φ i)∧(∀ i,φ2 i≠none→st' i≠none) ∧
  (x.kids≠[]→(wi.heap.size≤b'∧fK φ2 b'∧RL w b' (5*cap))∧(∀ f,fK φ f→f≠b')):=by
  rcases hr with ⟨rfl,hx,hst⟩|⟨id,rfl,hx,hid,hst⟩
  ·generalize hv:a.tmps.getD u undef=v at hru
   cases hru
   let φ2:Pl:=fun i=>match st' i with
    | some _=>φ i
    | none=>none
   have hφ2:∀ i,st' i≠none→φ2 i=φ i:=fun i h=>by
    show(match st' i with|some _=>φ i|none=>none)=φ i
    cases e:st' i with
    | none=>exact absurd e h
    | some _=>rfl
   have hφ2n:∀ i,φ2 i≠none→st' i≠none:=fun i h e=>h (by
    show(match st' i with|some _=>φ i|none=>none)=none
    rw[e])
   have hsub:∀ i p,φ2 i=some p→φ i=some p:=fun i p h=>by
    have h1:=hφ2n i (by rw[h];simp);rw[← hφ2 i h1];exact h
   refine⟨0,none,0,m,φ2,by rw[hx];rfl,fun h=>absurd hx h,⟨hi.mem,?_,?_,fun i b n f e ho=>hi.low i b n f (hsub _ _ e) ho⟩,?_,?_,?_,hφ2,hφ2n,fun h=>absurd hx h⟩
   ·intro i blk hb';obtain⟨b,n,q1,q2,q3⟩:=hi.live i blk (hst i blk hb');exact⟨b,n,by rw[hφ2 i (by rw[hb'];simp)];exact q1,q2,q3.MR (hlit i blk hb') rfl fun o h=>h⟩
   ·intro i j b bx n n2 b1 b2 f h1 h2 h3 h4 o1 o2;exact hi.inj i j b bx n n2 b1 b2 f (hst i b1 h1) (hst j b2 h2) (hsub _ _ h3) (hsub _ _ h4) o1 o2
   ·refine⟨hadv.size,hadv.os,hadv.tape,hadv.output,hadv.block,hadv.mle,hadv.mnew,(fun _ _ _ h=>by cases h),?_⟩;intro i b n f h2 ho;exact hadv.pnew i b n f (hsub _ _ h2) ho
   ·intro k hk;rw[hx]at hk;simp only[bB,zO]at hk;have h:=hK k hk
    exact⟨h.new,h.row,fun i r n e=>h.free i r n (hsub _ _ e),h.cel,fun b2 c2 e=>by
     obtain⟨h1,h2,h3,h4⟩:=h.lit b2 c2 e
     exact⟨h1,h2,fun i r n e=>h3 i r n (hsub _ _ e),h4⟩⟩
   ·rw[hx];simp only[Ex.aA];exact .isl0 _ _ fun _=>rfl
  ·obtain⟨b',cap,m1,φ2,e1,g1,g2,g3,g4,g5,g6,g7,g8⟩:=JI (wi:=wi) (mi:=mi) (K:=K) hx hi hru hid hadv hK (st':=st') fun i blk hb'=>⟨(hst i blk hb').1,(hst i blk hb').2,hlit i blk hb'⟩
   exact⟨b',_,cap,m1,φ2,e1,fun _=>rfl,g1,g2,g3,g4,g5,g6,fun _=>⟨g7,g8⟩⟩
 obtain⟨b',ao,cap,m1,φ2,e1,e2,g1,g2,g3,g4,g5,g6,g7⟩:=main
 have hkn:∀ (o':Nat) (l:List Ex),∀ k∈bB b' o' l,k.2.2=none:=by
  intro o' l
  induction l generalizing o' with
  | nil=>simp[bB]
  | cons a l ih =>
   intro k hk';simp only[bB,zS]at hk'
   rcases hk' with rfl|hk'
   ·rfl
   ·exact ih _ k hk'
 obtain⟨w',m',k1,k2,k3,k4,k5,k6⟩:=uE (C:=C) (wi:=wi) (mi:=mi) (x:=x) (y:=(x,none)) rfl ht g1 hlit g2 hmi g3 (yO _ hk) (fun k hk' e=>by
  rcases zV.1 hk' with h|h
  ·exact hnl k h e
  ·exact hkn _ _ k h) g4
 have hcell:m' b (o+4)=some (a.tmps.getD u undef):=by
  obtain⟨_,_,_,_,k5⟩:=k5.inv;obtain⟨_,_,_,_,k5⟩:=k5.inv;obtain⟨_,_,_,_,k5⟩:=k5.inv;obtain⟨_,_,_,_,k5⟩:=k5.inv;obtain⟨v5,q1,q2,_,_⟩:=k5.inv;rw[kP q2]at q1;exact q1
 refine⟨w',b',ao,cap,e1,e2,k1,fun env' he=>⟨⟨m',φ2,k2,fun t=>?_,k3,fun i hi'=>hok i (g6 i hi'),?_⟩,hsz,hdf⟩,fun hx k hk'=>?_⟩
 ·rcases he t with h|⟨h1,h⟩|⟨h,hs⟩
  ·rw[h];exact .junk _
  ·rw[h,h1,← e1];exact .i (.iref k5)
  ·rw[h];exact hs.rep g5 (henv t)
 ·intro k hk'
  rcases zV.1 hk' with h|h
  ·exact k4 k (yO _ h)
  ·unfold UQ at h;split at h
   ·cases h
   ·rename_i hx
    rcases zS.1 h with rfl|h
    ·have hp:=k4 ((b,o),(x,none)) (yO _ hk);refine⟨hp.new,hp.row,hp.free,hp.cel,fun b2 c2 e=>?_⟩;injection e with e;injection e with e3 e4;subst e3;subst e4;obtain⟨⟨q1,q2,q3⟩,_⟩:=g7 hx;refine⟨?_,q1,q2,k6 _ _ q3⟩;have:=e2 hx;subst this;rw[hcell,e1]
    ·exact k4 k (zA3 _ h)
 ·obtain⟨_,q4⟩:=g7 hx;have h:=hK k hk';exact⟨q4 _ h.free,fun b2 c2 e=>q4 _ (h.lit b2 c2 e).2.2.1⟩
end
section
variable {C:Ctx} {wi:World} {mi:Mem} {nt:Nat}
theorem GG.SG {ok:Nat→Prop} {K:KL} {env:Nat→AV} {st:Store} {a:Act} {w:World} {t:Nat} {v:Value} (h:GG wi mi nt ok K env st a w) (ht:env t=.i (.lit v)):a.tmps.getD t undef=v:=by
 obtain⟨⟨m,φ,hi,henv,_⟩,_⟩:=h;have:=henv t;rw[ht]at this;exact this.bJ
theorem GG.region (hS:SoundOk C) {id:Nat} {ops:Array Oper} {os1 os2:List Oper} {o:Oper} {K:KL} {S:AS} {a:Act} {w:World} {u b' o':Nat} {x:Ex} {y:Option (Nat×Nat)} {Q:Exit→Act→World→Prop} {PP:(Nat→AV)→Store→Prop} (hops:ops.toList=os1++(os2++[o])) (hs:∀ o∈ops,gI nt o=true)
 (g:GG wi mi nt (fun id=>id<S.st.length) K (aQ S.env) (aS S.st) a w) (hk:((b',o'),(x,y))∈K)
 (h:∃ R1,bT C (aH C) ops.toList false S.st.length os1 0 { env:=aQ S.env,st:=aS S.st,log:=[] }=some R1∧R1.env u=.i (.lit (.pointer (some ⟨b',o',none⟩))) ∧
  ∃ R2,bT C (aH C) ops.toList false S.st.length os2 os1.length { env:=upd R1.env u (.i (.iref x.cells)),st:=R1.st,log:=R1.log }=some R2∧PP R2.env R2.st)
 (hfin:∀ env st a' w',PP env st→GG wi mi nt (fun _=>True) K env st a' w'→wpOpIn (FR none) 0 C.P ops Q (os1.length+os2.length) (fun a w=>wpOpsIn (FR none) 0 C.P ops Q [] a w) a' w'):(Code.region id ops false).wp C.P Q a w:=by
 obtain⟨R1,h1,h2,R2,h3,h4⟩:=h;refine oU ?_;have hsz:ops.size=os1.length+(os2.length+1):=by rw[← Array.length_toList,hops];simp
 have hget:∀ j,ops[j]?=(os1++(os2++[o]))[j]?:=fun j=>by rw[← hops,yB]
 rw[xI,hsz,show List.range' 0 (os1.length+(os2.length+1))=List.range' 0 os1.length++(List.range' os1.length os2.length++[os1.length+os2.length])by
  rw[← List.range'_append_1,← List.range'_append_1];simp]
 have hcall:=aY hS;refine GG.ops hS.ctx hcall hs (R:={ env:=aQ S.env,st:=aS S.st,log:=[] }) (base:=S.st.length) (i:=0) (fun j hj=>?_) h1 (g.ok' fun id h=>.inl h) fun a1 w1 g1=>?_
 ·rw[hget,zL,yU hj]
 ·have g2:=g1.see (u:=u) h2 hk;rw[zL]at g2;refine GG.ops hS.ctx hcall hs (R:={ env:=upd R1.env u (.i (.iref x.cells)),st:=R1.st,log:=R1.log }) (base:=S.st.length) (fun j hj=>?_) h3 g2 fun a2 w2 g3=>?_
  ·rw[hget,yR (by omega),xP,yU hj]
  ·rw[wpOpsIn_cons];exact hfin _ _ a2 w2 h4 (g3.ok' fun _ _=>trivial)
end
def Hand (todo K:KL) (p:Nat×Nat) (x:Ex):Prop:=(p,(x,none))∈K∧(x.kids=[]∨(∃ b' c,(p,(x,some (b',c)))∈K)∨(p,(x,none))∈todo)
structure WL (root:Nat×Nat) (e:Ex) (todo K:KL):Prop where
 rk:∃ rk:Nat→Nat,∀ b o x b' c,((b,o),(x,some (b',c)))∈K→rk b<rk b'
 uniq:∀ p q x y b' c c',(p,(x,some (b',c)))∈K→(q,(y,some (b',c')))∈K→p=q
 kids:∀ p x b' c,(p,(x,some (b',c)))∈K→∀ (j:Nat) kid,x.kids[j]?=some kid→Hand todo K (b',5*j) kid
 hroot:Hand todo K root e
 sub:∀ k∈todo,k∈K∧k.2.2=none
 nodup:(todo.map (·.1)).Nodup
 nolit:∀ k∈todo,∀ k'∈K,k'.1=k.1→k'.2.2=none
theorem fQ {b:Nat}:∀ (o:Nat) (l:List Ex),∀ k∈bB b o l,k.2.2=none∧k.1.1=b∧o≤k.1.2
 | _,[]=>by simp[bB]
 | o,a::l=>by
  intro k hk;simp only[bB,zS]at hk
  rcases hk with rfl|hk
  ·exact⟨rfl,rfl,zQ _⟩
  ·obtain⟨h1,h2,h3⟩:=fQ (o+5) l k hk;exact⟨h1,h2,by omega⟩
theorem wB {b:Nat}:∀ (o:Nat) (l:List Ex),((bB b o l).map (·.1)).Nodup
 | _,[]=>by simp[bB]
 | o,a::l=>by
  simp only[bB,yS,yZ];refine⟨fun h=>?_,wB (o+5) l⟩;obtain⟨k,hk,e⟩:=yD.1 h;have:=(fQ (o+5) l k hk).2.2;rw[e]at this;simp at this;omega
theorem JB {b o:Nat} {x:Ex} {b' cap:Nat} {k:(Nat×Nat)×Nd} (h:k∈UQ b o x b' cap):x.kids≠[]∧(k=((b,o),(x,some (b',cap)))∨k∈bB b' 0 x.kids):=by
 unfold UQ at h;split at h
 ·cases h
 ·rename_i hx;exact⟨hx,zS.1 h⟩
theorem LF {b o:Nat} {x:Ex} {b' cap:Nat} {k:(Nat×Nat)×Nd} (h:k∈bB b' 0 x.kids):k∈UQ b o x b' cap:=by
 unfold UQ;split
 ·rename_i hx;rw[hx]at h;simp[bB]at h
 ·exact zA5 _ h
theorem WL.start (b3:Nat) (e:Ex):WL (b3,0) e [((b3,0),(e,none))] [((b3,0),(e,none))]:=by
 refine⟨⟨fun _=>0,?_⟩,?_,?_,⟨by simp, .inr (.inr (by simp))⟩,by simp,by simp,?_⟩
 ·intro b o x b' c h;simp at h
 ·intro p q x y b' c c' h;simp at h
 ·intro p x b' c h;simp at h
 ·intro k hk k' hk' _;simp at hk';rw[hk']
theorem WL.step {root:Nat×Nat} {e x:Ex} {init K:KL} {b o b' cap:Nat} (h:WL root e (init++[((b,o),(x,none))]) K) (hf:x.kids≠[]→∀ k∈K,k.1.1≠b'∧∀ b2 c2,k.2.2=some (b2,c2)→b2≠b') :
 WL root e (init++bB b' 0 x.kids) (K++UQ b o x b' cap):=by
 have hcur:((b,o),(x,none))∈K:=(h.sub _ (by simp)).1
 have litIn:∀ {p:Nat×Nat} {y:Ex} {f c:Nat},(p,(y,some (f,c)))∈K++UQ b o x b' cap→(p,(y,some (f,c)))∈K∨(x.kids≠[]∧p=(b,o)∧y=x∧f=b'∧c=cap):=by
  intro p y f c hm
  rcases zV.1 hm with hm|hm
  ·exact .inl hm
  ·obtain⟨hx,hm⟩:=JB hm
   rcases hm with hm|hm
   ·injection hm with e1 e2;injection e2 with e2 e3;injection e3 with e3;injection e3 with e3 e4;exact .inr ⟨hx,e1,e2,e3,e4⟩
   ·have:=(fQ 0 _ _ hm).1;cases this
 have up:∀ {p:Nat×Nat} {y:Ex},Hand (init++[((b,o),(x,none))]) K p y→Hand (init++bB b' 0 x.kids) (K++UQ b o x b' cap) p y:=by
  rintro p y ⟨h1,h2⟩;refine⟨List.mem_append_left _ h1,?_⟩
  rcases h2 with h2|⟨f,c,h2⟩|h2
  ·exact .inl h2
  ·exact .inr (.inl ⟨f,c,yO _ h2⟩)
  ·rcases zV.1 h2 with h2|h2
   ·exact .inr (.inr (yO _ h2))
   ·simp only[xL,Prod.mk.injEq,and_true]at h2;obtain⟨rfl,rfl⟩:=h2;by_cases hx:y.kids=[]
    ·exact .inl hx
    ·exact .inr (.inl ⟨b',cap,zA3 _ (by unfold UQ;rw[if_neg hx];simp)⟩)
 have hnd:=h.nodup;rw[yF,zF]at hnd;refine⟨?_,?_,?_,up h.hroot,?_,?_,?_⟩
 ·obtain⟨rk,hr⟩:=h.rk;refine⟨fun f=>if x.kids≠[]∧f=b' then rk b+1 else rk f,?_⟩;intro b1 o1 y f c hm
  rcases litIn hm with hm|⟨hx,e1,rfl,rfl,rfl⟩
  ·have hlt:=hr _ _ _ _ _ hm;have n1:¬ (x.kids≠[]∧b1=b'):=fun hh=>(hf hh.1 _ hm).1 hh.2
   have n2:¬ (x.kids≠[]∧f=b'):=fun hh=>(hf hh.1 _ hm).2 _ _ rfl hh.2
   simp only[if_neg n1,if_neg n2];exact hlt
  ·injection e1 with e1 e2;subst e1;subst e2;have n1:¬ (y.kids≠[]∧b1=f):=fun hh=>(hf hh.1 _ hcur).1 hh.2
   show(if y.kids≠[]∧b1=f then rk b1+1 else rk b1)<(if y.kids≠[]∧f=f then rk b1+1 else rk f);rw[if_neg n1,if_pos ⟨hx,rfl⟩];omega
 ·intro p q y z f c c' h1 h2
  rcases litIn h1 with g1|⟨hx,a1,a2,a3,a4⟩
  ·rcases litIn h2 with g2|⟨hx,a1,a2,a3,a4⟩
   ·exact h.uniq _ _ _ _ _ _ _ g1 g2
   ·exact absurd a3 ((hf hx _ g1).2 _ _ rfl)
  ·rcases litIn h2 with g2|⟨_,c1,_,_,_⟩
   ·exact absurd a3 ((hf hx _ g2).2 _ _ rfl)
   ·rw[a1,c1]
 ·intro p y f c hm j kid hk
  rcases litIn hm with hm|⟨hx,rfl,rfl,rfl,rfl⟩
  ·exact up (h.kids p y f c hm j kid hk)
  ·have hkm:=pI (b:=f) (o:=0) hk;rw[zL]at hkm;exact⟨List.mem_append_right _ (LF hkm), .inr (.inr (zA3 _ hkm))⟩
 ·intro k hk
  rcases zV.1 hk with hk|hk
  ·obtain⟨h1,h2⟩:=h.sub k (by simp[hk]);exact⟨List.mem_append_left _ h1,h2⟩
  ·exact⟨List.mem_append_right _ (LF hk),(fQ 0 _ _ hk).1⟩
 ·rw[yF,zF];refine⟨hnd.1,wB 0 _,fun p hp q hq e=>?_⟩;subst e;obtain⟨k1,h1,e1⟩:=yD.1 hp;obtain⟨k2,h2,e2⟩:=yD.1 hq;have hx:x.kids≠[]:=fun hx=>by rw[hx]at h2;simp[bB]at h2
  have:=(hf hx k1 (h.sub k1 (by simp[h1])).1).1;rw[e1,← e2,(fQ 0 _ _ h2).2.1]at this;exact this rfl
 ·intro k hk k' hk' e1
  rcases zV.1 hk with hk|hk
  ·rcases zV.1 hk' with hk'|hk'
   ·exact h.nolit k (by simp[hk]) k' hk' e1
   ·obtain⟨hx,hm⟩:=JB hk'
    rcases hm with rfl|hm
    ·exact absurd e1.symm (hnd.2.2 k.1 (yD.2 ⟨k,hk,rfl⟩) (b,o) (by simp))
    ·exact(fQ 0 _ _ hm).1
  ·have hx:x.kids≠[]:=fun hx=>by rw[hx]at hk;simp[bB]at hk
   have hkb:=(fQ 0 _ _ hk).2.1
   rcases zV.1 hk' with hk'|hk'
   ·exact absurd (by rw[e1,hkb]) (hf hx k' hk').1
   ·obtain⟨_,hm⟩:=JB hk'
    rcases hm with rfl|hm
    ·refine absurd ?_ (hf hx _ hcur).1;have:=congrArg Prod.fst e1;rw[hkb]at this;exact this
    ·exact(fQ 0 _ _ hm).1
inductive Und (K:KL) (p:Nat×Nat):Nat→Prop
 | base {x:Ex} {f c:Nat}:(p,(x,some (f,c)))∈K→Und K p f
 | step {b o:Nat} {x:Ex} {f c:Nat}:((b,o),(x,some (f,c)))∈K→Und K p b→Und K p f
section
variable {root:Nat×Nat} {e:Ex} {todo K:KL}
theorem WL.VB (h:WL root e todo K) {rk:Nat→Nat} (hr:∀ b o x b' c,((b,o),(x,some (b',c)))∈K→rk b<rk b') {p:Nat×Nat} {f:Nat} (hu:Und K p f):rk p.1<rk f:=by
 induction hu with
 | base hm=>exact hr _ p.2 _ _ _ hm
 | step hm _ ih=>exact Nat.lt_trans ih (hr _ _ _ _ _ hm)
theorem WL.sib (h:WL root e todo K) {p q:Nat×Nat} {f:Nat} (hp:Und K p f):Und K q f→p.1=q.1→p=q:=by
 obtain⟨rk,hr⟩:=h.rk
 induction hp with
 | base hm =>
  intro hq e1
  cases hq with
  | base hm2=>exact h.uniq _ _ _ _ _ _ _ hm hm2
  | step hm2 hq2 =>
   have:=h.uniq _ _ _ _ _ _ _ hm hm2;have lt:=h.VB hr hq2;rw[← e1,this]at lt;exact absurd lt (xY _)
 | step hm hp2 ih =>
  intro hq e1
  cases hq with
  | base hm2 =>
   have:=h.uniq _ _ _ _ _ _ _ hm hm2;have lt:=h.VB hr hp2;rw[e1,← this]at lt;exact absurd lt (xY _)
  | step hm2 hq2 =>
   have:=h.uniq _ _ _ _ _ _ _ hm hm2;injection this with e2 e3;subst e2;exact ih hq2 e1
theorem ZG {p:Nat×Nat} {x:Ex} {b' c j f:Nat} (hm:(p,(x,some (b',c)))∈K) (hu:Und K (b',j) f):Und K p f:=by
 induction hu with
 | base h2=>exact .step h2 (.base hm)
 | step h2 _ ih=>exact .step h2 ih
end
theorem PV (k c:Int) (v:Val) (l:List Ex):(Ex.mk k c v l).kids=l:=rfl
theorem ADF {w:World} {a:Ex} {u:Value} {F:List Nat} (h:TCells w [.isl (Ex.aA a.kids)] [u] F):TCells w a.cells [.int .i64 a.kind, .int .i64 a.col, .bool a.val.null, .int .i64 a.val.n,u] F:=by
 rw[Ex.aB];exact .lit rfl (.lit rfl (.lit rfl (.lit rfl h)))
theorem BP {w:World} {b:Nat} {us:List Value} {o:Nat} {v:Value} (hr:rowOf w b us) (h:w.cell? ⟨b,o,none⟩=some v):us[o]?=some v:=by
 obtain⟨T,e,_⟩:=hr;rw[bH e]at h;exact h
theorem AME {us:List Value} {o:Nat} {v0 v1 v2 v3 v4:Value} (h0:us[o]?=some v0) (h1:us[o+1]?=some v1) (h2:us[o+2]?=some v2) (h3:us[o+3]?=some v3) (h4:us[o+4]?=some v4):us.drop o=[v0,v1,v2,v3,v4]++us.drop (o+5):=by
 have g:∀ {o:Nat} {v:Value},us[o]?=some v→us.drop o=v::us.drop (o+1):=by
  intro o v h;obtain⟨hl,rfl⟩:=zY.1 h;exact yH hl
 rw[g h0,g h1,g h2,g h3,g h4];rfl
section
variable {root:Nat×Nat} {e:Ex} {K:KL} {B:Nat} {w:World} {m:Mem} {φ:Pl}
theorem WL.tree (h:WL root e [] K) (hK:∀ k∈K,PF B w m φ k.1.1 k.1.2 k.2) (hm:jT w m):∀ (x:Ex) (p:Nat×Nat),Hand [] K p x →
 ∃ v F,ExAt m p.1 p.2 x v∧TCells w [.isl (Ex.aA x.kids)] [v] F∧F.Nodup∧∀ f∈F,Und K p f∧B≤f∧fK φ f:=by
 intro x
 induction x using Ex.ind with
 | h kd cl vl ks ih =>
  intro p hp;obtain⟨hp1,hp2⟩:=hp;have pf:=hK _ hp1;obtain⟨v,hx⟩:=uS pf.cel;refine⟨v,?_⟩;simp only[PV]at hp2 ⊢;have hkids:=hx.kids;rw[PV]at hkids;by_cases hks:ks=[]
  ·subst hks;simp only[Ex.aA]at hkids ⊢;refine⟨[],hx,?_,by simp,by simp⟩
   cases hkids with
   | isl0 ao cap hc=>exact .isl0 hc .nil
   | isl hn=>exact absurd rfl hn
  ·obtain⟨b',cap,hl⟩:∃ b' c,(p,(Ex.mk kd cl vl ks,some (b',c)))∈K:=by
    rcases hp2 with h1|h1|h1
    ·exact absurd h1 hks
    ·exact h1
    ·cases h1
   obtain⟨l1,l2,l3,us,T,l4,l5,l6⟩:=(hK _ hl).lit b' cap rfl
   have hv:v=.slice (some ⟨b',0,none⟩) ks.length cap:=by
    have:=hx.c4;rw[l1]at this;injection this with this;exact this.symm
   subst hv
   have hrow:rowOf w b' us:=⟨T,l4,l6⟩
   have hlen:(Ex.aA ks).length=ks.length:=by simp
   have hne:Ex.aA ks≠[]:=fun hh=>by rw[hh]at hlen;simp at hlen;exact hks (zZ.1 hlen.symm)
   have hcap:ks.length≤cap:=by
    rcases iX hkids with ⟨h1,_⟩|⟨_,b2,off,k2,cap2,h1,_,h2⟩
    ·exact absurd h1 hne
    ·injection h1 with _ _ h3;subst h3;rw[hlen]at h2;exact h2
   have list:∀ (l:List Ex) (j:Nat),(∀ a∈l,a∈ks)→(∀ i kid,l[i]?=some kid→Hand [] K (b',5*(j+i)) kid)→∃ F,TCells w (Ex.aA l).flatten ((us.drop (5*j)).take (5*l.length)) F∧F.Nodup∧∀ f∈F,(∃ i,Und K (b',5*(j+i)) f)∧B≤f∧fK φ f:=by
    intro l
    induction l with
    | nil=>intro j _ _;exact⟨[],by simpa [Ex.aA]using TCells.nil,by simp,by simp⟩
    | cons a l ihl =>
     intro j hin hh;have h0:=hh 0 a rfl;obtain⟨va,Fa,ha,ta,na,ua⟩:=ih a (hin a (by simp)) (b',5*(j+0)) h0;simp only[xV]at ha ua
     obtain⟨Fl,tl,nl,ul⟩:=ihl (j+1) (fun x hx=>hin x (by simp[hx])) (fun i kid hi=>by
      have:=hh (i+1) kid (by simpa using hi)
      rwa [show j+(i+1)=j+1+i by omega]at this)
     have hr5:=AME (BP hrow (hm _ _ _ ha.c0)) (BP hrow (hm _ _ _ ha.c1)) (BP hrow (hm _ _ _ ha.c2)) (BP hrow (hm _ _ _ ha.c3)) (BP hrow (hm _ _ _ ha.c4));refine⟨Fa++Fl,?_,?_,?_⟩
     ·rw[hr5,zP,show 5*(l.length+1)=5+5*l.length by omega];rw[xZ,zX (by simp)];simp only[Ex.aA,zB];have t2:=ADF ta;have e1:5+5*l.length-[Value.int .i64 a.kind, .int .i64 a.col, .bool a.val.null, .int .i64 a.val.n,va].length=5*l.length:=by simp
      rw[e1,show 5*j+5=5*(j+1)by omega];exact t2.append tl
     ·rw[zF];refine⟨na,nl,fun f hf g hg e1=>?_⟩;subst e1;obtain⟨i,hi⟩:=(ul f hg).1;have:=h.sib (ua f hf).1 hi rfl;injection this with _ this;omega
     ·intro f hf
      rcases zV.1 hf with hf|hf
      ·exact⟨⟨0,(ua f hf).1⟩,(ua f hf).2⟩
      ·obtain⟨⟨i,hi⟩,q⟩:=ul f hf;exact⟨⟨1+i,by rwa [show j+(1+i)=j+1+i by omega]⟩,q⟩
   obtain⟨F,t1,n1,u1⟩:=list ks 0 (fun _ h=>h) (fun i kid hi=>by
    have:=h.kids p _ b' cap hl i kid hi
    rwa [zL])
   simp only[Nat.mul_zero,List.drop_zero]at t1
   have hkw:∀ r∈Ex.aA ks,r.length=5:=by
    have wid:∀ (l:List Ex),∀ r∈Ex.aA l,r.length=5:=by
     intro l
     induction l with
     | nil=>simp[Ex.aA]
     | cons a l ihl =>
      intro r hr;simp only[Ex.aA,zS]at hr
      rcases hr with rfl|hr
      ·rw[Ex.aB];rfl
      ·exact ihl r hr
    exact wid ks
   refine⟨b'::F,hx,?_,?_,?_⟩
   ·have:=TCells.isl (w:=w) (b:=b') (k:=5) (cap:=cap) (us:=us) (G:=F) hne hrow (by omega) hkw l5 (by omega) (by rw[hlen];exact t1) .nil;rw[hlen]at this;simpa using this
   ·rw[yZ];refine⟨fun hf=>?_,n1⟩;obtain⟨⟨i,hi⟩,_⟩:=u1 b' hf;obtain⟨rk,hr⟩:=h.rk;exact absurd (h.VB hr hi) (xY _)
   ·intro f hf
    rcases zS.1 hf with rfl|hf
    ·exact⟨.base hl,l2,l3⟩
    ·obtain⟨⟨i,hi⟩,q⟩:=u1 f hf;exact⟨ZG hl hi,q⟩
end
end Go.Av.V
namespace Go.Av.Mk
open Go Go.Av
set_option maxRecDepth 4000
def rowsOf (W:Nat):Nat→List Value→List (List IV)
 | 0,_=>[]
 | n+1,vs=>(vs.take W).map IV.lit::rowsOf W n (vs.drop W)
theorem eO (W:Nat):∀ (n:Nat) (vs:List Value),(rowsOf W n vs).length=n
 | 0,_=>rfl
 | n+1,vs=>by simp[rowsOf,eO W n]
theorem l8 (W:Nat):∀ (n:Nat) (vs:List Value),(rowsOf W n vs).flatten=(vs.take (W*n)).map IV.lit
 | 0,vs=>by simp[rowsOf]
 | n+1,vs=>by
  simp only[rowsOf,zB,l8 W n];rw[← List.map_append,show W*(n+1)=W+W*n by rw[zI];omega,List.take_add]
theorem vP (W:Nat):∀ (n:Nat) (vs:List Value),W*n≤vs.length→∀ e∈rowsOf W n vs,e.length=W
 | 0,_,_=>by simp[rowsOf]
 | n+1,vs,h=>by
  intro e he;have hm:W*(n+1)=W*n+W:=by rw[zI];omega
  simp only[rowsOf,zS]at he
  rcases he with rfl|he
  ·simp;omega
  ·exact vP W n _ (by simp;omega) e he
theorem kG (W:Nat):∀ (n:Nat) (vs:List Value) (i:Nat),i<n→gB (rowsOf W n vs) i=some (((vs.drop (W*i)).take W).map IV.lit)
 | 0,_,_,h=>by omega
 | n+1,vs,0,_=>by simp[rowsOf,gB]
 | n+1,vs,i+1,h=>by
  simp only[rowsOf,gB];rw[kG W n _ i (by omega),xS,show W+W*i=W*(i+1)by rw[zI];omega]
theorem p8 (W:Nat):∀ (n:Nat) (us vals:List Value) (i:Nat),i<n→W*n≤us.length→vals.length=W→(rowsOf W n us).set i (vals.map IV.lit)=rowsOf W n (us.take (W*i)++vals++us.drop (W*(i+1)))
 | 0,_,_,_,h,_,_=>by omega
 | n+1,us,vals,0,_,hu,hv=>by
  simp only[rowsOf,zA0,Nat.mul_zero,xG,zC,zL,zA6];rw[zC2 hv,zA2 hv]
 | n+1,us,vals,i+1,h,hu,hv=>by
  have m1:W*(n+1)=W*n+W:=by rw[zI];omega
  have m2:W*(i+1)=W+W*i:=by rw[zI];omega
  have m3:W*(i+1+1)=W+W*(i+1):=by rw[zI W (i+1)];omega
  have m4:W*i≤W*n:=zJ W (by omega);simp only[rowsOf,List.set_cons_succ];rw[p8 W n _ vals i (by omega) (by simp;omega) hv]
  have e1:(us.take (W*(i+1))++vals++us.drop (W*(i+1+1))).take W=us.take W:=by
   rw[yY,List.take_append_of_le_length (by simp;omega),zG,yQ (by omega)]
  have e2:(us.take (W*(i+1))++vals++us.drop (W*(i+1+1))).drop W=(us.drop W).take (W*i)++vals++(us.drop W).drop (W*(i+1)):=by
   rw[yY,List.drop_append_of_le_length (by simp;omega),yC,xS,yY,m3];congr 2;congr 1;omega
  rw[e1,e2]
theorem AC7 {m:Mem}:∀ (vs:List Value),(∀ v∈vs,v.oneCell'=true)→ICells m (vs.map IV.lit) vs
 | [],_=>.nil
 | v::vs,h=>.cons (.lit v) (h v (by simp)) (AC7 vs fun u hu=>h u (by simp[hu]))
theorem WZ {m:Mem}:∀ {vs xs:List Value},ICells m (vs.map IV.lit) xs→xs=vs
 | [],_,h=>by cases h;rfl
 | v::vs,_,h=>by
  simp only[yS]at h
  cases h with
  | cons a o r=>cases a;rw[WZ r]
structure Fr (w w':World) (S:List Nat):Prop where
 size:w.heap.size≤w'.heap.size
 os:w'.os=w.os
 tape:Tp w w'
 output:w'.output=w.output
 same:∀ f,f<w.heap.size→f ∉ S→w'.heap[f]?=w.heap[f]?
theorem Fr.refl (w:World) (S:List Nat):Fr w w S:=⟨Nat.le_refl _,rfl, .refl _,rfl,fun _ _ _=>rfl⟩
theorem Fr.trans {w1 w2 w3:World} {S:List Nat} (a:Fr w1 w2 S) (b:Fr w2 w3 S):Fr w1 w3 S :=
 ⟨Nat.le_trans a.size b.size,b.os.trans a.os,b.tape.trans a.tape,b.output.trans a.output,fun f h1 h2=>(b.same f (zK h1 a.size) h2).trans (a.same f h1 h2)⟩
theorem Fr.sub {w w':World} {S T:List Nat} (a:Fr w w' S) (h:∀ f∈S,f∈T):Fr w w' T :=
 ⟨a.size,a.os,a.tape,a.output,fun f h1 h2=>a.same f h1 fun h3=>h2 (h f h3)⟩
section
variable {C:Ctx} {nt:Nat}
theorem lZ (hS:SoundOk C) {w0:World} {m0:Mem} {φ0:Pl} {G:List Nat} {na:Nat} (h0:∀ id,φ0 id≠none→id<na) {c:Code} {S S':AS} {e:AExit} {a:Act} {w:World} (hc:codeOk nt c=true) (hx:dY C G na c S=some (e,S')) (h:F5 [] w0 m0 φ0 nt na S a w) (hnr:bC c=true:=by rfl) :
 c.wp C.P (fun e' a' w'=>e'=gK e∧F5 [] w0 m0 φ0 nt na S' a' w') a w:=by
 obtain⟨n,hn⟩:=(dE _).1 hx;refine wpIn_wide.1 (wpIn_mono (bL (ρ:=none) hS.ctx (aY hS) (hS.draw _ (aY hS)) h0 n c S S' e [] a w hc (.inl rfl) hn h) ?_);rintro e' a' w' ⟨rfl,ds,k,kd⟩;have kd:=kd hnr;subst kd;exact⟨rfl,k⟩
end
theorem RV {C:Ctx} {nt:Nat} (hS:SoundOk C) {id base:Nat} {ops:Array Oper} {os1:List Oper} {o1 o2:Oper} {w0:World} {m0:Mem} {φ0:Pl} {env:Nat→AV} {st:Store} {R1:RS} {a:Act} {w:World} {Q:Exit→Act→World→Prop} (hops:ops.toList=os1++[o1,o2]) (hs:∀ o∈ops,gI nt o=true)
 (hx:bT C (aH C) ops.toList false base os1 0 { env:=env,st:=st,log:=[] }=some R1) (h:ARel [] w0 m0 φ0 nt (fun id=>id<base) env st a w)
 (hfin:∀ a' w',ARel [] w0 m0 φ0 nt (fun _=>True) R1.env R1.st a' w'→wpOpIn (FR none) 0 C.P ops Q os1.length (wpOpIn (FR none) 0 C.P ops Q (os1.length+1) (fun a w=>Q .normal a w)) a' w'):(Code.region id ops false).wp C.P Q a w:=by
 refine oU ?_;have hsz:ops.size=os1.length+2:=by rw[← Array.length_toList,hops];simp
 have hget:∀ j,ops[j]?=(os1++[o1,o2])[j]?:=fun j=>by rw[← hops,yB]
 rw[xI,hsz,show List.range' 0 (os1.length+2)=List.range' 0 os1.length++[os1.length,os1.length+1]by
  rw[← List.range'_append_1];simp[List.range'_succ]]
 refine gD (w0:=w0) (m0:=m0) (φ0:=φ0) hS.ctx (aY hS) hs os1 0 { env:=env,st:=st,log:=[] } R1 a w (fun j hj=>?_) hx ?_ fun a' w' h'=>?_
 ·rw[hget,zL,yU hj]
 ·obtain⟨⟨m,φ,k1,k2,k3,k4,k7⟩,k5,k6⟩:=h;exact⟨⟨m,φ,k1,k2,k3,fun id hne=>.inl (k4 id hne),k7⟩,k5,k6⟩
 ·obtain⟨⟨m,φ,k1,k2,k3,k4,k7⟩,k5,k6⟩:=h';have:=hfin a' w' ⟨⟨m,φ,k1,k2,k3,fun _ _=>trivial,k7⟩,k5,k6⟩;have hnil:wpOpsIn (FR none) 0 C.P ops Q []=fun a w=>Q .normal a w:=by funext a w;simp[wpOpsIn]
  have hone:wpOpsIn (FR none) 0 C.P ops Q [os1.length+1]=wpOpIn (FR none) 0 C.P ops Q (os1.length+1) (fun a w=>Q .normal a w):=by funext a w;rw[wpOpsIn_cons,hnil]
  rw[wpOpsIn_cons,hone];exact this
theorem QU {P:Program} {ops:Array Oper} {Q:Exit→Act→World→Prop} {K:Act→World→Prop} {i d:Nat} {g:FuncId} {fn:Func} {args:Array Operand} {ts:Array TypeId} {ty:TypeId} {pos:String} {after:Array Edge} {a:Act} {w:World}
 (ho:ops[i]?=some ⟨some d, .call ⟨.value (.func g),args,ts⟩,ty,pos,after,none⟩) (g1:P.funcs[g]?=some fn) (g2:fn.name≠ "runtime.NumGoroutine") (g3:fn.body≠none)
 (hc:Calls P g (args.map a.eval) w fun e w'=>∃ y,e=.returned y∧K (a.put (some d) y) w'):wpOpIn (FR none) 0 P ops Q i K a w:=by
 unfold wpOpIn;rw[ho];simp only[Region.wanted,if_true];refine⟨fun _ _=>trivial,?_⟩;rw[Oper.semAt_eq _ _ _ (fun c e=>by cases e)]
 have hrun:(execOp a.eval ⟨some d, .call ⟨.value (.func g),args,ts⟩,ty,pos,after,none⟩).run P w=.ok (.enter g (args.map a.eval)) w:=by
  unfold execOp;have hev:a.eval (.func g)=.func (.func g) #[] #[]:=rfl
  simp[resolve,Deferred.ofValue,hev,invoke,callFunc,g1,g2,g3]
 rw[hrun];rw[Oper.uponIn_enter];refine⟨fun h=>(by cases h),OL (hc.mono ?_)⟩;rintro e w' ⟨y,rfl,k⟩;exact k
theorem N8 {P:Program} {ops:Array Oper} {Q:Exit→Act→World→Prop} {K:Act→World→Prop} {i d:Nat} {x:Operand} {ty:TypeId} {pos:String} {after:Array Edge} {a:Act} {w:World}
 (ho:ops[i]?=some ⟨some d, .assign x,ty,pos,after,none⟩) (hK:K (a.put (some d) (a.eval x)) w):wpOpIn (FR none) 0 P ops Q i K a w:=by
 unfold wpOpIn;rw[ho];simp only[Region.wanted,if_true];refine⟨fun _ _=>trivial,?_⟩;rw[Oper.semAt_eq _ _ _ (fun c e=>by cases e)]
 have hrun:(execOp a.eval ⟨some d, .assign x,ty,pos,after,none⟩).run P w=.ok (.value (a.eval x)) w:=by
  unfold execOp;simp
 rw[hrun];simpa [Oper.uponIn]using hK
theorem J3 {a:Act} {d:Nat} {x:Value} (hd:d<a.tmps.size) (t:Nat):(a.put (some d) x).tmps.getD t undef=if t=d then x else a.tmps.getD t undef:=by
 simp only[Act.put];by_cases e:t=d
 ·subst e;simp[Array.getD,hd]
 ·rw[if_neg e];simp only[yE];rw[xB (Ne.symm e)]
def P1 (b N:Nat):Pl:=fun id=>if id=0 then some (b,one b N)else none
theorem lI (b N:Nat):∀ id,P1 b N id≠none→id<1:=fun id h=>by
 by_cases e:id=0
 ·omega
 ·simp[P1,e]at h
structure MG (W nt b N n:Nat) (us:List Value) (q:Int) (j5:AV) (a:Act) (w:World):Prop where
 row:rowOf w b us
 len:us.length=N
 fit:W*n≤N
 pos:0<n
 wpos:0<W
 t0:∃ cap,n≤cap∧W*cap≤N∧a.tmps.getD 0 undef=.slice (some ⟨b,0,none⟩) n cap
 t1:a.tmps.getD 1 undef=.int .i64 q
 t5:Rep (fun _ _=>none) (fun _=>none) j5 (a.tmps.getD 5 undef)
 size:nt≤a.tmps.size
 defers:a.defers=[]
def MS (W n:Nat) (R:List (List IV)) (q:Int) (j4 j5 j9:AV):AS :=
 { env:=[(0, .osl 0 W 0 n),(1, .int q),(4,j4),(5,j5),(9,j9)],st:=[some (.arr W R)] }
theorem MG.to {W nt b N n:Nat} {us:List Value} {q:Int} {j5:AV} {a:Act} {w:World} (h:MG W nt b N n us q j5 a w):F5 [] w (fun _ _=>none) (P1 b N) nt 1 (MS W n (rowsOf W n us) q .junk j5 .junk) a w:=by
 obtain⟨T,hrow,hone⟩:=h.row;refine⟨⟨⟨fun _ _=>none,P1 b N,⟨fun _ _ _ e=>(by cases e),?_,?_,?_⟩,?_, .refl _ _ _,lI b N,Marks.nil _ _ _⟩,h.size,h.defers⟩,zQ _⟩
 ·intro id blk e
  cases id with
  | zero =>
   simp[MS,aS]at e;subst e;refine⟨b,Go.Av.one b N,rfl,⟨rfl,fun f hf=>?_⟩, .arr (T:=T) hrow h.len h.wpos (vP W n us (by have:=h.len;have:=h.fit;omega)) ?_ (by rw[eO];exact h.fit) (fun _=>rfl) (fun _ hf=>hf) hone⟩
   ·have hf:f=b:=hf;subst hf;exact(zN.1 hrow).1
   ·rw[l8,eO];exact AC7 _ fun v hv=>hone v (zA hv)
  | succ id=>simp[MS,aS]at e
 ·intro i j b b' n n' b1 b2 f h1 h2 _ _ _ _
  cases i with
  | succ i=>simp[MS,aS]at h1
  | zero=>cases j with
   | zero=>rfl
   | succ j=>simp[MS,aS]at h2
 ·intro id b' n' f e ho;by_cases hid:id=0
  ·subst hid;simp only[P1,if_true]at e;injection e with e;injection e with e1 e2;subst e1;subst e2;have ho:f=b:=ho;subst ho;exact(zN.1 hrow).1
  ·simp[P1,hid]at e
 ·intro t;simp only[MS,aQ];by_cases h0:t=0
  ·subst h0;obtain⟨cap,c1,c2,c3⟩:=h.t0;rw[c3];exact .osl (n:=Go.Av.one b N) rfl c1 (by simp;exact c2) (fun _=>by simp) (fun h=>by cases h)
  by_cases h1:t=1
  ·subst h1;rw[h.t1];exact .i (.lit _)
  by_cases h5:t=5
  ·subst h5;exact h.t5.mono (.refl _) (fun _ _ _ e=>by cases e)
  simp[h0,h1,h5];exact .junk _
theorem MG.of {W nt b N n:Nat} {us vs:List Value} {q q' i':Int} {j5:AV} {a a':Act} {w w0 w':World} (h:MG W nt b N n us q j5 a w) {env:Nat→AV} {st:Store} {ok:Nat→Prop} (hS:ARel [] w0 (fun _ _=>none) (P1 b N) nt ok env st a' w') (h0:env 0=.osl 0 W 0 n) (h1:env 1=.int q') (h5:env 5=.int i') (hst:st 0=some (.arr W (rowsOf W n vs))) :
 ∃ us',MG W nt b N n us' q' (.int i') a' w'∧us'.take (W*n)=vs.take (W*n)∧Fr w0 w' [b]:=by
 obtain⟨⟨m,φ,hi,henv,hadv,hok,_⟩,hsz,hdf⟩:=hS;obtain⟨n',e0,el,eo⟩:=hadv.ple 0 b (Go.Av.one b N) rfl;obtain⟨_,hok2⟩:=bX hi e0 hst;have t0:=henv 0;rw[h0]at t0;have t1:=henv 1;rw[h1]at t1;have t5:=henv 5;rw[h5]at t5;have hpos:=h.pos
 have fr:Fr w0 w' [b]:=by
  refine⟨hadv.size,hadv.os,hadv.tape,hadv.output,fun f hf hne=>hadv.block f hf ?_⟩;intro id r x e ho;by_cases hid:id=0
  ·subst hid;simp only[P1,if_true]at e;injection e with e;injection e with e1 e2;subst e2;have ho:f=b:=ho;exact hne (by simp[ho])
  ·simp[P1,hid]at e
 cases hok2 with
 | @arr T k es xs hh hl hk hw hc hfit hm hown hone =>
  rw[l8,eO]at hc;have hx:=WZ hc;rw[eO]at hfit;refine⟨xs,⟨⟨T,hh,hone⟩,by rw[hl,el];rfl,h.fit,hpos,h.wpos,?_,?_,?_,hsz,hdf⟩,hx,fr⟩
  ·generalize a'.tmps.getD 0 undef=x0 at t0
   cases t0 with
   | @osl _ _ _ _ cap b2 n2 ao e2 c1 c2 c3 c4 =>
    rw[e0]at e2;injection e2 with e2;injection e2 with e3 e4;subst e3;subst e4
    rw[c3 (by omega)];exact⟨cap,c1,by rw[el]at c2;simpa using c2,by simp⟩
  ·generalize a'.tmps.getD 1 undef=x1 at t1
   cases t1 with|i r=>cases r;rfl
  ·generalize a'.tmps.getD 5 undef=x5 at t5
   cases t5 with|i r=>cases r;exact .i (.lit _)
theorem tlt {w:World}:∀ {cs:List IV} {vs:List Value} {F:List Nat},TCells w cs vs F→∀ f∈F,f<w.heap.size
 | _,_,_, .nil=>by simp
 | _,_,_, .lit _ r=>(tlt r)
 | _,_,_, .isl0 _ r=>(tlt r)
 | _,_,_, .isl _ ⟨T,hr,_⟩ _ _ _ _ g r=>by
  intro f hf;simp only[zH,zS,zV]at hf
  rcases hf with rfl|hf|hf
  ·exact(zN.1 hr).1
  ·exact tlt g f hf
  ·exact tlt r f hf
section
variable {X:Type} (cells:X→List IV) (mk:Int→X→X) (sz:X→Nat)
def eF:Int→List X→List X
 | _,[]=>[]
 | k,x::l=>mk k x::eF (k+sz x) l
def bI:List X→Nat
 | []=>0
 | x::l=>sz x+bI l
theorem dL:∀ (l:List X) (k:Int),(eF mk sz k l).length=l.length
 | [],_=>rfl
 | x::l,k=>by simp[eF,dL l]
theorem sP:∀ (l:List X) (k:Int) {i:Nat} {x:X},l[i]?=some x→(eF mk sz k l)[i]?=some (mk (k+(bI sz (l.take i):Nat)) x)
 | [],_,i,x,h=>by simp at h
 | y::l,k,0,x,h=>by simp at h;subst h;simp[eF,bI]
 | y::l,k,i+1,x,h=>by
  have:=sP l (k+sz y) (i:=i) (x:=x) (by simpa using h);simp only[eF,xQ,yP,bI];rw[this];congr 2;push_cast;omega
theorem qM:∀ (l:List X) {i:Nat} {x:X},l[i]?=some x→bI sz (l.take (i+1))=bI sz (l.take i)+sz x
 | [],i,x,h=>by simp at h
 | y::l,0,x,h=>by simp at h;subst h;simp[bI]
 | y::l,i+1,x,h=>by have:=qM l (i:=i) (x:=x) (by simpa using h);simp only[yP,bI]at this ⊢;omega
theorem uF:∀ (l:List X) (i:Nat),bI sz (l.take i)≤bI sz l
 | [],i=>by simp[bI]
 | x::l,0=>by simp[bI]
 | x::l,i+1=>by have:=uF l i;simp only[yP,bI];omega
def YT (k:Int) (l:List X) (i:Nat):List X:=(eF mk sz k l).take i++l.drop i
theorem WO (k:Int) (l:List X):YT mk sz k l 0=l:=by simp[YT]
theorem AA3 (k:Int) (l:List X):YT mk sz k l l.length=eF mk sz k l:=by
 unfold YT;rw[zX (by rw[dL];omega)];simp
theorem SB {k:Int} {l:List X} {i:Nat} {x:X} (h:l[i]?=some x):YT mk sz k l i=(eF mk sz k l).take i++(x::l.drop (i+1)):=by
 have hi:=(zY.1 h).1;unfold YT;rw[yH hi];have:l[i]=x:=by have:=zW hi;rw[h]at this;injection this with this;exact this.symm
 rw[this]
theorem WP {k:Int} {l:List X} {i:Nat} {x:X} (h:l[i]?=some x):YT mk sz k l (i+1)=(eF mk sz k l).take i++(mk (k+(bI sz (l.take i):Nat)) x::l.drop (i+1)):=by
 unfold YT;rw[aN (sP mk sz l k h)];simp
theorem DW {W:Nat} (hW:∀ x,(cells x).length=W):∀ l:List X,(l.map cells).flatten.length=W*l.length
 | []=>by simp
 | x::l=>by simp only[yS,zB,zM,DW hW l,hW,zP,zI];omega
end
structure MLoop (C:Ctx) (g:FuncId) (W nt:Nat) (G:List Nat) (fn:Func) (c0 c1 cc body c3 cend:Code):Prop where
 func:C.P.funcs[g]?=some fn
 code:fn.body=some (c0.seq ((c1.seq (.block 0 (.loop (cc.seq ((Code.block 1 body).seq c3))))).seq cend))
 ntmps:fn.ntmps=nt
 big:6≤nt
 results:fn.results.toList=[ResultVar.tmp 4]
 ok0:codeOk nt c0=true∧bC c0=true
 ok1:codeOk nt c1=true∧bC c1=true
 okc:codeOk nt cc=true∧bC cc=true
 ok3:codeOk nt c3=true∧bC c3=true
 oke:codeOk nt cend=true∧bC cend=true
 x0:∀ n R q,dY C G 1 c0 (MS W n R q .junk .junk .junk)=some (.normal,MS W n R q (.int 0) .junk .junk)
 x1:∀ n R q,dY C G 1 c1 (MS W n R q (.int 0) .junk .junk)=some (.normal,MS W n R q (.int 0) (.int 0) .junk)
 xc:∀ (n i:Nat) R q,i<n→dY C G 1 cc (MS W n R q .junk (.int i) .junk)=some (.normal,MS W n R q .junk (.int i) (.bool true))
 xo:∀ (n:Nat) R q,dY C G 1 cc (MS W n R q .junk (.int n) .junk)=some (.exit 0,MS W n R q .junk (.int n) (.bool false))
 x3:∀ (n i:Nat) R q,i<1000000000000→dY C G 1 c3 (MS W n R q .junk (.int i) .junk)=some (.normal,MS W n R q .junk (.int (i+1)) .junk)
 xe:∀ (n:Nat) R q,dY C G 1 cend (MS W n R q .junk (.int n) (.bool false))=some (.ret,MS W n R q (.int q) (.int n) (.bool false))
 xf:∀ (n:Nat) R (q:Int),finish C false [ResultVar.tmp 4] 1 (MS W n R q (.int q) (.int n) (.bool false))=some (.int q,[some (.arr W R)])
 nil:∀ k:Int,aH C g [.i (.isl []), .int k] []=some (.int k,[])
def OU (C:Ctx) {X:Type} (cells:X→List IV) (mk:Int→X→X) (sz:X→Nat) (W nt:Nat) (body:Code) (x:X):Prop :=
 ∀ (b N n i:Nat) (us vs:List Value) (q:Int) (F:List Nat) (a:Act) (w:World),i<n→MG W nt b N n us q (.int i) a w→(us.drop (W*i)).take W=vs→TCells w (cells x) vs F→F.Nodup→b ∉ F→0≤q→q+sz x<1000000000000 →
   body.wp C.P (fun e a' w'=>e=.normal∧∃ us' vs',MG W nt b N n us' (q+sz x) (.int i) a' w'∧us'.take (W*n)=us.take (W*i)++vs'++(us.take (W*n)).drop (W*(i+1))∧TCells w' (cells (mk q x)) vs' F∧Fr w w' (b::F)) a w
def ABG {X:Type} (cells:X→List IV) (mk:Int→X→X) (sz:X→Nat) (w:World) (v:Value) (F:List Nat) (k:Int) (l:List X) (en:Ending) (w':World):Prop :=
 en=.returned (.int .i64 (k+(bI sz l:Nat)))∧Fr w w' F∧TCells w' [.isl ((eF mk sz k l).map cells)] [v] F∧∀ b0 cap us0,v=.slice (some ⟨b0,0,none⟩) l.length cap→l≠[]→rowOf w b0 us0→∃ us1,rowOf w' b0 us1∧us1.length=us0.length
theorem JE {C:Ctx} (hS:SoundOk C) {X:Type} {cells:X→List IV} {mk:Int→X→X} {sz:X→Nat} {g:FuncId} {W nt:Nat} {G:List Nat} {fn:Func} {c0 c1 cc body c3 cend:Code} (hg:g≠qJ) (L:MLoop C g W nt G fn c0 c1 cc body c3 cend) (hW:∀ x,(cells x).length=W) (hW0:0<W)
 {l:List X} (hR:∀ x∈l,OU C cells mk sz W nt body x) {w:World} {v:Value} {F:List Nat} {k:Int} (hT:TCells w [.isl (l.map cells)] [v] F) (hnd:F.Nodup) (hk0:0≤k) (hk1:k+(bI sz l:Nat)<1000000000000) (hl12:l.length<1000000000000) :
 Calls C.P g #[v, .int .i64 k] w (ABG cells mk sz w v F k l):=by
 generalize hces:l.map cells=ces at hT
 cases hT with
 | @isl0 ao cap _ _ F1 hc hr =>
  cases hr
  have hl:l=[]:=by simpa using hces
  subst hl;refine((aY hS).calls _ _ _ _ _ hg (L.nil k) w (eD w) (fun _=>none) [.slice ao 0 cap, .int .i64 k] (inv0 w) (.cons (.i (.isl0 ao cap hc)) (.cons (.i (.lit _)) .nil)) (fun id h=>absurd rfl h)).mono ?_;rintro en w' ⟨y,m',φ',rfl,j1,j2,j3,j4⟩;have hy:y=.int .i64 k:=by cases j1 with|i r=>cases r;rfl
  subst hy;refine⟨by simp[bI],⟨j3.size,j3.os,j3.tape,j3.output,fun f hf _=>j3.block f hf fun id b n e=>by cases e⟩,?_,fun _ _ _ _ h _=>absurd rfl h⟩;simp only[eF,zC3];exact .isl0 hc .nil
 | @isl b kk cap _ us G1 _ _ F1 hne hrow hkk hw hf hcp hg1 hr =>
  cases hr
  subst hces;have hlne:l≠[]:=fun h=>by subst h;exact hne rfl
  obtain rfl:kk=W:=by
   cases l with
   | nil=>exact absurd rfl hlne
   | cons x l=>rw[← hw (cells x) (by simp),hW]
  simp only[zO]at hnd ⊢;have hbG:=(yZ.1 hnd).1;have hGn:=(yZ.1 hnd).2;rw[zA9]at hcp hg1 ⊢;generalize hn:l.length=n at hcp hg1 ⊢;have hnpos:0<n:=by rw[← hn];exact xW.2 hlne
  generalize hN:us.length=N at hf;have hfitN:kk*n≤N:=xN (zJ kk hcp) hf;refine calls_of_wp (fn:=fn) L.func L.code ?_
  have g0:MG kk nt b N n us k .junk { tmps:=#[Value.slice (some ⟨b,0,none⟩) n cap, .int .i64 k]++Array.replicate (nt-2) undef,defers:=[] } w :=
   ⟨hrow,hN,hfitN,hnpos,hW0,⟨cap,hcp,hf,by simp[Array.getElem?_append]⟩,by simp[Array.getElem?_append], .junk _,by simp;have:=L.big;omega,rfl⟩
  have r0:=g0.to;refine wp_seq (wp_mono (lZ hS (lI b N) (G:=G) (nt:=nt) L.ok0.1 (L.x0 n (rowsOf kk n us) k) (by rw[L.ntmps];exact r0) L.ok0.2) ?_);rintro _ x1 y1 ⟨rfl,r1⟩;refine wp_seq (wp_seq (wp_mono (lZ hS (lI b N) (G:=G) (nt:=nt) L.ok1.1 (L.x1 n (rowsOf kk n us) k) r1 L.ok1.2) ?_));rintro _ x2 y2 ⟨rfl,r2⟩;obtain⟨us2,g2,e2,f2⟩:=g0.of (q':=k) (i':=0) r2.1 rfl rfl rfl rfl;clear r0 r1 r2;refine wp_block ?_
  refine rP (fun m a w'=>∃ i us',m=n-i∧i≤n∧MG kk nt b N n us' (k+(bI sz (l.take i):Nat)) (.int i) a w'∧Fr w w' (b::G1)∧TCells w' ((YT mk sz k l i).map cells).flatten (us'.take (kk*n)) G1) ?_ (n:=n) ⟨0,us2,by omega,by omega,by simpa [bI]using g2,f2.sub (by simp),by
   rw[WO,e2];refine hg1.mono fun f hf'=>?_
   have hlt:f<w.heap.size:=tlt hg1 f hf'
   exact f2.same f hlt (by simp;intro h;subst h;exact hbG hf')⟩
  rintro m a w' ⟨i,us',rfl,hin',g,fr,ht⟩;have rr:=g.to
  have keepG:∀ {w1 w2:World} {cs:List IV} {vs:List Value} {F:List Nat},(∀ f∈F,f∈G1)→Fr w1 w2 [b]→TCells w1 cs vs F→TCells w2 cs vs F:=by
   intro w1 w2 cs vs F hF hfr h;refine h.mono fun f hf'=>hfr.same f (tlt h f hf') ?_
   simp;intro e;subst e;exact hbG (hF f hf')
  by_cases hi:i=n
  ·subst hi;have hTl:l.take i=l:=zX (by omega);rw[hTl]at g rr;generalize hq:k+(bI sz l:Nat)=q at g rr;refine wp_seq (wp_mono (lZ hS (lI b N) (G:=G) (nt:=nt) L.okc.1 (L.xo i (rowsOf kk i us') q) rr L.okc.2) ?_);rintro _ x3 y3 ⟨rfl,r3⟩;simp only[gK,Exit.then,Exit.inBlock,if_true];refine wp_mono (lZ hS (lI b N) (G:=G) (nt:=nt) L.oke.1 (L.xe i (rowsOf kk i us') q) r3 L.oke.2) ?_;rintro _ x4 y4 ⟨rfl,r4⟩;obtain⟨v4,k1,k2⟩:=jJ (C:=C) (fn:=fn) (keep:=false) (na:=1) (lI b N) r4 (by rw[L.results];exact L.xf i (rowsOf kk i us') q);obtain⟨us4,g4,e4,f4⟩:=g.of (q':=q) (i':=i) r4.1 rfl rfl rfl rfl;obtain⟨y,m',φ',hy,j1,_⟩:=k2;injection hy with hy;subst hy;have hv4:v4=.int .i64 q:=by cases j1 with|i r=>cases r;rfl
   subst hv4;refine⟨g4.defers,_,k1,by rw[hq],fr.trans (f4.sub (by simp)),?_⟩;have hml:=dL mk sz l k;have hcl:((eF mk sz k l).map cells).length=i:=by rw[zA9,hml,hn]
   have hne':(eF mk sz k l).map cells≠[]:=fun h=>by rw[h]at hcl;simp at hcl;omega
   have:=TCells.isl (w:=y4) (b:=b) (k:=kk) (cap:=cap) (es:=(eF mk sz k l).map cells) (us:=us4) (G:=G1) (cs:=[]) (vs:=[]) (F:=[]) hne' g4.row hkk ?_ (by rw[g4.len];exact hf) (by omega) ?_ .nil
   ·refine⟨by rw[hcl]at this;simpa using this,?_⟩;rintro b0 cap0 us0 hv0 _ ⟨T0,hr0,_⟩;injection hv0 with hv0;injection hv0 with hv0;injection hv0 with hv0;subst hv0;obtain⟨T,hrow',_⟩:=hrow;rw[hrow']at hr0;injection hr0 with hr0;injection hr0 with hr0;have:us=us0:=by simpa using congrArg Array.toList hr0
    subst this;exact⟨us4,g4.row,by rw[g4.len,hN]⟩
   ·intro e he;obtain⟨x,_,rfl⟩:=yD.1 he;exact hW x
   ·rw[hcl,e4];rw[show YT mk sz k l i=eF mk sz k l by rw[← hn];exact AA3 mk sz k l]at ht;exact keepG (fun f h=>h) f4 ht
  ·have hin:i<n:=by omega
   have h3:=zW (l:=l) (i:=i) (by omega);have hm3:=zT h3;generalize l[i]'(by omega)=x at h3 hm3;have hml:=dL mk sz l k;rw[SB mk sz h3,yF,xC]at ht;simp only[yS,zB]at ht;have hA:(((eF mk sz k l).take i).map cells).flatten.length=kk*i:=by rw[DW cells hW];simp;rw[yQ (by omega)]
   have hB:(cells x).length=kk:=hW x;obtain⟨Ga,Gr,hG1,t1,t23⟩:=ht.split (kk*i);rw[zC2 hA]at t1;rw[zA2 hA]at t23;obtain⟨Gx,Gb,hG2,t2,t3⟩:=t23.split kk;rw[zC2 hB]at t2;rw[zA2 hB]at t3;have hlen':=g.len;have hfit':=g.fit;have hstep:kk*(i+1)=kk*i+kk:=by rw[zI];omega
   have hle1:kk*(i+1)≤kk*n:=zJ kk (by omega)
   have hrowi:(us'.drop (kk*i)).take kk=((us'.take (kk*n)).drop (kk*i)).take kk:=by
    rw[yC,zG,yQ (by omega)]
   have hzs:=qM sz l h3;have hmono:=uF sz l (i+1);generalize hq:k+((bI sz (l.take i):Nat):Int)=q at g rr;refine wp_seq (wp_mono (lZ hS (lI b N) (G:=G) (nt:=nt) L.okc.1 (L.xc n i (rowsOf kk n us') q hin) rr L.okc.2) ?_);rintro _ x0 y0 ⟨rfl,r0⟩;obtain⟨us0,g0,e0,f0⟩:=g.of (q':=q) (i':=i) r0.1 rfl rfl rfl rfl;have sx:∀ f∈Gx,f∈G1:=fun f hf'=>by rw[hG1,hG2];simp[hf']
   have sa:∀ f∈Ga,f∈G1:=fun f hf'=>by rw[hG1];simp[hf']
   have sb:∀ f∈Gb,f∈G1:=fun f hf'=>by rw[hG1,hG2];simp[hf']
   have hn2:(Ga++(Gx++Gb)).Nodup:=by rw[← hG2,← hG1];exact hGn
   have nd1:=zF.1 hn2;have nd2:=zF.1 nd1.2.1
   have hrow0:(us0.drop (kk*i)).take kk=((us'.take (kk*n)).drop (kk*i)).take kk:=by
    rw[← e0,yC,zG,yQ (by omega)]
   simp only[gK,Exit.then,Exit.inBlock];refine wp_seq ?_;refine wp_block ?_;refine wp_mono (hR x hm3 b N n i us0 _ q Gx x0 y0 hin g0 hrow0 (keepG sx f0 t2) nd2.1 (fun h=>hbG (sx b h)) (by omega) (by omega)) ?_;rintro _ x5 y5 ⟨rfl,us5,vs5,g5,e5,t5,f5⟩;simp only[Exit.then,Exit.inBlock];have r5:=g5.to;refine wp_mono (lZ hS (lI b N) (G:=G) (nt:=nt) L.ok3.1 (L.x3 n i (rowsOf kk n us5) (q+sz x) (by omega)) r5 L.ok3.2) ?_;rintro _ x6 y6 ⟨rfl,r6⟩;obtain⟨us6,g6,e6,f6⟩:=g5.of (q':=q+sz x) (i':=i+1) r6.1 rfl rfl rfl rfl;simp only[gK,Exit.then,Exit.inBlock];have hnx:k+((bI sz (l.take (i+1)):Nat):Int)=q+sz x:=by rw[hzs];push_cast;omega
   refine⟨n-(i+1),by omega,i+1,us6,rfl,by omega,?_,?_,?_⟩
   ·rw[hnx];exact g6
   ·exact((fr.trans (f0.sub (by simp))).trans (f5.sub fun f hf'=>by
     rcases zS.1 hf' with rfl|hf'
     ·simp
     ·simp[sx f hf'])).trans (f6.sub (by simp))
   ·rw[WP mk sz h3,yF,xC,hq];simp only[yS,zB]
    have hvs:us6.take (kk*n)=(us'.take (kk*n)).take (kk*i)++(vs5++((us'.take (kk*n)).drop (kk*i)).drop kk):=by
     rw[e6,e5,e0,yY,xS,← hstep,zG,yQ (by omega)];congr 1;have:=congrArg (List.take (kk*i)) e0;rw[zG,zG,yQ (by omega)]at this;exact this
    rw[hvs]
    have bx:∀ f∈Ga++Gb,f ∉ Gx:=fun f hf' hx=>by
     rcases zV.1 hf' with h|h
     ·exact nd1.2.2 f h f (by simp[hx]) rfl
     ·exact nd2.2.2 f hx f h rfl
    have m1:TCells y6 (((eF mk sz k l).take i).map cells).flatten ((us'.take (kk*n)).take (kk*i)) Ga:=by
     have h1:=keepG sa f0 t1
     have h2:=h1.mono (w':=y5) fun f hf'=>f5.same f (tlt h1 f hf') fun hh=>by
      rcases zS.1 hh with rfl|hh
      ·exact hbG (sa _ hf')
      ·exact bx f (by simp[hf']) hh
     exact keepG sa f6 h2
    have m3:TCells y6 ((l.drop (i+1)).map cells).flatten (((us'.take (kk*n)).drop (kk*i)).drop kk) Gb:=by
     have h1:=keepG sb f0 t3
     have h2:=h1.mono (w':=y5) fun f hf'=>f5.same f (tlt h1 f hf') fun hh=>by
      rcases zS.1 hh with rfl|hh
      ·exact hbG (sb _ hf')
      ·exact bx f (by simp[hf']) hh
     exact keepG sb f6 h2
    rw[hG1,hG2];exact m1.append ((keepG sx f6 t5).append m3)
end Go.Av.Mk

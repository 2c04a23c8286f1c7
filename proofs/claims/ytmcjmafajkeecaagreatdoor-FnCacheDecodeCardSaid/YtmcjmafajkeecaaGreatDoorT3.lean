/- Part 3 of what the proof rests on: the executor and what it is worth, and the program's functions as it runs them. No condition. -/
import Derived.Test.YtmcjmafajkeecaaGreatDoorT2
import Derived.Test.YtmcjmafajkeecaaGreatDoorProg
import Derived.KernelRfl
set_option linter.unusedVariables false
set_option linter.unusedSimpArgs false
namespace Go.Av
structure RAW (wi:World) (root:Nat) (p:Pn) (F:List Nat) (H:PL) (w:World) (m:Mem) (φ:Pl):Prop where
 th:TH w m p root 0 F H
 nr:root ∉ F
 nd:F.Nodup
 all:∀ f∈root::F,wi.heap.size≤f∧f<w.heap.size∧fH φ f∧(∀ o,m f o=none)∧∃ (vs:List Value) (T:TypeId),w.heap[f]?=some (.cells vs.toArray T (0,0))∧∀ v∈vs,v.oneCell'=true
theorem jZ {w w':World} {f:Nat} (h:w'.heap[f]?=w.heap[f]?) (j:Nat):w'.cell? ⟨f,j,none⟩=w.cell? ⟨f,j,none⟩:=cell_of_heap h
theorem RAW.ACD (wi:World) (root:Nat) (p:Pn) (F:List Nat) (H:PL):AKE (RAW wi root p F H):=by
 intro w m φ w' m' φ' ha h;have hs:∀ f∈root::F,w'.heap[f]?=w.heap[f]?:=fun f hf=>ha.block f (h.all f hf).2.1 (h.all f hf).2.2.1
 refine⟨h.th.frame ha.mle (fun j _ _=>jZ (hs root (by simp)) j) (fun f hf j=>jZ (hs f (by simp[hf])) j),h.nr,h.nd,fun f hf=>?_⟩;obtain⟨k1,k2,k3,k4,vs,T,k5,k6⟩:=h.all f hf;exact⟨k1,yY k2 ha.size,ha.range k2 k3,fun o=>(ha.mnew f k2 k3 o).trans (k4 o),vs,T,by rw[hs f hf];exact k5,k6⟩
structure ADP (wi:World) (root:Nat) (p:Pn) (F:List Nat) (H:PL) (bq:Nat) (us:List Value) (wa:World) (ma:Mem) (w:World) (m:Mem) (φ:Pl):Prop where
 th:TH wa ma p root 0 F H
 nr:root ∉ F
 nd:F.Nodup
 le:MLe ma m
 inF:bq∈root::F
 own:∃ n,φ 2=some (bq,n)
 row:∃ T,wa.heap[bq]?=some (.cells us.toArray T (0,0))
 bqn:wi.heap.size≤bq
 oth:∀ f∈root::F,f≠bq→wi.heap.size≤f∧f<w.heap.size∧fH φ f∧(∀ o,m f o=none)∧w.heap[f]?=wa.heap[f]?∧∃ (vs:List Value) (T:TypeId),wa.heap[f]?=some (.cells vs.toArray T (0,0))∧∀ v∈vs,v.oneCell'=true
theorem ADP.ACD (wi:World) (root:Nat) (p:Pn) (F:List Nat) (H:PL) (bq:Nat) (us:List Value) (wa:World) (ma:Mem):AKE (ADP wi root p F H bq us wa ma):=by
 intro w m φ w' m' φ' ha h;refine⟨h.th,h.nr,h.nd,h.le.trans ha.mle,h.inF,?_,h.row,h.bqn,fun f hf hne=>?_⟩
 ·obtain⟨n,e⟩:=h.own;obtain⟨n',e',_⟩:=ha.ple _ _ _ e;exact⟨n',e'⟩
 ·obtain⟨k1,k2,k3,k4,k5,k6⟩:=h.oth f hf hne;exact⟨k1,yY k2 ha.size,ha.range k2 k3,fun o=>(ha.mnew f k2 k3 o).trans (k4 o),(ha.block f k2 k3).trans k5,k6⟩
theorem SG {us:List Value} {o:Nat} {v0 v1 v2 v3 v4:Value} (h0:us[o]?=some v0) (h1:us[o+1]?=some v1) (h2:us[o+2]?=some v2) (h3:us[o+3]?=some v3) (h4:us[o+4]?=some v4):us=us.take o++([v0,v1,v2,v3,v4]++us.drop (o+5)):=by
 have g:∀ {o:Nat} {v:Value},us[o]?=some v→us.drop o=v::us.drop (o+1):=by
  intro o v h;obtain⟨hl,rfl⟩:=zX.1 h;exact yL hl
 have:us.drop o=[v0,v1,v2,v3,v4]++us.drop (o+5):=by rw[g h0,g h1,g h2,g h3,g h4];rfl
 rw[← this,xW]
mutual
theorem TH.hole {w:World} {m:Mem} {x:Pn} {b o:Nat} {F:List Nat} {H:PL}:TH w m x b o F H→∀ q∈H,∃ v0 v1 v2 v3 v4,ICells m q.2.cells [v0,v1,v2,v3,v4]∧At5 w q.1.1 q.1.2 v0 v1 v2 v3 v4
 | .fresh h1 h2,q,hq=>by simp at hq;subst hq;exact⟨_,_,_,_,_,h1,h2⟩
 | .leaf _ _ _ _,q,hq=>by simp at hq
 | .node _ _ _ _ _ h6 _ _,q,hq=>THL.hole h6 q hq
theorem THL.hole {w:World} {m:Mem} {xs:List Pn} {b o:Nat} {F:List Nat} {H:PL}:THL w m xs b o F H→∀ q∈H,∃ v0 v1 v2 v3 v4,ICells m q.2.cells [v0,v1,v2,v3,v4]∧At5 w q.1.1 q.1.2 v0 v1 v2 v3 v4
 | .nil _ _,q,hq=>by simp at hq
 | .cons h1 h2,q,hq=>by
  rcases zV.1 hq with h|h
  ·exact TH.hole h1 q h
  ·exact THL.hole h2 q h
end
theorem TS {m:Mem} {φ:Pl}:∀ {cs:List IV} {vs:List Value},ICells m cs vs→RepC m φ (kW cs) vs
 | [],_, .nil=>.nil
 | c::cs,_, .cons a o b=>.cons (.i a) o (TS b)
section
variable {wi:World} {mi:Mem} {nt:Nat}
def gI (pre:List Value) (row:List AV) (post:List Value):List AV:=dR pre++(row++dR post)
theorem GR.RU {ok:Nat→Prop} {root:Nat} {p:Pn} {F:List Nat} {H:PL} {env:Nat→AV} {st:Store} {a:Act} {w:World} {u bq oq:Nat} {y:Pn} (h:GR wi mi nt ok (RAW wi root p F H) env st a w) (hst:st 2=none) (hok:¬ ok 2) (hq:((bq,oq),y)∈H) (hu:env u=.i (.lit (.pointer (some ⟨bq,oq,none⟩)))) :
 ∃ pre post us ma,us.take oq=pre∧us.drop (oq+5)=post∧pre.length=oq∧us.length=oq+5+post.length∧(∀ v∈us,v.oneCell'=true) ∧
   GR wi mi nt (fun id=>ok id∨id=2) (ADP wi root p F H bq us w ma) (upd env u (.own 2 oq)) (upd st 2 (some (.box (gI pre (kW y.cells) post)))) a w:=by
 obtain⟨⟨m,φ,hi,henv,hadv,hk,hr⟩,h6,h7⟩:=h;obtain⟨v0,v1,v2,v3,v4,hc,h5⟩:=hr.th.hole _ hq;simp only at hc h5
 have hinF:bq∈root::F:=by
  rcases hr.th.holes _ hq with e|e
  ·simp at e;simp[e]
  ·simp at e;simp[e]
 obtain⟨k1,k2,k3,k4,us,T,k5,k6⟩:=hr.all bq hinF;have gc:∀ {o:Nat} {v:Value},w.cell? ⟨bq,o,none⟩=some v→us[o]?=some v:=fun h=>by rwa [bX k5]at h
 have hrow:=SG (gc h5.c0) (gc h5.c1) (gc h5.c2) (gc h5.c3) (gc h5.c4);have hl4:=(zX.1 (gc h5.c4)).1;refine⟨us.take oq,us.drop (oq+5),us,m,rfl,rfl,by rw[xK];omega,by rw[zB4];omega,k6,?_⟩
 have hφ2:φ 2=none:=by
  cases e:φ 2 with
  | none=>rfl
  | some q=>exact absurd (hk 2 (by rw[e];simp)) hok
 have hrep:RepC m (upd φ 2 (some (bq,one bq us.length))) (gI (us.take oq) (kW y.cells) (us.drop (oq+5))) us:=by
  have h1:=kM (m:=m) (φ:=upd φ 2 (some (bq,one bq us.length))) (vs:=us.take oq) fun v hv=>k6 v (zJ hv)
  have h2:=kM (m:=m) (φ:=upd φ 2 (some (bq,one bq us.length))) (vs:=us.drop (oq+5)) fun v hv=>k6 v (yO hv)
  have h3:=D9 h1 (D9 (TS hc) h2);rw[← hrow]at h3;exact h3
 have hp:PLe φ (upd φ 2 (some (bq,one bq us.length))):=fun i r n e=>by
  refine⟨n,?_,rfl,fun _ h=>h⟩;have:i≠2:=fun h=>by rw[h,hφ2]at e;cases e
  simp[upd,this,e]
 refine⟨⟨m,upd φ 2 (some (bq,one bq us.length)),hi.RU hst hφ2 k3 k4 k5 hrep,fun t=>?_,hadv.RU k1,fun id hid=>?_,?_⟩,h6,h7⟩
 ·by_cases ht:t=u
  ·subst ht;have:=henv t;rw[hu]at this;simp only[upd,if_true];rw[this.lit_eq];exact .own (n:=one bq us.length) (by simp[upd])
  ·simp only[upd,ht,if_false];exact(henv t).mono (.refl _) hp
 ·by_cases e:id=2
  ·exact .inr e
  ·simp[upd,e]at hid;exact .inl (hk id hid)
 ·refine⟨hr.th,hr.nr,hr.nd, .refl _,hinF,⟨one bq us.length,by simp[upd]⟩,⟨T,k5⟩,k1,fun f hf hne=>?_⟩;obtain⟨q1,q2,q3,q4,q5⟩:=hr.all f hf;refine⟨q1,q2,fun i r n e ho=>?_,q4,rfl,q5⟩;by_cases e2:i=2
  ·subst e2;simp[upd]at e;obtain⟨rfl,rfl⟩:=e;exact hne ho
  ·simp[upd,e2]at e;exact q3 i r n e ho
def slA (n id k:Nat):AV:=if n=0 then .nils else .osl id k 0 n
def l9 (b:Nat):Nat→List Pn→PL
 | _,[]=>[]
 | o,x::l=>((b,o),x)::l9 b (o+5) l
theorem Inv.AQ9 {w:World} {m:Mem} {φ:Pl} {st:Store} {id b:Nat} {n:Ext} {blk blk':Blk} (hi:Inv w m φ st) (h:st id=some blk) (e:φ id=some (b,n)) (hb:BlkOk w m φ b n blk'):Inv w m φ (upd st id (some blk')):=by
 refine⟨hi.mem,?_,?_,hi.low⟩
 ·intro i bl hbl;by_cases hid:i=id
  ·subst hid;simp[upd]at hbl;subst hbl;exact⟨b,n,e,(bW hi e h).1,hb⟩
  ·simp[upd,hid]at hbl;exact hi.live i bl hbl
 ·intro i j r r' n1 n2 b1 b2 f e1 e2 p1 p2 o1 o2
  have g:∀ i b1,upd st id (some blk') i=some b1→∃ b2,st i=some b2:=fun i b1 h1=>by
   by_cases hid:i=id
   ·subst hid;exact⟨blk,h⟩
   ·simp[upd,hid]at h1;exact⟨b1,h1⟩
  obtain⟨x1,y1⟩:=g i b1 e1;obtain⟨x2,y2⟩:=g j b2 e2;exact hi.inj i j r r' n1 n2 x1 x2 f y1 y2 p1 p2 o1 o2
theorem IP {w:World} {m:Mem} {b:Nat}:∀ {ks:List Pn} {o:Nat} {vs:List Value},ICells m (Pn.aA ks).flatten vs→(∀ j v,vs[j]?=some v→w.cell? ⟨b,o+j,none⟩=some v)→THL w m ks b o [] (l9 b o ks)
 | [],o,_,_,_=>.nil b o
 | k::ks,o,vs,h,hw=>by
  simp only[Pn.aA,zD]at h;have h1:=h.take 5;have h2:=h.drop 5;rw[List.take_left' (Pn.dB k)]at h1;rw[List.drop_left' (Pn.dB k)]at h2;have hl:=h1.length;rw[Pn.dB]at hl;have hlen:5≤vs.length:=by rw[xK]at hl;omega
  have hf:THL w m (k::ks) b o ([]++[]) ([((b,o),k)]++l9 b (o+5) ks):=by
   refine .cons ?_ (IP h2 fun j v hj=>?_)
   ·have e:vs.take 5=[vs[0],vs[1],vs[2],vs[3],vs[4]]:=by
     apply List.ext_getElem (by simp;omega);intro i l1 l2;simp at l1 l2
     rcases i with _|_|_|_|_|i
     ·simp
     ·simp
     ·simp
     ·simp
     ·simp
     ·omega
    rw[e]at h1;exact .fresh h1 ⟨hw 0 _ (by simp),hw 1 _ (by simp),hw 2 _ (by simp),hw 3 _ (by simp),hw 4 _ (by simp)⟩
   ·rw[yM]at hj;have:=hw (5+j) v hj
    rwa [← Nat.add_assoc]at this
  exact hf
theorem TCells.rows {w:World}:∀ {cs:List IV} {vs:List Value} {F:List Nat},TCells w cs vs F→∀ f∈F,∃ (us:List Value) (T:TypeId),w.heap[f]?=some (.cells us.toArray T (0,0))∧∀ v∈us,v.oneCell'=true
 | _,_,_, .nil,f,hf=>by simp at hf
 | _,_,_, .lit _ r,f,hf=>r.rows f hf
 | _,_,_, .isl0 _ r,f,hf=>r.rows f hf
 | _,_,_, .isl _ ⟨T,h1,h2⟩ _ _ _ _ g r,f,hf=>by
  rw[yT,zQ,zV]at hf
  rcases hf with e|e|e
  ·rw[e];exact⟨_,T,h1,h2⟩
  ·exact g.rows f e
  ·exact r.rows f e
theorem OE:∀ l:List Ex,jA (Ex.aA l)=true
 | []=>rfl
 | e::l=>by simp only[Ex.aA,jA,OE l,Bool.and_true];rw[Ex.aB];rfl
theorem lG:∀ l:List Int,fP (aI l)=true
 | []=>rfl
 | n::l=>by simp only[aI,fP,lG l,Bool.and_true];rfl
theorem AVO {st:Store} {es:List Ex} {cs:List Int} {idE idC:Nat} (hE:es.length≠0→st idE=some (.tre 5 (Ex.aA es))) (hC:cs.length≠0→st idC=some (.arr 1 (aI cs))) (hne:idE≠idC) :
 ∃ st2,pO st [slA es.length idE 5,slA cs.length idC 1]=some ([.isl (Ex.aA es), .isl (aI cs)],st2)∧∀ i,i≠idE→i≠idC→st2 i=st i:=by
 have hp:=OE es;have hb:=lG cs;have tE:(Ex.aA es).take es.length=Ex.aA es:=zY (by simp);have tC:(aI cs).take cs.length=aI cs:=zY (by simp);by_cases h1:es.length=0<;>by_cases h2:cs.length=0
 ·have:=zZ.1 h1;have:=zZ.1 h2;subst es;subst cs;exact⟨st,by simp[slA,pO,BF,bnd,Ex.aA,aI],fun _ _ _=>rfl⟩
 ·have:=zZ.1 h1;subst es;refine⟨upd st idC none,by simp[slA,pO,BF,bnd,Ex.aA,h2,hC h2,sH,tst,hb,window,tC],fun i _ h=>by simp[upd,h]⟩
 ·have:=zZ.1 h2;subst cs;refine⟨upd st idE none,by simp[slA,pO,BF,bnd,aI,h1,hE h1,sH,tst,hp,window,tE],fun i h _=>by simp[upd,h]⟩
 ·have hC':upd st idE none idC=some (.arr 1 (aI cs)):=by simp[upd,Ne.symm hne,hC h2]
  refine⟨upd (upd st idE none) idC none,by simp[slA,pO,BF,bnd,h1,h2,hE h1,hC',sH,tst,hp,hb,window,tE,tC],fun i h h'=>by simp[upd,h,h']⟩
theorem GR.AQ7 {ok:Nat→Prop} {root:Nat} {p:Pn} {F:List Nat} {H:PL} {env env':Nat→AV} {st st':Store} {a:Act} {w wa:World} {ma:Mem} {u bq oq idE idC idK:Nat} {pre post us:List Value} {k t:Int} {es:List Ex} {cs:List Int} {ks:List Pn}
 (h:GR wi mi nt ok (ADP wi root p F H bq us wa ma) env st a w) (h1:us.take oq=pre) (h2:us.drop (oq+5)=post) (h3:pre.length=oq) (h4:us.length=oq+5+post.length)
 (hq:((bq,oq),Pn.mk k t es cs ks)∈H) (hbox:st 2=some (.box (gI pre [.int k, .int t,slA es.length idE 5,slA cs.length idC 1,slA ks.length idK 5] post)))
 (hE:es.length≠0→st idE=some (.tre 5 (Ex.aA es))) (hC:cs.length≠0→st idC=some (.arr 1 (aI cs))) (hK:ks.length≠0→st idK=some (.arr 5 (Pn.aA ks)))
 (hd:2<idE∧2<idC∧2<idK∧idE≠idC∧idE≠idK∧idC≠idK)
 (hst:∀ i blk,st' i=some blk→i<2∧st i=some blk∧fZ blk) (he:∀ t,env' t=.junk∨(env' t=env t∧(env t=.own 2 oq∨jG st' (env t)))) :
 ∃ F' H' us' b' cap vE vC m2,(((bq,oq),Pn.mk k t es cs ks)::H').Perm (H++l9 b' 0 ks)∧us'=pre++([.int .i64 k, .int .i64 t,vE,vC,if ks.length=0 then .slice none 0 0 else .slice (some ⟨b',0,none⟩) ks.length cap]++post)∧(∀ v∈us',v.oneCell'=true)∧(∀ q∈H,q.1.1≠b') ∧
   GR wi mi nt (fun id=>id≤2) (ADP wi root p F' H' bq us' w m2) env' (upd st' 2 (some (.box (dR us')))) a w:=by
 obtain⟨⟨m,φ,hi,henv,hadv,hk,hr⟩,h6,h7⟩:=h;obtain⟨n2,e2⟩:=hr.own;obtain⟨hb2,hok2⟩:=bW hi e2 hbox;obtain⟨d1,d2,d3,d4,d5,d6⟩:=hd
 cases hok2 with
 | @box T _ vs hh hl hrc hm =>
  have hone:=hrc.one;obtain⟨vp,x,rfl,r1,r2⟩:=lS hrc;obtain⟨vr,vq,rfl,r3,r4⟩:=lS r2;obtain rfl:=(r9 r1).symm;obtain rfl:=(r9 r4).symm
  cases r3 with
  | cons a0 o0 r3 =>
  cases r3 with
  | cons a1 o1 r3 =>
  cases r3 with
  | @cons _ vE _ _ aE oE r3 =>
  cases r3 with
  | @cons _ vC _ _ aC oC r3 =>
  cases r3 with
  | @cons _ vK _ _ aK oK r3 =>
  cases r3
  obtain rfl:=a0.lit_eq;obtain rfl:=a1.lit_eq;obtain⟨st2,ha2,s2⟩:=AVO hE hC d4;obtain⟨FO,O,ab⟩:=lJ hi (.cons aE oE (.cons aC oC .nil)) ha2;obtain⟨FE,FC,hFO,tE,tC⟩:=ab.cells.split 1
  have hfree:∀ f∈FE++FC,wi.heap.size≤f∧f<w.heap.size∧(∀ o,m f o=none)∧(∃ (vs:List Value) (T:TypeId),w.heap[f]?=some (.cells vs.toArray T (0,0))∧∀ v∈vs,v.oneCell'=true)∧O f:=by
   intro f hf;rw[← hFO]at hf;obtain⟨y1,y2,id,b,n,blk,y3,y4,y5⟩:=ab.free f (ab.own f hf);exact⟨DW hadv y4 y5,y2,y1,ab.cells.rows f hf,ab.own f hf⟩
  have hsub:∀ i blk,st2 i=some blk→st i=some blk:=fun i blk e=>(ab.less i blk e).1
  have i2:Inv w m φ st2:=hi.forget hsub;have hA:=hadv;have hm2:∀ o,m bq o=none:=hm;have hlit:BlkOk w m φ bq n2 (.box (dR (pre++([.int .i64 k, .int .i64 t,vE,vC,vK]++post)))):=.box hh hl (kM hone) hm2;have i3:=i2.AQ9 (by rw[s2 2 (by omega) (by omega)];exact hbox) e2 hlit;generalize hus:pre++([.int .i64 k, .int .i64 t,vE,vC,vK]++post)=us' at hh hl hone hlit i3
  have hst2:∀ i blk,upd st' 2 (some (.box (dR us'))) i=some blk→upd st2 2 (some (.box (dR us'))) i=some blk∧fZ blk:=by
   intro i blk hb;by_cases hid:i=2
   ·subst hid;simp[upd]at hb ⊢;refine⟨hb,?_⟩;subst hb;intro c hc;obtain⟨v,_,rfl⟩:=xZ.1 hc;exact .inl ⟨v,rfl⟩
   ·simp[upd,hid]at hb ⊢;obtain⟨q1,q2,q3⟩:=hst i blk hb;exact⟨by rw[s2 i (by omega) (by omega)];exact q2,q3⟩
  have i4:=i3.cut hst2
  have hat:At5 w bq oq (.int .i64 k) (.int .i64 t) vE vC vK:=by
   have g:∀ (j:Nat) (v:Value),[Value.int .i64 k, .int .i64 t,vE,vC,vK][j]?=some v→w.cell? ⟨bq,oq+j,none⟩=some v:=by
    intro j v hj;have hj5:=(zX.1 hj).1;rw[bX hh,← hus,zB (by omega),h3,xN,yV hj5];exact hj
   exact⟨g 0 _ rfl,g 1 _ rfl,g 2 _ rfl,g 3 _ rfl,g 4 _ rfl⟩
  have hHlt:∀ q∈H,q.1.1∈root::F:=fun q hq=>by
   rcases hr.th.holes q hq with e|e
   ·simp[e]
   ·simp[e]
  have hlt:∀ f∈root::F,f<w.heap.size:=fun f hf=>by
   by_cases hne:f=bq
   ·subst hne;exact(zG.1 hh).1
   ·exact(hr.oth f hf hne).2.1
  have hmon:=hr.le;have h22:=s2 2 (by omega) (by omega)
  have hG0:∀ f∈FE++FC,wi.heap.size≤f∧f<w.heap.size∧fH (JA (upd st' 2 (some (.box (dR us')))) φ) f∧(∀ o,m f o=none)∧(∃ (vs:List Value) (T:TypeId),w.heap[f]?=some (.cells vs.toArray T (0,0))∧∀ v∈vs,v.oneCell'=true)∧f≠bq∧f ∉ root::F:=by
   intro f hf;obtain⟨y1,y2,y3,y4,y5⟩:=hfree f hf;have hfb:f≠bq:=fun e=>(ab.less 2 _ (h22.trans hbox)).2 _ _ e2 bq hb2.1 (e ▸ y5)
   refine⟨y1,y2,fun id r n e ho=>?_,y3,y4,hfb,fun hm'=>?_⟩
   ·obtain⟨z1,z2⟩:=fB e;by_cases hid:id=2
    ·subst hid;exact(ab.less 2 _ (h22.trans hbox)).2 _ _ z1 f ho y5
    ·simp[upd,hid]at z2
     cases hx:st' id with
     | none=>exact z2 hx
     | some blk =>
      obtain⟨u1,u2,_⟩:=hst id blk hx;exact(ab.less id blk ((s2 id (by omega) (by omega)).trans u2)).2 _ _ z1 f ho y5
   ·obtain⟨_,_,id,b,n,blk,x3,x4,x5⟩:=ab.free f y5;exact(hr.oth f hm' hfb).2.2.1 id b n x4 x5
  have hnd0:(FE++FC).Nodup:=hFO ▸ ab.nodup;have kE:KCells w [.isl (Ex.aA es)] [vE] FE:=by simpa using tE.toK
  have kC:KCells w [.isl (aI cs)] [vC] FC:=by simpa using tC.toK
  have hnil:(es=[]→vE=.slice none 0 0)∧(cs=[]→vC=.slice none 0 0):=by
   refine⟨fun h=>?_,fun h=>?_⟩
   ·subst h;simp only[slA,zI,if_true]at aE;cases aE;rfl
   ·subst h;simp only[slA,zI,if_true]at aC;cases aC;rfl
  obtain⟨b',cap,G,hvK,hTH,hG,hGn,hbn⟩:∃ b' cap G,vK=(if ks.length=0 then Value.slice none 0 0 else Value.slice (some ⟨b',0,none⟩) ks.length cap)∧TH w m (.mk k t es cs ks) bq oq G (l9 b' 0 ks) ∧
   (∀ f∈G,wi.heap.size≤f∧f<w.heap.size∧fH (JA (upd st' 2 (some (.box (dR us')))) φ) f∧(∀ o,m f o=none)∧(∃ (vs:List Value) (T:TypeId),w.heap[f]?=some (.cells vs.toArray T (0,0))∧∀ v∈vs,v.oneCell'=true)∧f≠bq∧f ∉ root::F)∧G.Nodup∧∀ q∈H,q.1.1≠b':=by
   by_cases h0:ks.length=0
   ·have hks:ks=[]:=zZ.1 h0;subst hks;simp only[slA,zI,if_true]at aK
    cases aK
    exact⟨w.heap.size,0,FE++FC,rfl, .leaf hat kE kC hnil,hG0,hnd0,fun q hq e=>by have:=hlt _ (hHlt q hq);omega⟩
   ·simp only[slA,h0,if_false]at aK
    cases aK with
    | @osl _ _ _ _ cap b' nK ao eK l1 l2 l3 l4 =>
     have hao:=l3 (by omega);subst hao;have hK2:st2 idK=some (.arr 5 (Pn.aA ks)):=by rw[s2 idK (by omega) (by omega)];exact hK h0
     obtain⟨hbK,hokK⟩:=bW i2 eK hK2
     cases hokK with
     | @arr TK _ _ vk q1 q2 q3 q4 q5 q6 q7 q8 q9 =>
      have hb'q:b'≠bq:=fun e=>by
       subst e;have:=hi.inj idK 2 b' b' nK n2 _ _ b' (hK h0) hbox eK e2 hbK.1 hb2.1;omega
      have hnF:b' ∉ root::F:=fun hm=>by
       exact(hr.oth b' hm hb'q).2.2.1 idK b' nK eK hbK.1
      have hb0:b' ∉ FE++FC:=fun hm'=>(ab.less idK _ hK2).2 _ _ eK b' hbK.1 (hfree b' hm').2.2.2.2
      refine⟨b',cap,FE++FC++(b'::[]),by simp[h0],?_,?_,?_,fun q hq e=>hnF (e ▸ hHlt q hq)⟩
      ·refine .node hat kE kC (fun e=>h0 (by rw[e];rfl)) (by omega) ?_ (by
        rw[bX q1];have:5*cap-1<vk.length:=by omega
        rw[zT this];rfl) hnil
       rw[Pn.aV]at q5
       exact IP q5 fun j v hj=>by
        rw[zK,bX q1];rw[zH]at hj;split at hj
        ·exact hj
        ·cases hj
      rotate_left
      ·rw[zL];refine⟨hnd0,by simp,fun x hx y hy e=>?_⟩;simp at hy;subst hy;subst e;exact hb0 hx
      ·intro f hf
       rcases zV.1 hf with hf|hf
       ·exact hG0 f hf
       simp at hf;subst hf;refine⟨DW hadv eK hbK.1,hbK.2 _ hbK.1,?_,q7,⟨vk,TK,q1,q9⟩,hb'q,hnF⟩;refine qI i3 hst2 (id:=idK) (blk:=.arr 5 (Pn.aA ks)) (by simp[upd,show idK≠2 by omega,hK2]) ?_ eK hbK.1;have:idK≠2:=by omega
       simp only[upd,this,if_false]
       cases hx:st' idK with
       | none=>rfl
       | some blk=>have:=(hst idK blk hx).1;omega
  obtain⟨T0,hrow0⟩:=hr.row
  have hsame:∀ f∈root::F,∀ j,(f≠bq∨j<oq∨oq+5≤j)→w.cell? ⟨f,j,none⟩=wa.cell? ⟨f,j,none⟩:=by
   intro f hf j hj;by_cases hne:f=bq
   ·subst hne;rw[bX hh,bX hrow0,← hus]
    rcases hj with hj|hj|hj
    ·exact absurd rfl hj
    ·rw[yV (by omega),← h1,zH];simp[hj]
    ·rw[zB (by omega),zB (by simp;omega),← h2,yM];simp only[zS,zI,h3];congr 1;omega
   ·exact jZ (hr.oth f hf hne).2.2.2.2.1 j
  obtain⟨F1,H1,k1,k2,k3⟩:=TH.fill hmon hTH hr.th hr.nr hr.nd hq hsame;have hF1:∀ f,f∈F1↔f∈F∨f∈G:=fun f=>by rw[k2.mem_iff,zV]
  refine⟨F1,H1,us',b',cap,vE,vC,m,k3,by rw[← hus,hvK],hone,hbn,⟨⟨m,JA (upd st' 2 (some (.box (dR us')))) φ,i4,fun x=>?_,hA.cut,fun id hid=>?_,?_⟩,h6,h7⟩⟩
  ·rcases he x with e|⟨e,e'|e'⟩
   ·rw[e];exact .junk _
   ·rw[e,e'];have hx:=henv x;rw[e']at hx;generalize a.tmps.getD x undef=yy at hx ⊢
    cases hx with
    | own e3=>exact .own (by rw[qL (by simp[upd])];exact e3)
   ·rw[e];refine jG.rep e' (fun i hi'=>?_) (henv x);refine qL ?_;by_cases hid:i=2
    ·subst hid;simp[upd]
    ·simpa [upd,hid]using hi'
  ·cases hx:JA (upd st' 2 (some (.box (dR us')))) φ id with
   | none=>exact absurd hx hid
   | some q =>
    have:=(fB hx).2;by_cases hid2:id=2
    ·omega
    ·simp[upd,hid2]at this
     cases hy:st' id with
     | none=>exact absurd hy this
     | some blk=>have:=(hst id blk hy).1;omega
  ·refine⟨k1,fun hm=>?_,?_, .refl _,?_,⟨n2,by rw[qL (by simp[upd])];exact e2⟩,⟨T,hh⟩,hr.bqn,fun f hf hne=>?_⟩
   ·rcases(hF1 root).1 hm with h|h
    ·exact hr.nr h
    ·exact(hG root h).2.2.2.2.2.2 (by simp)
   ·rw[k2.nodup_iff];exact zL.2 ⟨hr.nd,hGn,fun x hx y hy e=>(hG y hy).2.2.2.2.2.2 (by rw[← e];simp[hx])⟩
   ·rcases zQ.1 hr.inF with e|e
    ·simp[e]
    ·simp[(hF1 bq).2 (.inl e)]
   ·have hf':f∈root::F∨f∈G:=by
     rcases zQ.1 hf with e|e
     ·exact .inl (by simp[e])
     ·rcases(hF1 f).1 e with e|e
      ·exact .inl (by simp[e])
      ·exact .inr e
    rcases hf' with hf'|hf'
    ·obtain⟨q1,q2,q3,q4,q5,vs,T',q6,q7⟩:=hr.oth f hf' hne;refine⟨q1,q2,q3.cut,fun o=>?_,rfl,vs,T',by rw[q5];exact q6,q7⟩;exact q4 o
    ·obtain⟨q1,q2,q3,q4,q5,_⟩:=hG f hf';exact⟨q1,q2,q3,q4,rfl,q5⟩
theorem GR.TU {ok:Nat→Prop} {root:Nat} {p:Pn} {F:List Nat} {H:PL} {env env':Nat→AV} {st st':Store} {a:Act} {w wa:World} {ma:Mem} {bq:Nat} {us:List Value}
 (h:GR wi mi nt ok (ADP wi root p F H bq us wa ma) env st a w) (hbox:st 2=some (.box (dR us)))
 (hst:∀ i blk,st' i=some blk→i≠2∧st i=some blk∧fZ blk) (he:∀ t,env' t=.junk∨(env' t=env t∧jG st' (env t))) :
 GR wi mi nt (fun id=>st' id≠none) (RAW wi root p F H) env' st' a w:=by
 obtain⟨⟨m,φ,hi,henv,hadv,hk,hr⟩,h6,h7⟩:=h;obtain⟨n2,e2⟩:=hr.own;obtain⟨hb2,hok2⟩:=bW hi e2 hbox;have hst2:∀ i blk,st' i=some blk→st i=some blk∧fZ blk:=fun i blk hb=>(hst i blk hb).2
 cases hok2 with
 | @box T _ vs hh hl hrc hm =>
  have hone:=hrc.one;obtain rfl:=(r9 hrc).symm;obtain⟨T0,hrow0⟩:=hr.row
  have hcell:∀ f∈root::F,∀ j,w.cell? ⟨f,j,none⟩=wa.cell? ⟨f,j,none⟩:=by
   intro f hf j;by_cases hne:f=bq
   ·subst hne;rw[bX hh,bX hrow0]
   ·exact jZ (hr.oth f hf hne).2.2.2.2.1 j
  refine⟨⟨m,JA st' φ,hi.cut hst2,fun x=>?_,hadv.cut,fun id hid=>?_,?_⟩,h6,h7⟩
  ·rcases he x with e|⟨e,e'⟩
   ·rw[e];exact .junk _
   ·rw[e];exact e'.rep (fun i hi'=>qL hi') (henv x)
  ·cases hx:JA st' φ id with
   | none=>exact absurd hx hid
   | some q=>exact(fB hx).2
  ·refine⟨hr.th.frame hr.le (fun j _ _=>hcell root (by simp) j) (fun f hf j=>hcell f (by simp[hf]) j),hr.nr,hr.nd,fun f hf=>?_⟩;by_cases hne:f=bq
   ·subst hne;refine⟨hr.bqn,(zG.1 hh).1,?_,hm,us,T,hh,hone⟩;refine qI hi hst2 hbox ?_ e2 hb2.1
    cases hx:st' 2 with
    | none=>rfl
    | some blk=>exact absurd rfl (hst 2 blk hx).1
   ·obtain⟨q1,q2,q3,q4,q5,vs',T',q6,q7⟩:=hr.oth f hf hne;exact⟨q1,q2,q3.cut,q4,vs',T',by rw[q5];exact q6,q7⟩
end
theorem N7 {m:Mem} {φ:Pl}:∀ {cs:List IV} {vs:List Value},RepC m φ (kW cs) vs→ICells m cs vs
 | [],_, .nil=>.nil
 | c::cs,_, .cons a o b=>by
  cases a with
  | i a=>exact .cons a o (N7 b)
section
variable {wi:World} {mi:Mem} {nt:Nat}
theorem GR.ATJ {ok:Nat→Prop} {R:World→Mem→Pl→Prop} {p:Pn} {env:Nat→AV} {st st':Store} {a:Act} {w:World} {u id:Nat} (h:GR wi mi nt ok R env st a w) (hu:env u=.own id 0) (hbox:st id=some (.box (kW p.cells)))
 (hst:∀ i blk,st' i=some blk→i≠id∧st i=some blk∧fZ blk) :
 ∃ b3,∀ env',(∀ t,env' t=.junk∨(t=u∧env' t=.i (.lit (.pointer (some ⟨b3,0,none⟩))))∨(env' t=env t∧jG st' (env t)))→GR wi mi nt (fun i=>st' i≠none) (RAW wi b3 p [] [((b3,0),p)]) env' st' a w:=by
 obtain⟨⟨m,φ,hi,henv,hadv,hk,_⟩,h6,h7⟩:=h;have hr:=henv u;rw[hu]at hr;generalize hy:a.tmps.getD u undef=yy at hr
 cases hr with
 | @own _ _ b3 n3 e3 =>
  obtain⟨hb,hok⟩:=bW hi e3 hbox;have hst2:∀ i blk,st' i=some blk→st i=some blk∧fZ blk:=fun i blk hb=>(hst i blk hb).2
  cases hok with
  | @box T _ vs hh hl hrc hm =>
   have hc:=N7 hrc;have hlen:=hc.length;rw[Pn.dB]at hlen
   obtain⟨v0,v1,v2,v3,v4,rfl⟩:∃ v0 v1 v2 v3 v4,vs=[v0,v1,v2,v3,v4]:=by
    match vs,hlen with
    | [v0,v1,v2,v3,v4],_=>exact⟨v0,v1,v2,v3,v4,rfl⟩
   refine⟨b3,fun env' he=>⟨⟨m,JA st' φ,hi.cut hst2,fun t=>?_,hadv.cut,fun i hi'=>?_,?_⟩,h6,h7⟩⟩
   ·rcases he t with e|⟨rfl,e⟩|⟨e,e'⟩
    ·rw[e];exact .junk _
    ·rw[e,hy];exact .i (.lit _)
    ·rw[e];exact e'.rep (fun i hi'=>qL hi') (henv t)
   ·cases hx:JA st' φ i with
    | none=>exact absurd hx hi'
    | some q=>exact(fB hx).2
   ·refine⟨.fresh hc ⟨by rw[bX hh];rfl,by rw[bX hh];rfl,by rw[bX hh];rfl,by rw[bX hh];rfl,by rw[bX hh];rfl⟩,by simp,List.nodup_nil,fun f hf=>?_⟩;simp at hf;subst hf;refine⟨DW hadv e3 hb.1,hb.2 _ hb.1,?_,hm,_,T,hh,hrc.one⟩;refine qI hi hst2 hbox ?_ e3 hb.1
    cases hx:st' id with
    | none=>rfl
    | some blk=>exact absurd rfl (hst id blk hx).1
theorem GR.fin {ok:Nat→Prop} {root:Nat} {p:Pn} {F:List Nat} {env:Nat→AV} {st:Store} {a:Act} {w:World} (h:GR wi mi nt ok (RAW wi root p F []) env st a w) (hst:∀ i blk,st i=some blk→fZ blk) {u:Nat} (hu:env u=.i (.lit (.pointer (some ⟨root,0,none⟩)))) {env':Nat→AV} (he:∀ t,env' t=.junk∨(t=u∧env' t=.i (.iref p.cells))∨(env' t=env t∧jG st (env t))) :
 GR wi mi nt ok (fun _ _ _=>True) env' st a w:=by
 classical
 obtain⟨⟨m,φ,hi,henv,hadv,hk,hr⟩,h6,h7⟩:=h
 let m':Mem:=fun f o=>if f∈root::F then w.cell? ⟨f,o,none⟩else m f o
 have hin:∀ f,f∈root::F→∀ o,m' f o=w.cell? ⟨f,o,none⟩:=fun f hf o=>by show(if f∈root::F then _ else _)=_;rw[if_pos hf]
 have hout:∀ f,f ∉ root::F→∀ o,m' f o=m f o:=fun f hf o=>by show(if f∈root::F then _ else _)=_;rw[if_neg hf]
 have hle:MLe m m':=fun f o v e=>by
  by_cases hf:f∈root::F
  ·rw[(hr.all f hf).2.2.2.1 o]at e;cases e
  ·rw[hout f hf];exact e
 have hmem:mM w m':=fun f o v e=>by
  by_cases hf:f∈root::F
  ·rw[hin f hf]at e;exact e
  ·rw[hout f hf]at e;exact hi.mem f o v e
 have hat:IAt m' root 0 p.cells:=hr.th.iat hle (fun j _ _=>hin root (by simp) j) (fun f hf j=>hin f (by simp[hf]) j);refine⟨⟨m',φ,⟨hmem,fun i blk hb=>?_,hi.inj,hi.low⟩,fun t=>?_,⟨hadv.size,hadv.os,hadv.tape,hadv.output,hadv.block,hadv.mle.trans hle,fun f hf hfr o=>?_,hadv.ple,hadv.pnew⟩,hk,trivial⟩,h6,h7⟩
 ·obtain⟨b,n,q1,q2,q3⟩:=hi.live i blk hb;refine⟨b,n,q1,q2,q3.PN (hst i blk hb) rfl fun o ho=>?_⟩;rw[hout b (fun hf=>(hr.all b hf).2.2.1 i b n q1 q2.1)];exact ho
 ·rcases he t with e|⟨rfl,e⟩|⟨e,e'⟩
  ·rw[e];exact .junk _
  ·have hx:=henv t;rw[hu]at hx;rw[e,hx.lit_eq];exact .i (.iref hat)
  ·rw[e];exact e'.rep (fun _ _=>rfl) (henv t)
 ·rw[hout f (fun hf'=>by have:=(hr.all f hf').1;omega)];exact hadv.mnew f hf hfr o
theorem RAW.keep {root:Nat} {p:Pn} {F:List Nat} {H:PL} {w:World} {m:Mem} {φ:Pl} (ids:List Nat) (h:RAW wi root p F H w m φ):RAW wi root p F H w m (eG ids φ):=by
 refine⟨h.th,h.nr,h.nd,fun f hf=>?_⟩;obtain⟨k1,k2,k3,k4,k5⟩:=h.all f hf;refine⟨k1,k2,fun id r n e=>?_,k4,k5⟩;unfold eG at e
 cases hx:ids[id]? with
 | none=>rw[hx]at e;cases e
 | some j=>rw[hx]at e;exact k3 j r n e
theorem GR.settle {ok:Nat→Prop} {R:World→Mem→Pl→Prop} (hR:∀ w m φ ids,R w m φ→R w m (eG ids φ)) {env:Nat→AV} {st:Store} {a:Act} {w:World} (G:List Nat) (h:GR wi mi nt ok R env st a w) :
 GR wi mi nt (fun id=>id<(Av.settle G 0 env st).st.length) R (aY (Av.settle G 0 env st).env) (aT (Av.settle G 0 env st).st) a w:=by
 obtain⟨⟨m,φ,hi,henv,hadv,hok,hK⟩,hsz,hdf⟩:=h;unfold Av.settle sP;generalize hids:gY st 0 (uW env G)=ids;have hd:ids.Nodup:=by rw[← hids];exact fT _ _ _
 refine⟨⟨m,eG ids φ,hi.keep hd,?_,hadv.keep (fun id h=>absurd rfl h) (fun j hj=>absurd hj (xD j)),?_,hR _ _ _ ids hK⟩,hsz,hdf⟩
 ·intro t
  have key:∀ G:List Nat,Rep m (eG ids φ) (aY (kV (gP ids) env G) t) (a.tmps.getD t undef):=by
   intro G
   induction G with
   | nil=>exact .junk _
   | cons u G ih =>
    simp only[kV,aY];by_cases e:t=u
    ·subst e;simp only[if_true];exact(henv t).ren (kN ids φ)
    ·simp only[e,if_false];exact ih
  exact key G
 ·intro id hne;simp only[gD];unfold eG at hne
  cases hx:ids[id]? with
  | none=>rw[hx]at hne;exact absurd rfl hne
  | some i=>exact(zX.1 hx).1
theorem GR.envTo {ok:Nat→Prop} {R:World→Mem→Pl→Prop} {env env':Nat→AV} {st:Store} {a:Act} {w:World} (h:GR wi mi nt ok R env st a w) (he:∀ t,env' t=.junk∨env' t=env t):GR wi mi nt ok R env' st a w:=by
 refine h.turn fun m φ h1 h2 h3 h4 h5=>⟨m,φ,h1,fun t=>?_,h3,h4,h5⟩
 rcases he t with e|e
 ·rw[e];exact .junk _
 ·rw[e];exact h2 t
theorem GR.ok' {ok ok':Nat→Prop} {R:World→Mem→Pl→Prop} {env:Nat→AV} {st:Store} {a:Act} {w:World} (h:GR wi mi nt ok R env st a w) (he:∀ id,ok id→ok' id):GR wi mi nt ok' R env st a w :=
 h.turn fun m φ h1 h2 h3 h4 h5=>⟨m,φ,h1,h2,h3,fun id hi=>he id (h4 id hi),h5⟩
theorem GR.AO1 {C:Ctx} (hS:SoundOk C) {G:List Nat} {c:Code} {S:AS} {a:Act} {w:World} {R:World→Mem→Pl→Prop} (hR:AKE R) {PP:AExit→AS→Prop} (hc:codeOk nt c=true) (hx:∃ e S',eY C G S.st.length c S=some (e,S')∧PP e S') (h:GR wi mi nt (fun id=>id<S.st.length) R (aY S.env) (aT S.st) a w) (hnr:bJ c=true:=by rfl) :
 c.wp C.P (fun e' a' w'=>∃ e S',e'=jP e∧PP e S'∧GR wi mi nt (fun id=>id<S'.st.length) R (aY S'.env) (aT S'.st) a' w') a w:=by
 obtain⟨e,S',h1,h2⟩:=hx;refine wp_mono (GR.iJ hS hR hc h1 h hnr) ?_;rintro e' a' w' ⟨rfl,hg⟩;exact⟨e,S',rfl,h2,hg⟩
end
@[simp] theorem AB (a:List Value):(dR a).length=a.length:=by simp[dR]
theorem OL {α:Type}:∀ (a b:List α) (n:Nat),dropE (a.length+n) (a++b)=dropE n b
 | [],b,n=>by simp
 | x::a,b,n=>by
  rw[zS,show a.length+1+n=(a.length+n)+1 by omega];exact OL a b n
theorem HV {α:Type}:∀ (a b:List α) (n:Nat) (xs:List α),splice (a++b) (a.length+n) xs=bnd (splice b n xs) fun l=>some (a++l)
 | [],b,n,xs=>by simp;cases splice b n xs<;>rfl
 | x::a,b,n,xs=>by
  rw[zS,show a.length+1+n=(a.length+n)+1 by omega];show bnd (splice (a++b) (a.length+n) xs) _=_;rw[HV a b n xs]
  cases splice b n xs<;>rfl
theorem KW (pre post:List Value) (row:List AV) (j n:Nat):cut (gI pre row post) (pre.length+j) n=cut (row++dR post) j n:=by
 unfold cut gI;have:=OL (dR pre) (row++dR post) j;rw[AB]at this;rw[this]
theorem sO (pre post:List Value) (row:List AV) (j:Nat) (xs:List AV):splice (gI pre row post) (pre.length+j) xs=bnd (splice (row++dR post) j xs) fun l=>some (dR pre++l):=by
 unfold gI;have:=HV (dR pre) (row++dR post) j xs;rw[AB]at this;exact this
theorem tL (a:List Value):aZ (dR a)=[]:=by
 induction a with
 | nil=>rfl
 | cons v a ih=>simpa [dR,aZ,dC]using ih
theorem vS (r:Nat→Option Nat) (a:List Value):vG r (dR a)=dR a:=by
 induction a with
 | nil=>rfl
 | cons v a ih=>simpa [dR,vG,ren]using ih
theorem IY (a b:List AV):aZ (a++b)=aZ a++aZ b:=by
 induction a with
 | nil=>rfl
 | cons c a ih=>simp[aZ,ih]
theorem SX (r:Nat→Option Nat) (a b:List AV):vG r (a++b)=vG r a++vG r b:=by
 induction a with
 | nil=>rfl
 | cons c a ih=>simp[vG,ih]
theorem bA (pre post:List Value) (row:List AV):aZ (gI pre row post)=aZ row:=by
 simp[gI,IY,tL]
theorem bS (r:Nat→Option Nat) (pre post:List Value) (row:List AV):vG r (gI pre row post)=gI pre (vG r row) post:=by
 simp[gI,SX,vS]
section
variable (pre post:List Value) (a0 a1 a2 a3 a4 x:AV)
theorem ARD:cut (gI pre [a0,a1,a2,a3,a4] post) (pre.length+2) 1=some [a2]:=by rw[KW];rfl
theorem ARC:cut (gI pre [a0,a1,a2,a3,a4] post) (pre.length+3) 1=some [a3]:=by rw[KW];rfl
theorem ARB:cut (gI pre [a0,a1,a2,a3,a4] post) (pre.length+4) 1=some [a4]:=by rw[KW];rfl
theorem PY:splice (gI pre [a0,a1,a2,a3,a4] post) (pre.length+2) [x]=some (gI pre [a0,a1,x,a3,a4] post):=by rw[sO];rfl
theorem ADC:splice (gI pre [a0,a1,a2,a3,a4] post) (pre.length+3) [x]=some (gI pre [a0,a1,a2,x,a4] post):=by rw[sO];rfl
theorem MK:splice (gI pre [a0,a1,a2,a3,a4] post) (pre.length+4) [x]=some (gI pre [a0,a1,a2,a3,x] post):=by rw[sO];cases post<;>rfl
theorem AHD:nJ 1 (dropE (pre.length+2) (gI pre [a0,a1,a2,a3,a4] post))=some [a2]:=ARD pre post a0 a1 a2 a3 a4
theorem AOV:nJ 1 (dropE (pre.length+3) (gI pre [a0,a1,a2,a3,a4] post))=some [a3]:=ARC pre post a0 a1 a2 a3 a4
theorem UM:nJ 1 (dropE (pre.length+4) (gI pre [a0,a1,a2,a3,a4] post))=some [a4]:=ARB pre post a0 a1 a2 a3 a4
end
mutual
theorem TH.AUV {w:World} {m m':Mem} (hm:MLe m m') {x:Pn} {b o:Nat} {F:List Nat} {H:PL}:TH w m x b o F H→(∀ j,o≤j→j<o+5→m' b j=w.cell? ⟨b,j,none⟩)→(∀ f∈F,∀ j,m' f j=w.cell? ⟨f,j,none⟩)→IAt m' b o x.cells
 | .fresh h1 h2,hb,hF=>by
  refine IAt.mk o (h1.mono hm) fun j v hj=>?_
  rcases j with _|_|_|_|_|j
  ·simp at hj;subst hj;exact(hb _ (by omega) (by omega)).trans h2.c0
  ·simp at hj;subst hj;exact(hb _ (by omega) (by omega)).trans h2.c1
  ·simp at hj;subst hj;exact(hb _ (by omega) (by omega)).trans h2.c2
  ·simp at hj;subst hj;exact(hb _ (by omega) (by omega)).trans h2.c3
  ·simp at hj;subst hj;exact(hb _ (by omega) (by omega)).trans h2.c4
  ·simp at hj
 | .leaf h1 h2 h3 h4,hb,hF=>by
  rw[Pn.bD];exact .cons ((hb _ (by omega) (by omega)).trans h1.c0) (.lit _) rfl (.cons ((hb _ (by omega) (by omega)).trans h1.c1) (.lit _) rfl (.cons ((hb _ (by omega) (by omega)).trans h1.c2) (h2.rep fun f hf=>hF f (by simp[hf])) h2.one (.cons ((hb _ (by omega) (by omega)).trans h1.c3) (h3.rep fun f hf=>hF f (by simp[hf])) h3.one (.cons ((hb _ (by omega) (by omega)).trans h1.c4) (.isl0 _ _ fun _=>rfl) rfl (.nil _ _)))))
 | .node h1 h2 h3 h4 h5 h6 h7 h8,hb,hF=>by
  rename_i ks b' cap vE vC FE FC F;rw[Pn.bD];have he:=THL.AR1 hm h6 (fun j _ _=>hF b' (by simp) j) (fun f hf=>hF f (by simp[hf]));have hl:(Pn.aA ks).length=ks.length:=by simp
  have hn:Pn.aA ks≠[]:=fun e=>by rw[e]at hl;simp at hl;exact h4 (zZ.1 hl.symm)
  have hk:IRep m' (.isl (Pn.aA ks)) (.slice (some ⟨b',0,none⟩) ks.length cap):=by
   have:=IRep.isl (cap:=cap) hn he (by omega)
   rwa [hl]at this
  exact .cons ((hb _ (by omega) (by omega)).trans h1.c0) (.lit _) rfl (.cons ((hb _ (by omega) (by omega)).trans h1.c1) (.lit _) rfl (.cons ((hb _ (by omega) (by omega)).trans h1.c2) (h2.rep fun f hf=>hF f (by simp[hf])) h2.one (.cons ((hb _ (by omega) (by omega)).trans h1.c3) (h3.rep fun f hf=>hF f (by simp[hf])) h3.one (.cons ((hb _ (by omega) (by omega)).trans h1.c4) hk rfl (.nil _ _)))))
theorem THL.AR1 {w:World} {m m':Mem} (hm:MLe m m') {xs:List Pn} {b o:Nat} {F:List Nat} {H:PL}:THL w m xs b o F H→(∀ j,o≤j→j<o+5*xs.length→m' b j=w.cell? ⟨b,j,none⟩)→(∀ f∈F,∀ j,m' f j=w.cell? ⟨f,j,none⟩)→IElems m' b o 5 (Pn.aA xs)
 | .nil b o,hb,hF=>by simp only[Pn.aA];exact .nil b o 5
 | .cons h1 h2,hb,hF=>by
  simp only[Pn.aA];exact .cons (TH.AUV hm h1 (fun j l1 l2=>hb j l1 (by simp only[zS];omega)) (fun f hf=>hF f (by simp[hf]))) (Pn.dB _) (THL.AR1 hm h2 (fun j l1 l2=>hb j (by omega) (by simp only[zS];omega)) (fun f hf=>hF f (by simp[hf])))
end
theorem THL.nth {w:World} {m:Mem} {b:Nat}:∀ {xs:List Pn} {o:Nat} {F:List Nat} {i:Nat} {x:Pn},THL w m xs b o F []→xs[i]?=some x →
 ∃ Fa Fi Fz,F=Fa++(Fi++Fz)∧TH w m x b (o+5*i) Fi []∧∀ {w':World} {m':Mem} {y:Pn} {G:List Nat} {HY:PL},MLe m m'→(∀ j,o≤j→j<o+5*xs.length→(j<o+5*i∨o+5*i+5≤j)→w'.cell? ⟨b,j,none⟩=w.cell? ⟨b,j,none⟩) →
   (∀ f∈Fa++Fz,∀ j,w'.cell? ⟨f,j,none⟩=w.cell? ⟨f,j,none⟩)→TH w' m' y b (o+5*i) G HY→THL w' m' (xs.set i y) b o (Fa++(G++Fz)) HY:=by
 intro xs
 induction xs with
 | nil=>intro o F i x _ h;simp at h
 | cons a xs ih =>
  intro o F i x h hx;generalize hH:([]:PL)=H at h
  cases h with
  | @cons _ _ _ _ F1 F2 H1 H2 h1 h2 =>
   obtain⟨rfl,rfl⟩:=zB1.1 hH.symm
   cases i with
   | zero =>
    simp at hx;subst hx;refine⟨[],F1,F2,by simp,by simpa using h1,fun {w' m' y G HY} hm hw hF hy=>?_⟩;have k2:=THL.frame hm (fun j l1 l2=>hw j (by omega) (by simp only[zS];omega) (.inr (by omega))) (fun f hf=>hF f (by simp[hf])) h2;have:=THL.cons hy k2;simpa using this
   | succ i =>
    obtain⟨Fa,Fi,Fz,e,h3,h4⟩:=ih h2 (by simpa using hx);subst e;refine⟨F1++Fa,Fi,Fz,by simp,by rw[show o+5*(i+1)=o+5+5*i by omega];exact h3,fun {w' m' y G HY} hm hw hF hy=>?_⟩;rw[show o+5*(i+1)=o+5+5*i by omega]at hy;have k1:=TH.frame hm (fun j l1 l2=>hw j l1 (by simp only[zS];omega) (.inl (by omega))) (fun f hf=>hF f (by simp[hf])) h1;have k2:=h4 hm (fun j l1 l2 l3=>hw j (by omega) (by simp only[zS];omega) (by omega)) (fun f hf=>hF f (by rcases zV.1 hf with h|h<;>simp[h])) hy;have:=THL.cons k1 k2;simpa using this
theorem ADT {path:List Int} {x y z:Pn} {i:Nat} (h:Pn.at path x=some y):Pn.put (path++[(i:Int)]) x z=Pn.put path x (.mk y.kind y.table y.exprs y.cols (y.kids.set i z)):=by
 induction path generalizing x with
 | nil =>
  simp only[Pn.at,Option.some.injEq]at h;subst h
  cases hk:x.kids[i]? with
  | none =>
   have:x.kids.length≤i:=by simpa using hk
   simp[Pn.put,hk,List.set_eq_of_length_le this,Pn.eta]
  | some k=>simp[Pn.put,hk]
 | cons j path ih =>
  simp only[Pn.at]at h;split at h
  ·rename_i h0
   cases hk:x.kids[j.toNat]? with
   | none=>rw[hk]at h;cases h
   | some k =>
    rw[hk]at h;have:=ih h;simp[Pn.put,hk,this]
  ·cases h
structure AtP (w:World) (m:Mem) (x:Pn) (b o:Nat) (F:List Nat) (path:List Int) (y:Pn) (bq oq:Nat) (Fa Fy Fz:List Nat):Prop where
 eq:F=Fa++(Fy++Fz)
 inb:bq∈b::Fa
 nr:b ∉ F
 nd:F.Nodup
 is:Pn.at path x=some y
 th:TH w m y bq oq Fy []
 fill:∀ {w':World} {m':Mem} {y':Pn} {G:List Nat} {HY:PL},MLe m m'→(∀ f∈b::(Fa++Fz),∀ j,(f≠bq∨j<oq∨oq+5≤j)→w'.cell? ⟨f,j,none⟩=w.cell? ⟨f,j,none⟩)→TH w' m' y' bq oq G HY→TH w' m' (Pn.put path x y') b o (Fa++(G++Fz)) HY
theorem AtP.start {w:World} {m:Mem} {x:Pn} {b o:Nat} {F:List Nat} (h:TH w m x b o F []) (hr:b ∉ F) (hn:F.Nodup):AtP w m x b o F [] x b o [] F [] :=
 ⟨by simp,by simp,hr,hn,rfl,h,fun _ _ hy=>by simpa [Pn.put]using hy⟩
theorem AtP.mem {w:World} {m:Mem} {x:Pn} {b o:Nat} {F:List Nat} {path:List Int} {y:Pn} {bq oq:Nat} {Fa Fy Fz:List Nat} (h:AtP w m x b o F path y bq oq Fa Fy Fz):bq∈b::F:=by
 rw[h.eq]
 rcases zQ.1 h.inb with e|e
 ·simp[e]
 ·simp[e]
theorem AtP.frame {w w':World} {m m':Mem} {x:Pn} {b o:Nat} {F:List Nat} {path:List Int} {y:Pn} {bq oq:Nat} {Fa Fy Fz:List Nat} (h:AtP w m x b o F path y bq oq Fa Fy Fz) (hm:MLe m m') (hF:∀ f∈b::F,∀ j,w'.cell? ⟨f,j,none⟩=w.cell? ⟨f,j,none⟩):AtP w' m' x b o F path y bq oq Fa Fy Fz:=by
 refine⟨h.eq,h.inb,h.nr,h.nd,h.is,h.th.frame hm (fun j _ _=>hF bq h.mem j) (fun f hf j=>hF f (by rw[h.eq];simp[hf]) j),fun hm' hw hy=>h.fill (hm.trans hm') (fun f hf j hj=>?_) hy⟩;rw[hw f hf j hj];refine hF f ?_ j;rw[h.eq]
 rcases zQ.1 hf with e|e
 ·simp[e]
 ·rcases zV.1 e with e|e<;>simp[e]
theorem AtP.step {w:World} {m:Mem} {x:Pn} {b o:Nat} {F:List Nat} {path:List Int} {y z:Pn} {bq oq:Nat} {Fa Fy Fz:List Nat} {i:Nat} (h:AtP w m x b o F path y bq oq Fa Fy Fz) (hz:y.kids[i]?=some z) :
 ∃ b' cap,w.cell? ⟨bq,oq+4,none⟩=some (.slice (some ⟨b',0,none⟩) y.kids.length cap)∧y.kids.length≤cap∧∃ Fa' Fy' Fz',AtP w m x b o F (path++[(i:Int)]) z b' (5*i) Fa' Fy' Fz':=by
 have ht:=h.th;have hFq:=h.eq;generalize hH:([]:PL)=H at ht
 cases ht with
 | fresh=>cases hH
 | leaf h1 h2 h3 h4=>simp[Pn.kids]at hz
 | @node k t es cs ks _ _ b' cap vE vC FE FC F1 _ h1 h2 h3 h4 h5 h6 h7 h8 =>
  subst hH;have hz:ks[i]?=some z:=hz;obtain⟨Ga,Gi,Gz,e,t1,t2⟩:=h6.nth hz;subst e;have hnd:=h.nd;rw[hFq]at hnd;have hnr:=h.nr;rw[hFq]at hnr
  have hne:bq≠b':=by
   intro e
   rcases zQ.1 h.inb with e'|e'
   ·exact hnr (by rw[← e',e];simp)
   ·rw[zL]at hnd;exact hnd.2.2 _ e' b' (by simp) e
  have hb1:FE++FC++(b'::(Ga++(Gi++Gz))++Fz) |>.Nodup:=by
   have hb:=(zL.1 hnd).2.1
   rwa [yR (FE++FC)]at hb
  have hdis:∀ f∈FE++FC,f≠b':=fun f hf=>(zL.1 hb1).2.2 f hf b' (by simp)
  have hb2:=(zL.1 hb1).2.1;simp only[yT,zA]at hb2;refine⟨b',cap,h1.c4,h5,Fa++(FE++FC++(b'::Ga)),Gi,Gz++Fz,by rw[hFq];simp,by simp,h.nr,h.nd,?_,by simpa using t1,fun {w' m' y' G HY} hm hw hy=>?_⟩
  ·rw[P6 path x _ [(i:Int)] h.is];simp[Pn.at,Pn.kids,hz]
  ·rw[ADT h.is]
   have hK:THL w' m' (ks.set i y') b' 0 (Ga++(G++Gz)) HY:=by
    refine t2 hm (fun j _ _ hj=>hw b' (by simp) j (.inr (by omega))) (fun f hf j=>hw f (by rcases zV.1 hf with e|e<;>simp[e]) j (.inl ?_)) (by simpa using hy);intro e;subst e;exact hb2.1 (by rcases zV.1 hf with e|e<;>simp[e])
   have hlen:(ks.set i y').length=ks.length:=by simp
   have hn:ks.set i y'≠[]:=fun e=>by rw[e]at hlen;simp at hlen;exact h4 (zZ.1 hlen.symm)
   have hbq:bq∈b::((Fa++(FE++FC++(b'::Ga)))++(Gz++Fz)):=by
    rcases zQ.1 h.inb with e'|e'
    ·simp[e']
    ·simp[e']
   have hA:=h1.frame (w':=w') (fun j l1 l2=>hw bq hbq j (.inl hne));rw[← hlen]at hA
   have hY:TH w' m' (.mk k t es cs (ks.set i y')) bq oq (FE++FC++(b'::(Ga++(G++Gz)))) HY :=
    .node hA (h2.frame fun f hf j=>hw f (by simp[hf]) j (.inl (hdis f (by simp[hf])))) (h3.frame fun f hf j=>hw f (by simp[hf]) j (.inl (hdis f (by simp[hf])))) hn (by rw[hlen];exact h5) hK (by
     by_cases hj:5*cap-1<5*i∨5*i+5≤5*cap-1
     ·rw[hw b' (by simp) _ (.inr hj)];exact h7
     ·obtain⟨d,hd,e⟩:∃ d,d<5∧5*cap-1=5*i+d:=⟨5*cap-1-5*i,by omega,by omega⟩
      rw[e];exact hy.at5 d hd) h8
   have:=h.fill hm (fun f hf j hj=>hw f (by
    rcases zQ.1 hf with e|e
    ·simp[e]
    ·rcases zV.1 e with e|e<;>simp[e]) j (by
    by_cases e:f=b'
    ·subst e;exfalso
     rcases zQ.1 hf with e|e
     ·exact hnr (by rw[← e];simp)
     ·rcases zV.1 e with e|e
      ·exact(zL.1 hnd).2.2 _ e f (by simp) rfl
      ·exact hb2.1 (by simp[e])
    ·exact .inl e)) hY
   simpa [Pn.kind,Pn.table,Pn.exprs,Pn.cols,Pn.kids]using this
def AC2:Blk→Prop
 | .box cs=>∀ c∈cs,(∃ v,c=.i v)∨c=.nils
 | .loop _ _ _=>False
 | _=>True
theorem RepC.tree {m:Mem} {φ φ':Pl}:∀ {cs:List AV} {vs:List Value},(∀ c∈cs,(∃ v,c=.i v)∨c=.nils)→RepC m φ cs vs→RepC m φ' cs vs
 | [],_,_, .nil=>.nil
 | c::cs,_,h, .cons a o r=>by
  have hr:=RepC.tree (m:=m) (φ':=φ') (fun d hd=>h d (by simp[hd])) r
  rcases h c (by simp)with ⟨v,rfl⟩|rfl
  ·cases a with|i a=>exact .cons (.i a) o hr
  ·cases a;exact .cons .nils o hr
theorem BlkOk.tree {w:World} {m:Mem} {φ φ':Pl} {b:Nat} {n:Ext} {blk:Blk} (hl:AC2 blk) (h:BlkOk w m φ b n blk):BlkOk w m φ' b n blk:=by
 cases h with
 | box h1 h2 h3 h4=>exact .box h1 h2 (h3.tree hl) h4
 | arr h1 h2 h3 h4 h5 h6 h7 h8 h9=>exact .arr h1 h2 h3 h4 h5 h6 h7 h8 h9
 | frz h1 h2=>exact .frz h1 h2
 | fbox h1=>exact .fbox h1
 | tre h1 h2 h3 h4 h5 h6 h7 h8 h9 h10=>exact .tre h1 h2 h3 h4 h5 h6 h7 h8 h9 h10
 | loop=>cases hl
theorem Inv.AVL {w:World} {m:Mem} {φ:Pl} {st st':Store} (hi:Inv w m φ st) (hst:∀ i blk,st' i=some blk→st i=some blk∧AC2 blk):Inv w m (JA st' φ) st':=by
 refine⟨hi.mem,?_,?_,fun i b n f e ho=>hi.low i b n f (fB e).1 ho⟩
 ·intro i blk hb;obtain⟨h1,h2⟩:=hst i blk hb;obtain⟨b,n,q1,q2,q3⟩:=hi.live i blk h1;exact⟨b,n,by rw[qL (by rw[hb];simp)];exact q1,q2,q3.tree h2⟩
 ·intro i j b bx n n2 b1 b2 f h1 h2 h3 h4 o1 o2;exact hi.inj i j b bx n n2 b1 b2 f (hst i b1 h1).1 (hst j b2 h2).1 (fB h3).1 (fB h4).1 o1 o2
def AC3 (st':Store):AV→Prop
 | .i _=>True
 | .own id _=>st' id≠none
 | .osl id _ _ _=>st' id≠none
 | .nils=>True
 | _=>False
theorem AC3.rep {m:Mem} {φ φ':Pl} {st':Store} {v:AV} {x:Value} (h:AC3 st' v) (he:∀ i,st' i≠none→φ' i=φ i) (hr:Rep m φ v x):Rep m φ' v x:=by
 unfold AC3 at h;split at h
 ·cases hr with|i k=>exact .i k
 ·cases hr with
  | own e=>exact .own (by rw[he _ h];exact e)
 ·cases hr with
  | osl e a b c d=>exact .osl (by rw[he _ h];exact e) a b c d
 ·cases hr;exact .nils
 ·cases h
structure CPY (wi:World) (p:Pn) (F:List Nat) (v0 v1 v2 v3 v4:Value) (w:World) (m:Mem) (φ:Pl):Prop where
 th:∀ {w':World} {m':Mem} {b o:Nat},MLe m m'→(∀ f∈F,∀ j,w'.cell? ⟨f,j,none⟩=w.cell? ⟨f,j,none⟩)→At5 w' b o v0 v1 v2 v3 v4→TH w' m' p b o F []
 cells:∀ {m':Mem},MLe m m'→(∀ f∈F,∀ j,m' f j=w.cell? ⟨f,j,none⟩)→ICells m' p.cells [v0,v1,v2,v3,v4]
 nd:F.Nodup
 all:∀ f∈F,wi.heap.size≤f∧f<w.heap.size∧fH φ f∧(∀ o,m f o=none)∧∃ (vs:List Value) (T:TypeId),w.heap[f]?=some (.cells vs.toArray T (0,0))∧∀ v∈vs,v.oneCell'=true
 kc:KCells w p.cells [v0,v1,v2,v3,v4] F∧(p.exprs=[]→v2=.slice none 0 0)∧(p.cols=[]→v3=.slice none 0 0)∧(p.kids=[]→v4=.slice none 0 0)
theorem CPY.ACD (wi:World) (p:Pn) (F:List Nat) (v0 v1 v2 v3 v4:Value):AKE (CPY wi p F v0 v1 v2 v3 v4):=by
 intro w m φ w' m' φ' ha h;have hs:∀ f∈F,w'.heap[f]?=w.heap[f]?:=fun f hf=>ha.block f (h.all f hf).2.1 (h.all f hf).2.2.1
 refine⟨fun hm hw h5=>h.th (ha.mle.trans hm) (fun f hf j=>(hw f hf j).trans (jZ (hs f hf) j)) h5,fun hm hw=>h.cells (ha.mle.trans hm) fun f hf j=>(hw f hf j).trans (jZ (hs f hf) j),h.nd,fun f hf=>?_,h.kc.1.frame fun f hf j=>jZ (hs f hf) j,h.kc.2⟩;obtain⟨k1,k2,k3,k4,vs,T,k5,k6⟩:=h.all f hf;exact⟨k1,yY k2 ha.size,ha.range k2 k3,fun o=>(ha.mnew f k2 k3 o).trans (k4 o),vs,T,by rw[hs f hf];exact k5,k6⟩
theorem TH.cells {w:World} {m:Mem} {x:Pn} {b o:Nat} {F:List Nat} (h:TH w m x b o F []):∃ v0 v1 v2 v3 v4,At5 w b o v0 v1 v2 v3 v4∧(∀ v∈[v0,v1,v2,v3,v4],v.oneCell'=true)∧(∃ ao cap,v4=.slice ao x.kids.length cap)∧(∀ {w':World} {m':Mem} {b' o':Nat},MLe m m'→(∀ f∈F,∀ j,w'.cell? ⟨f,j,none⟩=w.cell? ⟨f,j,none⟩)→At5 w' b' o' v0 v1 v2 v3 v4→TH w' m' x b' o' F []) ∧
 ∀ {m':Mem},MLe m m'→(∀ f∈F,∀ j,m' f j=w.cell? ⟨f,j,none⟩)→ICells m' x.cells [v0,v1,v2,v3,v4]:=by
 generalize hH:([]:PL)=H at h
 cases h with
 | fresh=>cases hH
 | leaf h1 h2 h3 h4 =>
  refine⟨_,_,_,_,_,h1,(by intro v hv;simp only[zQ,List.not_mem_nil,or_false]at hv;rcases hv with rfl|rfl|rfl|rfl|rfl<;>first|rfl|exact h2.one|exact h3.one),⟨_,_,rfl⟩,fun hm hF h5=>.leaf h5 (h2.frame fun f hf=>hF f (by simp[hf])) (h3.frame fun f hf=>hF f (by simp[hf])) h4,fun hm hF=>?_⟩;rw[Pn.bD];exact .cons (.lit _) rfl (.cons (.lit _) rfl (.cons (h2.rep fun f hf=>hF f (by simp[hf])) h2.one (.cons (h3.rep fun f hf=>hF f (by simp[hf])) h3.one (.cons (.isl0 _ _ fun _=>rfl) rfl .nil))))
 | @node k t es cs ks _ _ b' cap vE vC FE FC F1 _ h1 h2 h3 h4 h5 h6 h7 h8 =>
  subst hH;refine⟨_,_,_,_,_,h1,(by intro v hv;simp only[zQ,List.not_mem_nil,or_false]at hv;rcases hv with rfl|rfl|rfl|rfl|rfl<;>first|rfl|exact h2.one|exact h3.one),⟨_,_,rfl⟩,fun hm hF k5=>.node k5 (h2.frame fun f hf=>hF f (by simp[hf])) (h3.frame fun f hf=>hF f (by simp[hf])) h4 h5 (h6.frame hm (fun j _ _=>hF _ (by simp) j) fun f hf=>hF f (by simp[hf])) (by rw[hF _ (by simp)];exact h7) h8,fun hm hF=>?_⟩;rw[Pn.bD];have he:=THL.AR1 hm h6 (fun j _ _=>hF b' (by simp) j) (fun f hf=>hF f (by simp[hf]));have hl:(Pn.aA ks).length=ks.length:=by simp
  have hn:Pn.aA ks≠[]:=fun e=>by rw[e]at hl;simp at hl;exact h4 (zZ.1 hl.symm)
  have hk:=IRep.isl (cap:=cap) hn he (by omega);rw[hl]at hk;exact .cons (.lit _) rfl (.cons (.lit _) rfl (.cons (h2.rep fun f hf=>hF f (by simp[hf])) h2.one (.cons (h3.rep fun f hf=>hF f (by simp[hf])) h3.one (.cons hk rfl .nil))))
structure RAT (wi:World) (root:Nat) (p:Pn) (F:List Nat) (path:List Int) (y:Pn) (bq oq:Nat) (Fa Fy Fz:List Nat) (w:World) (m:Mem) (φ:Pl):Prop where
 raw:RAW wi root p F [] w m φ
 pos:AtP w m p root 0 F path y bq oq Fa Fy Fz
structure ADK (wi:World) (root:Nat) (p:Pn) (F:List Nat) (path:List Int) (y:Pn) (bq oq:Nat) (Fa Fy Fz:List Nat) (k:Nat) (wa:World) (ma:Mem) (w:World) (m:Mem) (φ:Pl):Prop where
 pos:AtP wa ma p root 0 F path y bq oq Fa Fy Fz
 le:MLe ma m
 own:∃ n,φ k=some (bq,n)
 bqn:wi.heap.size≤bq
 oth:∀ f∈root::F,f≠bq→wi.heap.size≤f∧f<w.heap.size∧fH φ f∧(∀ o,m f o=none)∧w.heap[f]?=wa.heap[f]?∧∃ (vs:List Value) (T:TypeId),wa.heap[f]?=some (.cells vs.toArray T (0,0))∧∀ v∈vs,v.oneCell'=true
def wM (wi:World) (mi:Mem) (p:Pn) (e:Ending) (w:World):Prop :=
 ∃ v0 v1 v2 v3 v4 F m,e=.returned (.agg #[v0,v1,v2,v3,v4])∧(∀ v∈[v0,v1,v2,v3,v4],v.oneCell'=true)∧mM w m∧Adv wi mi (fun _=>none) w m (fun _=>none)∧CPY wi p F v0 v1 v2 v3 v4 w m (fun _=>none)
theorem wM.tree {wi:World} {mi:Mem} {p:Pn} {e:Ending} {w:World} (h:wM wi mi p e w):bK wi mi (fun _=>none) (.i (.agg p.cells)) [] e w:=by
 classical
 obtain⟨v0,v1,v2,v3,v4,F,m,rfl,hone,hm,ha,hc⟩:=h
 let m':Mem:=fun f o=>if f∈F then w.cell? ⟨f,o,none⟩else m f o
 have hin:∀ f,f∈F→∀ o,m' f o=w.cell? ⟨f,o,none⟩:=fun f hf o=>by show(if f∈F then _ else _)=_;rw[if_pos hf]
 have hout:∀ f,f ∉ F→∀ o,m' f o=m f o:=fun f hf o=>by show(if f∈F then _ else _)=_;rw[if_neg hf]
 have hle:MLe m m':=fun f o v e=>by
  by_cases hf:f∈F
  ·rw[(hc.all f hf).2.2.2.1 o]at e;cases e
  ·rw[hout f hf];exact e
 have hmem:mM w m':=fun f o v e=>by
  by_cases hf:f∈F
  ·rw[hin f hf]at e;exact e
  ·rw[hout f hf]at e;exact hm f o v e
 refine⟨_,m',fun _=>none,rfl, .i (.agg (hc.cells hle hin)),⟨hmem,fun id blk e=>by simp[aT]at e,fun id id' b b' n n' blk blk' f e=>by simp[aT]at e,fun _ _ _ _ e=>by cases e⟩,⟨ha.size,ha.os,ha.tape,ha.output,ha.block,ha.mle.trans hle,fun f hf hfr o=>?_, .refl _,fun _ _ _ _ e=>by cases e⟩,fun id h=>absurd rfl h⟩;rw[hout f (fun hf'=>by have:=(hc.all f hf').1;omega)];exact ha.mnew f hf hfr o
section
variable {C:Ctx} {wi:World} {mi:Mem} {nt:Nat}
theorem GR.ops (hS:SoundOk C) {ops:Array Oper} {Q:Exit→Act→World→Prop} {base:Nat} {js:List Nat} {R:World→Mem→Pl→Prop} (hR:AKE R) (hs:ops.all (jC nt)=true) {os:List Oper} {i:Nat} {R0 R1:RS} {a:Act} {w:World} (hl:∀ j,j<os.length→os[j]?=ops[i+j]?) (hx:dJ C (aH C) ops.toList false base os i R0=some R1)
 (h:GR wi mi nt (II base fun j=>j<i) R R0.env R0.st a w) (hQ:∀ a' w',GR wi mi nt (II base fun j=>j<i+os.length) R R1.env R1.st a' w'→wpOpsIn (FR none) 0 C.P ops Q js a' w'):wpOpsIn (FR none) 0 C.P ops Q (List.range' i os.length++js) a w:=by
 obtain⟨⟨m,φ,h1,h2,h3,h4,h5⟩,h6,h7⟩:=h;refine jM hS.ctx (aX hS) (fun o ho=>yH.1 hs o ho) os i R0 R1 a w hl hx ⟨⟨m,φ,h1,h2, .refl _ _ _,h4, .nil _ _ _⟩,h6,h7⟩ fun a' w' k=>hQ a' w' ?_
 obtain⟨⟨m',φ',k1,k2,k3,k4,_⟩,k5,k6⟩:=k;exact⟨⟨m',φ',k1,k2,h3.trans k3,k4,hR _ _ _ _ _ _ k3 h5⟩,k5,k6⟩
theorem GR.put {ok:Nat→Prop} {R:World→Mem→Pl→Prop} {env:Nat→AV} {st:Store} {a:Act} {w:World} {d:Nat} {x:AV} {v:Value} (hd:d<nt) (h:GR wi mi nt ok R env st a w) (hr:∀ m φ,R w m φ→Rep m φ x v):GR wi mi nt ok R (upd env d x) st (a.put (some d) v) w:=by
 obtain⟨⟨m,φ,hi,henv,hadv,hok,hK⟩,hsz,hdf⟩:=h;exact⟨⟨m,φ,hi,K5 (dst:=some d) henv hsz (by simpa [AEO]using hd) (hr m φ hK),hadv,hok,hK⟩,by rw[K3];exact hsz,by rw[sS];exact hdf⟩
theorem GR.AOG {ok:Nat→Prop} {root:Nat} {p:Pn} {F:List Nat} {env:Nat→AV} {st:Store} {a:Act} {w:World} {u k:Nat} (h:GR wi mi nt ok (RAW wi root p F []) env st a w) (hu:env u=.i (.lit (.pointer (some ⟨root,0,none⟩)))) (hk:st k=none) (hok:¬ ok k) :
 ∃ v0 v1 v2 v3 v4 post,(∀ v∈[v0,v1,v2,v3,v4],v.oneCell'=true)∧∀ env',(∀ t,env' t=.junk∨(t=u∧env' t=.own k 0)∨env' t=env t) →
   GR wi mi nt (fun id=>ok id∨id=k) (CPY wi p F v0 v1 v2 v3 v4) env' (upd st k (some (.box (dR [v0,v1,v2,v3,v4]++dR post)))) a w:=by
 obtain⟨⟨m,φ,hi,henv,hadv,hid,hr⟩,h6,h7⟩:=h;obtain⟨k1,k2,k3,k4,us,T,k5,k6⟩:=hr.all root (by simp);obtain⟨v0,v1,v2,v3,v4,h5,_,_,hth,hce⟩:=hr.th.cells;obtain⟨_,_,_,_,_,g5,gk,gn⟩:=hr.th.kc fun f hf=>(hr.all f (by simp[hf])).2.2.2.2
 obtain⟨rfl,rfl,rfl,rfl,rfl⟩:=h5.uniq g5;have gc:∀ {o:Nat} {v:Value},w.cell? ⟨root,o,none⟩=some v→us[o]?=some v:=fun h=>by rwa [bX k5]at h
 have hrow:=SG (gc h5.c0) (gc h5.c1) (gc h5.c2) (gc h5.c3) (gc h5.c4);simp only[List.take_zero,yS,zK]at hrow
 have hφk:φ k=none:=by
  cases e:φ k with
  | none=>rfl
  | some q=>exact absurd (hid k (by rw[e];simp)) hok
 refine⟨v0,v1,v2,v3,v4,us.drop 5,fun v hv=>k6 v (by rw[hrow];exact yN _ hv),fun env' he=>?_⟩
 have hrep:RepC m (upd φ k (some (root,one root us.length))) (dR [v0,v1,v2,v3,v4]++dR (us.drop 5)) us:=by
  have h1:=kM (m:=m) (φ:=upd φ k (some (root,one root us.length))) (vs:=us) k6
  have:dR us=dR [v0,v1,v2,v3,v4]++dR (us.drop 5):=by
   conv=>lhs;rw[hrow]
   simp[dR]
  rwa [this]at h1
 have hp:PLe φ (upd φ k (some (root,one root us.length))):=fun i r n e=>by
  refine⟨n,?_,rfl,fun _ h=>h⟩;have:i≠k:=fun h=>by rw[h,hφk]at e;cases e
  simp[upd,this,e]
 refine⟨⟨m,upd φ k (some (root,one root us.length)),hi.RU hk hφk k3 k4 k5 hrep,fun t=>?_,hadv.RU k1,fun id hne=>?_,?_⟩,h6,h7⟩
 ·rcases he t with e|⟨rfl,e⟩|e
  ·rw[e];exact .junk _
  ·have:=henv t;rw[hu]at this;rw[e,this.lit_eq];exact .own (n:=one root us.length) (by simp[upd])
  ·rw[e];exact(henv t).mono (.refl _) hp
 ·by_cases e:id=k
  ·exact .inr e
  ·simp[upd,e]at hne;exact .inl (hid id hne)
 ·refine⟨hth,hce,hr.nd,fun f hf=>?_,gk,gn⟩;obtain⟨q1,q2,q3,q4,q5⟩:=hr.all f (by simp[hf]);refine⟨q1,q2,fun i r n e ho=>?_,q4,q5⟩;by_cases e2:i=k
  ·subst e2;simp[upd]at e;obtain⟨rfl,rfl⟩:=e;have:f=root:=ho;exact hr.nr (this ▸ hf)
  ·simp[upd,e2]at e;exact q3 i r n e ho
end
theorem EG:∀ {l m:List Int},aI l=aI m→l=m:=by
 intro l
 induction l with
 | nil=>intro m h;cases m with
  | nil=>rfl
  | cons b m=>simp[aI]at h
 | cons a l ih=>intro m h;cases m with
  | nil=>simp[aI]at h
  | cons b m =>
   simp only[aI,List.cons.injEq]at h;rw[show a=b by simpa using h.1,ih h.2]
theorem Ex.JE:∀ (a b:Ex),a.cells=b.cells→a=b:=by
 intro a
 induction a using Ex.ind with
 | h k c v ks ih =>
  intro b h;obtain⟨k',c',v',ks'⟩:=b
  have key:∀ {l m:List Ex},(∀ a∈l,∀ b,a.cells=b.cells→a=b)→Ex.aA l=Ex.aA m→l=m:=by
   intro l
   induction l with
   | nil=>intro m _ h;cases m with
    | nil=>rfl
    | cons b m=>simp[Ex.aA]at h
   | cons a l ihl=>intro m hi h;cases m with
    | nil=>simp[Ex.aA]at h
    | cons b m =>
     simp only[Ex.aA,List.cons.injEq]at h;rw[hi a (by simp) b h.1,ihl (fun x hx=>hi x (by simp[hx])) h.2]
  rw[Ex.aB,Ex.aB]at h;simp only[List.cons.injEq,IV.lit.injEq,Value.int.injEq,Value.bool.injEq,IV.isl.injEq,true_and,and_true]at h;obtain⟨h1,h2,h3,h4,h5⟩:=h;have h5:=key ih h5;obtain⟨b1,n1⟩:=v;obtain⟨b2,n2⟩:=v';simp only[Ex.kind,Ex.col,Ex.val,Ex.kids]at h1 h2 h3 h4 h5;subst h1 h2 h3 h4 h5;rfl
theorem Ex.RG:∀ {l m:List Ex},Ex.aA l=Ex.aA m→l=m:=by
 intro l
 induction l with
 | nil=>intro m h;cases m with
  | nil=>rfl
  | cons b m=>simp[Ex.aA]at h
 | cons a l ihl=>intro m h;cases m with
  | nil=>simp[Ex.aA]at h
  | cons b m =>
   simp only[Ex.aA,List.cons.injEq]at h;rw[Ex.JE a b h.1,ihl h.2]
theorem Pn.F8:∀ (a b:Pn),a.cells=b.cells→a=b:=by
 intro a
 induction a using Pn.ind with
 | h k t es cs ks ih =>
  intro b h;obtain⟨k',t',es',cs',ks'⟩:=b
  have key:∀ {l m:List Pn},(∀ a∈l,∀ b,a.cells=b.cells→a=b)→Pn.aA l=Pn.aA m→l=m:=by
   intro l
   induction l with
   | nil=>intro m _ h;cases m with
    | nil=>rfl
    | cons b m=>simp[Pn.aA]at h
   | cons a l ihl=>intro m hi h;cases m with
    | nil=>simp[Pn.aA]at h
    | cons b m =>
     simp only[Pn.aA,List.cons.injEq]at h;rw[hi a (by simp) b h.1,ihl (fun x hx=>hi x (by simp[hx])) h.2]
  rw[Pn.bD,Pn.bD]at h;simp only[List.cons.injEq,IV.lit.injEq,Value.int.injEq,IV.isl.injEq,true_and,and_true]at h;obtain⟨h1,h2,h3,h4,h5⟩:=h;rw[h1,h2,Ex.RG h3,EG h4,key ih h5]
def ApA (args:List AV) (x:Pn×List Int×Int×List Int):Prop:=args=[.i (.agg x.1.cells), .i (.isl (aI x.2.1)), .i (.agg [.int x.2.2.1, .isl (aI x.2.2.2)])]
theorem ApA.inj {args:List AV} {x y:Pn×List Int×Int×List Int} (hx:ApA args x) (hy:ApA args y):x=y:=by
 unfold ApA at hx hy;rw[hx]at hy;simp only[List.cons.injEq,AV.i.injEq,IV.agg.injEq,IV.isl.injEq,IV.lit.injEq,Value.int.injEq,true_and,and_true]at hy;obtain⟨h1,h2,h3,h4⟩:=hy;obtain⟨a,b,c,d⟩:=x;obtain⟨a',b',c',d'⟩:=y;simp only at h1 h2 h3 h4;rw[Pn.F8 _ _ h1,EG h2,h3,EG h4]
noncomputable def ALY (C:Ctx) (G:List Nat) (na:Nat) (b:Code) (S:AS):XR:=eY C G na b S
@[simp] theorem AL6 {C:Ctx} {G:List Nat} {na:Nat} (a b:Code) (S:AS):eY C G na (.seq a b) S=VF (eY C G na a S) (ALY C G na b):=AAZ a b
@[simp] theorem AOW {C:Ctx} {G:List Nat} {na:Nat} (b:Code) (e:List (Nat×AV)) (st:StL):ALY C G na b ⟨e,st⟩=eY C G na b ⟨e,st⟩:=(rfl)
def ABC (C:Ctx) (call:dG) (all:List Oper) (draw:Bool) (base:Nat) (os:List Oper) (i:Nat) (env:Nat→AV) (dst:Option Tmp) (log:List (Nat×List Nat×Bool)) (p:AV×Store):Option RS:=dJ C call all draw base os i ⟨uC env dst p.1,p.2,log⟩
@[simp] theorem APL {C:Ctx} {call:dG} (all:List Oper) (draw:Bool) (base:Nat) (os:List Oper) (i:Nat) (env:Nat→AV) (dst:Option Tmp) (log:List (Nat×List Nat×Bool)) (v:AV) (st:Store):ABC C call all draw base os i env dst log (v,st)=dJ C call all draw base os i ⟨uC env dst v,st,log⟩:=(rfl)
attribute [simp] OH WV R3 WS AB0 WU YV
@[simp] theorem AKH (k:Nat):gQ k []=true:=(rfl)
@[simp] theorem AGZ (k:Nat) (e:List IV) (es:List (List IV)):gQ k (e::es)=(e.length == k && gQ k es):=(rfl)
@[simp] theorem AGF:iX (.slice none 0 0)=.nils:=(rfl)
@[simp] theorem AKT:vW (.slice none 0 0)=.nils:=(rfl)
@[simp] theorem AGG (b:Bool):iX (.bool b)=.i (.lit (.bool b)):=(rfl)
@[simp] theorem AKU (b:Bool):vW (.bool b)=.i (.lit (.bool b)):=(rfl)
@[simp] theorem AGU (b:Bool):cellsOf (.i (.lit (.bool b)))=some [.i (.lit (.bool b))]:=(rfl)
@[simp] theorem AII (k:IntKind) (n:Int):iX (.int k n)=.i (.lit (.int k n)):=(rfl)
@[simp] theorem AN8 (k:IntKind) (n:Int):vW (.int k n)=.i (.lit (.int k n)):=(rfl)
@[simp] theorem AJY (k:IntKind) (n:Int):cellsOf (.i (.lit (.int k n)))=some [.i (.lit (.int k n))]:=(rfl)
@[simp] theorem ACG (s:ByteArray):iX (.string s)=.i (.lit (.string s)):=(rfl)
@[simp] theorem AGH (s:ByteArray):vW (.string s)=.i (.lit (.string s)):=(rfl)
@[simp] theorem ACJ (s:ByteArray):cellsOf (.i (.lit (.string s)))=some [.i (.lit (.string s))]:=(rfl)
@[simp] theorem AAK (a:Option Addr):iX (.pointer a)=.i (.lit (.pointer a)):=(rfl)
@[simp] theorem AEC (a:Option Addr):vW (.pointer a)=.i (.lit (.pointer a)):=(rfl)
@[simp] theorem ABG (a:Option Addr):cellsOf (.i (.lit (.pointer a)))=some [.i (.lit (.pointer a))]:=(rfl)
@[simp] theorem AIH (r:Option Nat):iX (.map r)=.i (.lit (.map r)):=(rfl)
@[simp] theorem AN7 (r:Option Nat):vW (.map r)=.i (.lit (.map r)):=(rfl)
@[simp] theorem AJW (r:Option Nat):cellsOf (.i (.lit (.map r)))=some [.i (.lit (.map r))]:=(rfl)
@[simp] theorem AAL :iX (.nilFunc)=.i (.lit (.nilFunc)):=(rfl)
@[simp] theorem AED :vW (.nilFunc)=.i (.lit (.nilFunc)):=(rfl)
@[simp] theorem ABH :cellsOf (.i (.lit (.nilFunc)))=some [.i (.lit (.nilFunc))]:=(rfl)
@[simp] theorem YD :iX (.nilIface)=.i (.lit (.nilIface)):=(rfl)
@[simp] theorem ACH :vW (.nilIface)=.i (.lit (.nilIface)):=(rfl)
@[simp] theorem YF :cellsOf (.i (.lit (.nilIface)))=some [.i (.lit (.nilIface))]:=(rfl)
@[simp] theorem AEA (a:Array Value):iX (.tuple a)=.i (.lit (.tuple a)):=(rfl)
@[simp] theorem AIJ (a:Array Value):vW (.tuple a)=.i (.lit (.tuple a)):=(rfl)
@[simp] theorem AN9 (cs:Array Value):vW (.agg cs)=NT (eB cs.toList):=(rfl)
attribute [simp] eB.eq_1 eB.eq_2 cellsOf.eq_3 cellsOf.eq_4
@[simp] theorem AGS :cellsOf .nils=some [.nils]:=(rfl)
@[simp] theorem AJU (i o:Nat):cellsOf (.own i o)=some [(.own i o)]:=(rfl)
@[simp] theorem AGR (i k j o:Nat):cellsOf (.ownE i k j o)=some [(.ownE i k j o)]:=(rfl)
@[simp] theorem AJV (i k o l:Nat):cellsOf (.osl i k o l)=some [(.osl i k o l)]:=(rfl)
@[simp] theorem ALA (f:Fn) (cs:List AV):cellsOf (.fn f cs)=some [(.fn f cs)]:=(rfl)
@[simp] theorem AF1 (a:Option Addr) (l c:Nat):cellsOf (.i (.lit (.slice a l c)))=some [(.i (.lit (.slice a l c)))]:=(rfl)
@[simp] theorem AJX (es:List (List IV)):cellsOf (.i (.isl es))=some [(.i (.isl es))]:=(rfl)
@[simp] theorem AGT (cs:List IV):cellsOf (.i (.iref cs))=some [(.i (.iref cs))]:=(rfl)
@[simp] theorem AL8  (x:Option (List IV)):OP .nils x=none:=by cases x<;>rfl
@[simp] theorem ANP (st:Store) :pM st .nils=bnd (frz st uU .nils) fun p=>some (p.1,iM st p.2):=(rfl)
@[simp] theorem AK9 (st:Store) :jE st .nils=bnd (pM st .nils) fun p=>some (.i p.1,p.2):=(rfl)
@[simp] theorem ANX (i o:Nat) (x:Option (List IV)):OP (.own i o) x=none:=by cases x<;>rfl
@[simp] theorem APG (st:Store) (i o:Nat):pM st (.own i o)=bnd (frz st uU (.own i o)) fun p=>some (p.1,iM st p.2):=(rfl)
@[simp] theorem ALD (st:Store) (i o:Nat):jE st (.own i o)=bnd (pM st (.own i o)) fun p=>some (.i p.1,p.2):=(rfl)
@[simp] theorem ANZ (i k o l:Nat) (x:Option (List IV)):OP (.osl i k o l) x=none:=by cases x<;>rfl
@[simp] theorem APH (st:Store) (i k o l:Nat):pM st (.osl i k o l)=bnd (frz st uU (.osl i k o l)) fun p=>some (p.1,iM st p.2):=(rfl)
@[simp] theorem ALE (st:Store) (i k o l:Nat):jE st (.osl i k o l)=bnd (pM st (.osl i k o l)) fun p=>some (.i p.1,p.2):=(rfl)
@[simp] theorem API (st:Store) (cs:List AV):pM st (.agg cs)=bnd (frz st uU (.agg cs)) fun p=>some (p.1,iM st p.2):=(rfl)
@[simp] theorem ALF (st:Store) (cs:List AV):jE st (.agg cs)=bnd (pM st (.agg cs)) fun p=>some (.i p.1,p.2):=(rfl)
@[simp] theorem ARQ (v:IV) (l:List IV):OP (.i v) (some l)=some (v::l):=(rfl)
@[simp] theorem APM (v:IV):OP (.i v) none=none:=(rfl)
@[simp] theorem ASL (st:Store) (v:IV):pM st (.i v)=some (v,st):=(rfl)
@[simp] theorem APT (st:Store) (v:IV):jE st (.i v)=some (.i v,st):=(rfl)
@[simp] theorem AOE (st:Store) (f:Fn) (cs:List AV):jE st (.fn f cs)=some (.fn f cs,st):=(rfl)
@[simp] theorem ALG:vJ (some .strct)=some true:=(rfl)
@[simp] theorem ALH (e:TypeId):vJ (some (.slice e))=some false:=(rfl)
@[simp] theorem APU (k:IntKind):vJ (some (.int k))=some false:=(rfl)
@[simp] theorem AKD:vJ (some .string)=some false:=(rfl)
@[simp] theorem AOF:vJ (some .bool)=some false:=(rfl)
@[simp] theorem ALI:vJ (some .other)=some false:=(rfl)
@[simp] theorem ALJ (n:Nat) (e:TypeId):vJ (some (.array n e))=some true:=(rfl)
@[simp] theorem AJ1:eD .add=false:=(rfl)
@[simp] theorem AIO:eD .sub=false:=(rfl)
@[simp] theorem AIU:eD .mul=false:=(rfl)
@[simp] theorem AIS:eD .quo=false:=(rfl)
@[simp] theorem AIR:eD .rem=false:=(rfl)
@[simp] theorem AJ0:eD .and=false:=(rfl)
@[simp] theorem AL0:eD .or=false:=(rfl)
@[simp] theorem AIN:eD .xor=false:=(rfl)
@[simp] theorem ACI:eD .andNot=false:=(rfl)
@[simp] theorem AIZ:eD .eql=false:=(rfl)
@[simp] theorem AIT:eD .neq=false:=(rfl)
@[simp] theorem AIV:eD .lss=false:=(rfl)
@[simp] theorem AIW:eD .leq=false:=(rfl)
@[simp] theorem AIX:eD .gtr=false:=(rfl)
@[simp] theorem AIY:eD .geq=false:=(rfl)
@[simp] theorem AIQ:eD .shl=true:=(rfl)
@[simp] theorem AIP:eD .shr=true:=(rfl)
@[simp] theorem AP0:IA []=.tup []:=(rfl)
@[simp] theorem AOZ (v:AV):IA [v]=v:=(rfl)
@[simp] theorem AOY (a b:AV) (l:List AV):IA (a::b::l)=.tup (a::b::l):=(rfl)
attribute [simp] qD.eq_1 qD.eq_2 iP.eq_1 iP.eq_2 iP.eq_3
section
variable (C:Ctx) (call:dG) (env:Nat→AV) (st:Store) (nb:Nat)
@[simp] theorem AHI (x:Operand):cZ C call (.move x) env st nb=some (ev env x,st):=(rfl)
@[simp] theorem AD2 (x:Operand):cZ C call (.assign x) env st nb=some (ev env x,st):=(rfl)
@[simp] theorem AHH (c a b:Operand):cZ C call (.pick c a b) env st nb=bnd (AA4 (ev env a) (ev env b) (ev env c)) fun v=>some (v,st):=(rfl)
@[simp] theorem AG4 (t:TypeId):cZ C call (.alloc t) env st nb=bnd (zeroOf C.P t) fun z=>some (.own nb 0,upd st nb (some (.box (eB z)))):=(rfl)
@[simp] theorem AKN (t:TypeId) (x:Operand):cZ C call (.box t x) env st nb=bnd (cellsOf (ev env x)) fun cs=>some (.own nb 0,upd st nb (some (.box cs))):=(rfl)
@[simp] theorem AG2 (t:TypeId) (ps:Array (Nat×Operand)):cZ C call (.build t ps) env st nb=bnd (vJ (bH C.P t)) fun g=>tst g (bnd (zeroOf C.P t) fun z=>bnd (partsOf env ps.toList) fun ps=>bnd (KR (DR C.P t) (eB z) ps) fun cs=>some (NT cs,st)):=(rfl)
@[simp] theorem UW (t:TypeId) (n:Nat) (ps:Array (Nat×Operand)):cZ C call (.buildSlice t n ps) env st nb=bnd (BK (bH C.P t)) fun e=>bnd (partsOf env ps.toList) fun ps=>oD C e n st nb ps:=(rfl)
@[simp] theorem AHJ (t:TypeId) (a:Operand):cZ C call (.load t a) env st nb=bnd (E9 C t (ev env a) st) fun v=>some (v,st):=(rfl)
@[simp] theorem AFX (t:TypeId) (a x:Operand):cZ C call (.store t a x) env st nb=bnd (wX C t (ev env a) (ev env x) st) fun st1=>some (.i (.lit undef),st1):=(rfl)
@[simp] theorem ZE (x:Operand):cZ C call (.nilCheck x) env st nb=bnd (AE1 (ev env x)) fun v=>some (v,st):=(rfl)
@[simp] theorem AG3 (op:BinOp) (t:TypeId) (x y:Operand) (u:TypeId):cZ C call (.binOp op t x y u) env st nb=bnd (YH C op t (ev env x) (ev env y) y) fun v=>some (.i v,st):=(rfl)
@[simp] theorem APP (op:BinOp) (t:TypeId) (a b:AV) (s:Nat):YH C op t a b (.tmp s)=RI C op t a b:=(rfl)
@[simp] theorem APR (op:BinOp) (t:TypeId) (a b:AV) (k:IntKind) (n:Int):YH C op t a b (.const (.int k n))=RI C op t a b:=(rfl)
@[simp] theorem AOC (op:BinOp) (t:TypeId) (a b:AV) (k:Bool):YH C op t a b (.const (.bool k))=RI C op t a b:=(rfl)
@[simp] theorem AK3 (op:BinOp) (t:TypeId) (a b:AV) (k:ByteArray):YH C op t a b (.const (.string k))=RI C op t a b:=(rfl)
@[simp] theorem AGW (op:BinOp) (t:TypeId) (a b:AV) (k:Option Addr):YH C op t a b (.const (.pointer k))=RI C op t a b:=(rfl)
@[simp] theorem ALB (op:BinOp) (t:TypeId) (a b:AV) (k:Option Addr) (i j:Nat):YH C op t a b (.const (.slice k i j))=RI C op t a b:=(rfl)
@[simp] theorem APS (op:BinOp) (t:TypeId) (a b:AV) (k:Array Value):YH C op t a b (.const (.agg k))=RI C op t a b:=(rfl)
@[simp] theorem APQ (op:BinOp) (t:TypeId) (a b:AV):YH C op t a b (.const .nilIface)=tst (AAR C.P t) (bnd (AKR a) fun q=>AF7 op q):=(rfl)
@[simp] theorem AHG (op:UnOp) (t:TypeId) (x:Operand):cZ C call (.unOp op t x) env st nb=bnd (unA op (ev env x)) fun v=>some (.i v,st):=(rfl)
@[simp] theorem ACB (s d:TypeId) (x:Operand):cZ C call (.convert s d x) env st nb=bnd (GH C.P st (bH C.P d) (ev env x) (bH C.P s)) fun v=>some (v,st):=(rfl)
@[simp] theorem Y8 (t:TypeId) (l c:Operand):cZ C call (.makeSlice t l c) env st nb=QJ C t st nb (ev env l) (ev env c):=(rfl)
@[simp] theorem AFY (t:TypeId) (x:Operand) (lo hi:Option Operand):cZ C call (.slice t x lo hi none) env st nb=bnd (wY C t (evO env lo) (evO env hi) (ev env x)) fun v=>some (v,st):=(rfl)
@[simp] theorem YA (s:TypeId) (x:Operand) (f:Nat):cZ C call (.fieldAddr s x f) env st nb=bnd (fM C.P s f) fun p=>bnd (iT C.P p.1) fun n=>tst (decide (0<n)) (bnd (jD p.2 (ev env x)) fun v=>some (v,st)):=(rfl)
@[simp] theorem AG0 (s:TypeId) (x:Operand) (f:Nat):cZ C call (.field s x f) env st nb=bnd (fM C.P s f) fun p=>bnd (iT C.P p.1) fun n=>bnd (vJ (bH C.P p.1)) fun g=>bnd (J5 p.2 n g (ev env x)) fun v=>some (v,st):=(rfl)
@[simp] theorem Y9 (t:TypeId) (x i:Operand):cZ C call (.indexAddr t x i) env st nb=bnd (lH C (ev env x) (ev env i) (bH C.P t)) fun v=>some (v,st):=(rfl)
@[simp] theorem AFZ (t:TypeId) (x i:Operand):cZ C call (.index t x i) env st nb=bnd (IU C (ev env i) (bH C.P t) (ev env x)) fun v=>some (v,st):=(rfl)
@[simp] theorem ACA (x:Operand) (j:Nat):cZ C call (.extract x j) env st nb=bnd (uV j (ev env x)) fun v=>some (v,st):=(rfl)
@[simp] theorem ZF (f:Fn) (fs cs:Array Operand):cZ C call (.makeFunc f fs cs) env st nb=tst fs.toList.isEmpty (bnd (AE2 (evL env cs.toList) f) fun v=>some (v,st)):=(rfl)
@[simp] theorem AKS (cs:List AV) (g:FuncId):AE2 cs (.func g)=some (.fn (.func g) cs):=(rfl)
@[simp] theorem ACC (b:Builtin) (as1:Array Operand) (ts:Array TypeId):cZ C call (.call ⟨.builtin b,as1,ts⟩) env st nb=iL C st nb b ts.toList (evL env as1.toList):=(rfl)
@[simp] theorem AG1 (f:Operand) (as1:Array Operand) (ts:Array TypeId):cZ C call (.call ⟨.value f,as1,ts⟩) env st nb=FY C call (evL env as1.toList) st nb (ev env f):=(rfl)
@[simp] theorem AHC (x:Operand):bC env (.move x)=([],true):=(rfl)
@[simp] theorem AD1 (x:Operand):bC env (.assign x)=([],true):=(rfl)
@[simp] theorem AHB (c a b:Operand):bC env (.pick c a b)=([],true):=(rfl)
@[simp] theorem AFS (t:TypeId):bC env (.alloc t)=([],true):=(rfl)
@[simp] theorem AKL (t:TypeId) (x:Operand):bC env (.box t x)=([],true):=(rfl)
@[simp] theorem AFQ (t:TypeId) (ps:Array (Nat×Operand)):bC env (.build t ps)=([],true):=(rfl)
@[simp] theorem Z7 (x:Operand):bC env (.nilCheck x)=([],true):=(rfl)
@[simp] theorem AFR (op:BinOp) (t:TypeId) (x y:Operand) (u:TypeId):bC env (.binOp op t x y u)=([],true):=(rfl)
@[simp] theorem AHA (op:UnOp) (t:TypeId) (x:Operand):bC env (.unOp op t x)=([],true):=(rfl)
@[simp] theorem AC9 (s d:TypeId) (x:Operand):bC env (.convert s d x)=(dC (ev env x),true):=(rfl)
@[simp] theorem Y5 (t:TypeId) (l c:Operand):bC env (.makeSlice t l c)=([],true):=(rfl)
@[simp] theorem AFN (t:TypeId) (x:Operand) (lo hi:Option Operand):bC env (.slice t x lo hi none)=([],true):=(rfl)
@[simp] theorem Y7 (s:TypeId) (x:Operand) (f:Nat):bC env (.fieldAddr s x f)=([],true):=(rfl)
@[simp] theorem AFP (s:TypeId) (x:Operand) (f:Nat):bC env (.field s x f)=([],true):=(rfl)
@[simp] theorem Y6 (t:TypeId) (x i:Operand):bC env (.indexAddr t x i)=([],true):=(rfl)
@[simp] theorem AFO (t:TypeId) (x i:Operand):bC env (.index t x i)=([],true):=(rfl)
@[simp] theorem AC8 (x:Operand) (j:Nat):bC env (.extract x j)=([],true):=(rfl)
@[simp] theorem Z8 (f:Fn) (fs cs:Array Operand):bC env (.makeFunc f fs cs)=([],true):=(rfl)
attribute [simp] bC.eq_1 bC.eq_3 bC.eq_4 bC.eq_5 bC.eq_6 bC.eq_7
@[simp] theorem AKK (as1:Array Operand) (ts:Array TypeId):bC env (.call ⟨.builtin .len,as1,ts⟩)=([],true):=(rfl)
@[simp] theorem AKI (as1:Array Operand) (ts:Array TypeId):bC env (.call ⟨.builtin .min,as1,ts⟩)=([],true):=(rfl)
@[simp] theorem AKJ (as1:Array Operand) (ts:Array TypeId):bC env (.call ⟨.builtin .max,as1,ts⟩)=([],true):=(rfl)
@[simp] theorem AOX (args:List AV) (g:FuncId) (cs:List AV):FY C call args st nb (.fn (.func g) cs)=if g=1000000007 then none else fG call (C.ownArgs g) g (args++cs) st nb:=(rfl)
@[simp] theorem AM2 (args:List AV) (id:Nat):FY C call args st nb (.fn (.yield 0) [.own id 0])=fG call true uB (.fn (.yield 0) [.own id 0]::args) st nb:=(rfl)
variable (all:List Oper) (base i:Nat) (log:List (Nat×List Nat×Bool)) (dst:Option Tmp) (op:Op) (ty:TypeId) (pos:String) (after:Array Edge) (os:List Oper)
@[simp] theorem AMK (t:Tmp) (v:AV):uC env (some t) v=upd env t v:=(rfl)
@[simp] theorem AML (v:AV):uC env none v=env:=(rfl)
@[simp] theorem AKP (draw:Bool) (R:RS):dJ C call all draw base [] i R=some R:=(rfl)
@[simp] theorem AMB:dJ C call all false base (⟨dst,op,ty,pos,after,none⟩::os) i ⟨env,st,log⟩ =
 bnd (cZ C call op env st (base+8*i)) (ABC C call all false base os (i+1) env dst []):=(rfl)
@[simp] theorem AMA (g:Nat×Bool):dJ C call all false base (⟨dst,op,ty,pos,after,some g⟩::os) i ⟨env,st,log⟩ =
 bnd (M0 env g.2 ((all[g.1]?).bind (·.dst))) fun b=>if b=true then bnd (cZ C call op env st (base+8*i)) (ABC C call all false base os (i+1) env dst [])
  else dJ C call all false base os (i+1) ⟨uC env dst (.i (.lit undef)),st,log⟩:=(rfl)
@[simp] theorem AM9:dJ C call all true base (⟨dst,op,ty,pos,after,none⟩::os) i ⟨env,st,log⟩ =
 tst (AO2 base all ⟨dst,op,ty,pos,after,none⟩ st (bC env op).1 (wW st (bC env op)).1 (bC env op).2 log)
  (bnd (cZ C call op env st (base+8*i)) (ABC C call all true base os (i+1) env dst (FN i (bC env op).2 log (wW st (bC env op)).1))):=(rfl)
@[simp] theorem AM8 (g:Nat×Bool):dJ C call all true base (⟨dst,op,ty,pos,after,some g⟩::os) i ⟨env,st,log⟩ =
 bnd (M0 env g.2 ((all[g.1]?).bind (·.dst))) fun b=>if b=true then
  tst (AO2 base all ⟨dst,op,ty,pos,after,some g⟩ st (bC env op).1 (wW st (bC env op)).1 (bC env op).2 log)
   (bnd (cZ C call op env st (base+8*i)) (ABC C call all true base os (i+1) env dst (FN i (bC env op).2 log (wW st (bC env op)).1)))
  else dJ C call all true base os (i+1) ⟨uC env dst (.i (.lit undef)),st,log⟩:=(rfl)
end
attribute [simp] aY.eq_1 aY.eq_2
attribute [simp] aT.eq_1 aT.eq_2 aT.eq_3
attribute [simp] ACK.eq_1 ACK.eq_2
attribute [simp] AKC.eq_1 AKC.eq_2
attribute [simp] NT.eq_1
attribute [simp] kW.eq_1 kW.eq_2
attribute [simp] oO.eq_1 oO.eq_2
attribute [simp] iG.eq_1 iG.eq_2
attribute [simp] dropE.eq_1 dropE.eq_2 dropE.eq_3
attribute [simp] nJ.eq_1 nJ.eq_2 nJ.eq_3
attribute [simp] cut.eq_1
attribute [simp] splice.eq_1 splice.eq_2 splice.eq_3 splice.eq_4 splice.eq_5
attribute [simp] BK.eq_1
attribute [simp] rR.eq_1 rR.eq_2
attribute [simp] frz.eq_1 frz.eq_2 frz.eq_3 frz.eq_4 frz.eq_5 frz.eq_6
attribute [simp] wB.eq_1 wB.eq_2 wB.eq_3
attribute [simp] BJ.eq_1 BJ.eq_2 BJ.eq_3
attribute [simp] uU.eq_1
attribute [simp] iM.eq_1 iM.eq_2
attribute [simp] mK.eq_1 mK.eq_2
attribute [simp] dC.eq_1 dC.eq_2 dC.eq_3 dC.eq_4 dC.eq_5 dC.eq_6 dC.eq_7 dC.eq_8 dC.eq_9
attribute [simp] aZ.eq_1 aZ.eq_2
attribute [simp] gM.eq_1 gM.eq_2 gM.eq_3 gM.eq_4 gM.eq_5 gM.eq_6 gM.eq_7
attribute [simp] ren.eq_1 ren.eq_2 ren.eq_3 ren.eq_4 ren.eq_5 ren.eq_6 ren.eq_7 ren.eq_8 ren.eq_9
attribute [simp] vG.eq_1 vG.eq_2
attribute [simp] vH.eq_1 vH.eq_2 vH.eq_3 vH.eq_4 vH.eq_5 vH.eq_6 vH.eq_7
attribute [simp] jV.eq_1 jV.eq_2
attribute [simp] gP.eq_1
attribute [simp] GD.eq_1 GD.eq_2
attribute [simp] reach.eq_1 reach.eq_2 reach.eq_3
attribute [simp] EO.eq_1
attribute [simp] oU.eq_1 oU.eq_2
attribute [simp] upto.eq_1 upto.eq_2
attribute [simp] gY.eq_1
attribute [simp] kJ.eq_1 kJ.eq_2
attribute [simp] ev.eq_1 ev.eq_2 ev.eq_3 ev.eq_4
attribute [simp] evL.eq_1 evL.eq_2
attribute [simp] evO.eq_1 evO.eq_2
attribute [simp] LP.eq_1 LP.eq_2 LP.eq_3 LP.eq_4 LP.eq_5 LP.eq_6 LP.eq_7 LP.eq_8 LP.eq_9 LP.eq_10 LP.eq_11 LP.eq_12 LP.eq_13 LP.eq_14 LP.eq_15
attribute [simp] shI.eq_1 shI.eq_2
attribute [simp] U8.eq_1 U8.eq_2 U8.eq_3 U8.eq_4 U8.eq_5 U8.eq_6 U8.eq_7
attribute [simp] AOD.eq_1 AOD.eq_2
attribute [simp] AOB.eq_1 AOB.eq_2
attribute [simp] AK4.eq_1 AK4.eq_2
attribute [simp] AKR.eq_1 AKR.eq_2 RI.eq_1 RI.eq_2 RI.eq_3 RI.eq_4 RI.eq_5 AID.eq_1 AID.eq_2 AID.eq_3 AID.eq_4 AF7.eq_1 AF7.eq_2
attribute [simp] unA.eq_1 unA.eq_2
attribute [simp] lD.eq_1
attribute [simp] jO.eq_1 jO.eq_2
attribute [simp] nA.eq_1 nA.eq_2
attribute [simp] dI.eq_1 dI.eq_2 dI.eq_3 dI.eq_4
attribute [simp] BB.eq_1 BB.eq_2
attribute [simp] qP.eq_1
attribute [simp] P9.eq_1 P9.eq_2
attribute [simp] AKB.eq_1 WJ.eq_1 AFM.eq_1 jU.eq_1 jU.eq_2 PD.eq_1 BC.eq_1
@[simp] theorem ANO (k:Nat) (es:List (List IV)):WJ (some (.arr k es))=false:=(rfl)
@[simp] theorem ANM (k:Nat) (es:List (List IV)):WJ (some (.frz k es))=false:=(rfl)
@[simp] theorem ANN (cs:List AV):WJ (some (.box cs))=false:=(rfl)
@[simp] theorem ATG (v:IV):slC (.i v)=false:=(rfl)
@[simp] theorem AKZ:WJ none=false:=(rfl)
@[simp] theorem ALW (st:Store):AFM st .nils=false:=(rfl)
@[simp] theorem AS4 (st:Store) (v:IV):AFM st (.i v)=false:=(rfl)
attribute [simp] mG.eq_1
attribute [simp] F5.eq_1 F5.eq_2
attribute [simp] R7.eq_1
attribute [simp] AGI.eq_1 AGI.eq_2 AGI.eq_3 AGI.eq_4 AGI.eq_5
attribute [simp] wY.eq_1 wY.eq_2 wY.eq_3 wY.eq_4
attribute [simp] KR.eq_1 KR.eq_2
attribute [simp] partsOf.eq_1 partsOf.eq_2
attribute [simp] NN.eq_1 NN.eq_2
attribute [simp] DR.eq_1
attribute [simp] oH.eq_1 oH.eq_2 oH.eq_3
attribute [simp] mQ.eq_1 mQ.eq_2
attribute [simp] eU.eq_1 eU.eq_2
attribute [simp] XC.eq_1 XC.eq_2
attribute [simp] JI.eq_1 JI.eq_2
attribute [simp] AHX.eq_1 AHX.eq_2
attribute [simp] GA.eq_1 GA.eq_2
attribute [simp] G9.eq_1 G9.eq_2
attribute [simp] loadAt.eq_1 loadAt.eq_2 loadAt.eq_3
attribute [simp] E9.eq_1
attribute [simp] pI.eq_1
attribute [simp] nL.eq_1
attribute [simp] storeAt.eq_1 storeAt.eq_2
attribute [simp] wX.eq_1
attribute [simp] fU.eq_1 fU.eq_2
attribute [simp] qO.eq_1 qO.eq_2
attribute [simp] jN.eq_1 jN.eq_2 jN.eq_3
attribute [simp] mZ.eq_1 mZ.eq_2 mZ.eq_3
attribute [simp] rM.eq_1
attribute [simp] jQ.eq_1
attribute [simp] fG.eq_1
attribute [simp] rZ.eq_1 rZ.eq_2
attribute [simp] iL.eq_1 iL.eq_2 iL.eq_3 iL.eq_4 iL.eq_5
attribute [simp] RA.eq_1 RA.eq_2 GH.eq_1 U5.eq_1 AR0.eq_1 slV.eq_1 slV.eq_2 slV.eq_3 bytesOf.eq_1 bytesOf.eq_2
@[simp] theorem ANW (P:Program) (st:Store) (d:Option DK) (x:AV) (k:IntKind):GH P st d x (some (.int k))=RA (some (.int k)) d x:=(rfl)
@[simp] theorem AGQ (P:Program) (st:Store) (d:Option DK) (x:AV):GH P st d x (some .string)=RA (some .string) d x:=(rfl)
attribute [simp] AA4.eq_1
attribute [simp] AE1.eq_1 AE1.eq_2 AE1.eq_3 AE1.eq_4 AE1.eq_5
attribute [simp] QJ.eq_1
attribute [simp] jD.eq_1 jD.eq_2 jD.eq_3 jD.eq_4
attribute [simp] J5.eq_1 J5.eq_2
attribute [simp] EH.eq_1 EH.eq_2 EH.eq_3
attribute [simp] QQ.eq_1
attribute [simp] lH.eq_1 lH.eq_2
attribute [simp] IU.eq_1 IU.eq_2
attribute [simp] uV.eq_1
attribute [simp] qW.eq_1 oD.eq_1 AKV.eq_1 UD.eq_1 UD.eq_2 slL.eq_1 slL.eq_2 slC.eq_1 slC.eq_2
attribute [simp] RX.eq_1 RX.eq_2
attribute [simp] M0.eq_1 M0.eq_2
attribute [simp] uD.eq_1 uD.eq_2
attribute [simp] fQ.eq_1 fQ.eq_2
attribute [simp] wW.eq_1
attribute [simp] allIn.eq_1 allIn.eq_2
attribute [simp] QI.eq_1 QI.eq_2
attribute [simp] AO2.eq_1
attribute [simp] AE9.eq_1 AE9.eq_2
attribute [simp] oQ.eq_1 oQ.eq_2
attribute [simp] AAP.eq_1
attribute [simp] aP.eq_1 aP.eq_2
attribute [simp] uE.eq_1
attribute [simp] A9.eq_1 A9.eq_2
attribute [simp] WF.eq_1 WF.eq_2
attribute [simp] FN.eq_1 FN.eq_2
attribute [simp] kV.eq_1 kV.eq_2
attribute [simp] uW.eq_1 uW.eq_2
attribute [simp] sP.eq_1
attribute [simp] settle.eq_1
attribute [simp] AFD.eq_1 uQ.eq_1 uQ.eq_2 qY.eq_1 qY.eq_2 N8.eq_1 oL.eq_1 AF3.eq_1 JU.eq_1 EM.eq_1 SI.eq_1 uP.eq_1 uP.eq_2 SK.eq_1 I9.eq_1 R4.eq_1 LA.eq_1 setSt.eq_1 setSt.eq_2 setSt.eq_3
@[simp] theorem AKM (k:Nat):JU (.exit k)=.over (.exit k):=(rfl)
@[simp] theorem AJ8 (k:Nat):EM (.exit k)=false:=(rfl)
@[simp] theorem AL4:EM .ret=false:=(rfl)
@[simp] theorem AM1:JU .ret=.over .ret:=(rfl)
@[simp] theorem APK (vs:List AV):R4 [] vs=[]:=(rfl)
@[simp] theorem AOA (vs:List AV) (E:List (Nat×AV)):LA [] vs E=E:=(rfl)
attribute [simp] VF.eq_1 VF.eq_2 VF.eq_3 VF.eq_4
attribute [simp] FH.eq_1 FH.eq_2 FH.eq_3 FH.eq_4
attribute [simp] RF.eq_1
attribute [simp] AB5.eq_1 AB5.eq_2
attribute [simp] SQ.eq_1 SQ.eq_2
attribute [simp] D7.eq_1 D7.eq_2
attribute [simp] qG.eq_1 qG.eq_2
attribute [simp] SS.eq_1 SS.eq_2
attribute [simp] sD.eq_1 sD.eq_2
attribute [simp] QH.eq_1
attribute [simp] finish.eq_1
attribute [simp] AB2.eq_1 AB2.eq_2 AB2.eq_3 AB2.eq_4
attribute [simp] BM.eq_1 BM.eq_2 BM.eq_3
attribute [simp] J6.eq_1 J6.eq_2
attribute [simp] enter.eq_1
attribute [simp] uL.eq_1 uL.eq_2
attribute [simp] SV.eq_1 SV.eq_2
attribute [simp] jR.eq_1 jR.eq_2 jR.eq_3 jR.eq_4 jR.eq_5
attribute [simp] kX.eq_1 kX.eq_2
attribute [simp] fP.eq_1 fP.eq_2
attribute [simp] AEB.eq_1 AEB.eq_2 AEB.eq_3 AEB.eq_4
attribute [simp] BI.eq_1 BI.eq_2
attribute [simp] sH.eq_1 sH.eq_2 NB.eq_1 lU.eq_1 lU.eq_2 jA.eq_1 jA.eq_2 PR.eq_1 kI.eq_1 kI.eq_2 fO.eq_1 fO.eq_2
@[simp] theorem AMM (v:Value):NB (.lit v)=true:=(rfl)
@[simp] theorem AMN (es:List (List IV)):NB (.isl es)=true:=(rfl)
@[simp] theorem ALK (v:Value):PR (.lit v)=.lit v:=(rfl)
attribute [simp] BF.eq_1 BF.eq_2 BF.eq_3
attribute [simp] pO.eq_1 pO.eq_2
attribute [simp] uI.eq_1
attribute [simp] dW.eq_1 dW.eq_2
attribute [simp] storeT.eq_1 storeT.eq_2 CO.eq_1 CO.eq_2
@[simp] theorem AHV (st:Store) (v:AV):D8 st [v]=some ([v],st):=(rfl)
@[simp] theorem AHW (st:Store):D8 st []=some ([],st):=(rfl)
@[simp] theorem AHU (st:Store) (a b:AV) (r:List AV):D8 st (a::b::r)=sD st (a::b::r):=(rfl)
@[simp] theorem ANH (st:Store) (cs:List AV):vZ st (.agg cs)=bnd (pM st (.agg cs)) fun p=>some (.i p.1,p.2):=(rfl)
@[simp] theorem AKX (st:Store) :vZ st .nils=some (.nils,st):=(rfl)
@[simp] theorem ANF (st:Store) (i o:Nat):vZ st (.own i o)=some ((.own i o),st):=(rfl)
@[simp] theorem AKW (st:Store) (i k j o:Nat):vZ st (.ownE i k j o)=some ((.ownE i k j o),st):=(rfl)
@[simp] theorem ANG (st:Store) (i k o l:Nat):vZ st (.osl i k o l)=some ((.osl i k o l),st):=(rfl)
@[simp] theorem APE (st:Store) (f:Fn) (cs:List AV):vZ st (.fn f cs)=some ((.fn f cs),st):=(rfl)
@[simp] theorem AQU (st:Store) (v:IV):vZ st (.i v)=some ((.i v),st):=(rfl)
@[simp] theorem ANE (st:Store) (cs:List AV):vZ st (.tup cs)=some ((.tup cs),st):=(rfl)
@[simp] theorem AKY (st:Store) :vZ st .junk=some (.junk,st):=(rfl)
@[simp] theorem AOR (all:List Oper) (after:List Edge) (j:Nat):fV all 3 after j=if uE after j=true then true else after.any fun e=>Region.binds .any e && fV all 2 (rP all e.on) j:=(rfl)
@[simp] theorem AOS (all:List Oper) (after:List Edge) (j:Nat):fV all 2 after j=if uE after j=true then true else after.any fun e=>Region.binds .any e && fV all 1 (rP all e.on) j:=(rfl)
@[simp] theorem AOT (all:List Oper) (after:List Edge) (j:Nat):fV all 1 after j=if uE after j=true then true else after.any fun e=>Region.binds .any e && fV all 0 (rP all e.on) j:=(rfl)
@[simp] theorem AOU (all:List Oper) (after:List Edge) (j:Nat):fV all 0 after j=uE after j:=(rfl)
attribute [simp] rP.eq_1
attribute [simp] undef
attribute [simp] wide
end Go.Av
namespace Go.Proofs.YtmcjmafajkeecaaGreatDoor
open Go Go.Av
def GS:FuncId→List Nat
 | 3=>[0,2,3,4,5,6,7,10,27]
 | 4=>[0,2,3,4,5,6,7,8,11,41]
 | 5=>[0,2,3]
 | 6=>[0,1,2,4,5,9]
 | 7=>[0,1,2,4,8]
 | 8=>[0,1,4,5,6,10,22]
 | 9=>[0,1,2,4,5,9]
 | 10=>[0,2,3,4,5,6,7,20]
 | 11=>[0,1,4,5,6,7,29]
 | 12=>[0,1,2,3,4,5,42,47,61]
 | 13=>[0,1,2,4,8]
 | 14=>[0,1,2,4,7]
 | 15=>[0,2,3,4,5,13]
 | 16=>[0,2,5]
 | 17=>[0,2,3,4,5,6,7,14,38,39,40,76,77,78]
 | 18=>[0,1,4,12,13,14]
 | 19=>[0,2,7,8,9]
 | 20=>[0,1,4,5,6,12,39,40,41]
 | 21=>[0,2,7]
 | 22=>[0,1,2]
 | 23=>[0,2]
 | 24=>[0,2,3,4,5,6,13,37,38,39]
 | 25=>[0,1,2,4,7]
 | 26=>[0,1,2,3,4,5,6,15,26,42,58]
 | 27=>[0,1,2,3,4,5,12,29]
 | 28=>[0,1,4,5]
 | 29=>[0,1]
 | 30=>[0,1,4,5,6,7,24,29,41,63,73,74,75]
 | 31=>[1]
 | 32=>[0,1,2,4,8]
 | 33=>[0,1,4,5,6,24,36]
 | 34=>[0,1,4,5,12,13,18,31,36]
 | 35=>[0,1,4,5,6,7,8,18,26,31,46,56,72,90]
 | 36=>[0,1,4,5,10,14,26]
 | 37=>[0,1,4,5,10,14,25]
 | 38=>[0,1,4,6,7,8,23,35,36,37,38,51,52,53,70,71,72]
 | 39=>[0,2,4,12,13,14,15,16,21]
 | 40=>[0,1,2,6,7,8,9,10,31,60,87,92,106,118,119,120,137]
 | 41=>[0,2,3,4,10]
 | 42=>[0,1,4,5,10,11,17,23,33]
 | 43=>[0,1,4]
 | 44=>[0,2,3,6]
 | 45=>[0,2,3,6]
 | 46=>[0,2,3,6]
 | 47=>[0,2,3,7,15]
 | 48=>[0,1,2,3,6,7,8,9,23,28,41,47,48,55,61,70,74,82,106,114,122,126,131,144]
 | 49=>[0]
 | 50=>[0,2,4,6,12]
 | 51=>[0,1,2,3,4,6,7,13,28]
 | 52=>[0,1,2,3,4,5,19,37]
 | 53=>[0,1,2,3,4,7,19]
 | 54=>[0,1,4,8]
 | 55=>[0,1,7]
 | 56=>[0,1,2,3,8,9,10,16,23]
 | 57=>[0,2,3]
 | 58=>[0,2,3,4,5,7,10,13,15]
 | 59=>[0,2,3,4,12]
 | 60=>[0,1,4,5,6]
 | 61=>[0,2,3,4,5,12,15,21]
 | 62=>[0,1,4,5,6,7,9,15,23,29,37,38,39]
 | 63=>[0,1,4]
 | 64=>[0,1,26]
 | 65=>[0,2,3,53]
 | 66=>[0,2,3,4,5,13,23]
 | 67=>[0,2,12]
 | 68=>[0,2,3,4,5,6,9,27,35]
 | 69=>[0,1,4,5,6,7,8,9,10,13,23,40,48,65]
 | 70=>[0,1,2,3,4]
 | 71=>[0,1,2,6]
 | 72=>[0,1,4]
 | 73=>[0,1,4,5,9,10,18,41,42,43]
 | 74=>[0,2]
 | 75=>[0,1,2,6,7,8,13,14,21,22,26,27,35,46,47,48,59,65]
 | 76=>[0,1,4,5,6,18]
 | 77=>[0,1,4,5,10,11,17,24]
 | 78=>[0,1,2,6]
 | 79=>[0,1,2,3,4,6,7,9,12,14,16]
 | 80=>[0,1,2,4]
 | 81=>[0,1,4,5,9,18,21]
 | 82=>[0,1,4,5,9,35]
 | 83=>[0,1,2,4]
 | 84=>[0]
 | 85=>[0,1,2,3,4,16]
 | 86=>[0,1,2]
 | 87=>[0,2,3,4,11]
 | 88=>[0,2,3,4,5,12]
 | 89=>[0,1,4,5]
 | 90=>[0,2]
 | 91=>[0,2,3,4,5,7,22]
 | 92=>[0,2,3]
 | 93=>[0,2,3,4,7,10]
 | 94=>[0,2,4]
 | 95=>[0,2,3,4,7,10]
 | 96=>[0,1,2,6,7,11]
 | 97=>[0,1,2,5,7]
 | 98=>[0,1,4,5,7,10,11,12,13,14,24]
 | 99=>[0,1,2,4]
 | 100=>[0,1,4,5,6,7,8,9,10,11,12,31,44,45,54,62,77,88,110,122,128,146,151,154]
 | 101=>[0,1,2,3,4]
 | 102=>[0,1,4]
 | 103=>[0,1,2,6,7,8,9,10,18,21,37]
 | 104=>[0,2,3,7,8,11]
 | 105=>[0,1,2,3,6,7,24,29,41,43,44,57]
 | 106=>[0,1,4,5,6,7,8,9,10,12,15,20,26,32,36,42,45,46,47,53]
 | 107=>[0,2,3,4,5,6,8,9,10,30,39,44,47,48,49,50,56,66]
 | 108=>[0,1,2,3,4,10,11,12,19,26,34]
 | 109=>[0,1,4,5,9]
 | 110=>[0]
 | 111=>[0,1,2,6,7,8,10,12]
 | 112=>[0,1,2,4]
 | 113=>[0,2]
 | 114=>[0,1,2,6,7,8,28,62,90,95,96,97,109]
 | 115=>[0,1,2,6,7,8,9,20,32,33,34,39,46,59,66]
 | 116=>[0,2,5]
 | 117=>[0,1,2]
 | 118=>[0,1,4,5,6,7,8,9,10,11,12,13,14,15,16,26,33,43,51,64,98,108,124,139,143,160,171,175,176,177,181,183]
 | 119=>[0,2]
 | 120=>[0,2,3,4,5,9,16]
 | 122=>[0,1,2,6,7,8,9,10,11,13,16,17,21,38,41,52,62,69]
 | 123=>[0,1,4]
 | 124=>[0,1,4]
 | 125=>[0,1,2,6]
 | 126=>[0,1,2,6]
 | 127=>[0,1,4]
 | 128=>[0,2,4]
 | 129=>[0,2,3]
 | 130=>[0,1,4,5,6,7,8,9,10,11,12,13,14,15,16,20,99,139,161]
 | 131=>[0,1,2,3,4,10,11,12,13,14,15,16,17,18,28,30,34,46,68,89,94]
 | 132=>[0,2]
 | 133=>[0,1,4]
 | 135=>[0,2]
 | 136=>[]
 | 137=>[0,1,2,6,7,8,9,10,11,12,13,15,16,17,19,25,32,37,40,52,64,77,83,85,90,92,99,100,101,102,106,112,121,137,141,159,169]
 | 138=>[0,2,3,6]
 | 140=>[0,2]
 | 142=>[0,2,3]
 | 143=>[0,2]
 | 145=>[0,1,4,5,6,7,9,11,17,23,34]
 | 146=>[0,1,4]
 | 147=>[0,2]
 | 148=>[0,2,3,4,5,18,46,54,83,87,89,91]
 | 151=>[]
 | 167=>[]
 | 168=>[]
 | _=>[]
def dU:FuncId→Bool
 | 15=>true
 | 18=>true
 | 19=>true
 | 21=>true
 | 24=>true
 | 29=>true
 | 30=>true
 | 31=>true
 | 33=>true
 | 34=>true
 | 35=>true
 | 38=>true
 | 41=>true
 | 42=>true
 | 43=>true
 | 54=>true
 | 55=>true
 | 56=>true
 | 59=>true
 | 60=>true
 | 61=>true
 | 62=>true
 | 63=>true
 | 64=>true
 | 65=>true
 | 67=>true
 | 68=>true
 | 69=>true
 | 71=>true
 | 72=>true
 | 73=>true
 | 76=>true
 | 77=>true
 | 87=>true
 | 96=>true
 | 100=>true
 | 102=>true
 | 103=>true
 | 104=>true
 | 111=>true
 | 115=>true
 | 116=>true
 | _=>false
def keepR:FuncId→Bool
 | 16=>true
 | 41=>true
 | 42=>true
 | 77=>true
 | 44=>true
 | 46=>true
 | 45=>true
 | 52=>true
 | 72=>true
 | 73=>true
 | 38=>true
 | 71=>true
 | 96=>true
 | 111=>true
 | _=>false
def vI:TypeId→Bool
 | 44=>true
 | 45=>true
 | _=>false
@[simp] theorem kR3:keepR 3=false:=(rfl)
@[simp] theorem gS3:GS 3=[0,2,3,4,5,6,7,10,27]:=(rfl)
@[simp] theorem oA5:dU 5=false:=(rfl)
@[simp] theorem kR5:keepR 5=false:=(rfl)
@[simp] theorem gS5:GS 5=[0,2,3]:=(rfl)
@[simp] theorem oA6:dU 6=false:=(rfl)
@[simp] theorem gS6:GS 6=[0,1,2,4,5,9]:=(rfl)
@[simp] theorem oA7:dU 7=false:=(rfl)
@[simp] theorem kR7:keepR 7=false:=(rfl)
@[simp] theorem gS7:GS 7=[0,1,2,4,8]:=(rfl)
@[simp] theorem oA8:dU 8=false:=(rfl)
@[simp] theorem kR8:keepR 8=false:=(rfl)
@[simp] theorem gS8:GS 8=[0,1,4,5,6,10,22]:=(rfl)
@[simp] theorem oA9:dU 9=false:=(rfl)
@[simp] theorem kR9:keepR 9=false:=(rfl)
@[simp] theorem gS9:GS 9=[0,1,2,4,5,9]:=(rfl)
@[simp] theorem AYT:dU 13=false:=(rfl)
@[simp] theorem AaP:keepR 13=false:=(rfl)
@[simp] theorem AcP:GS 13=[0,1,2,4,8]:=(rfl)
@[simp] theorem AYS:dU 14=false:=(rfl)
@[simp] theorem AaO:keepR 14=false:=(rfl)
@[simp] theorem AcO:GS 14=[0,1,2,4,7]:=(rfl)
@[simp] theorem AYR:dU 15=true:=(rfl)
@[simp] theorem AaN:keepR 15=false:=(rfl)
@[simp] theorem AcN:GS 15=[0,2,3,4,5,13]:=(rfl)
@[simp] theorem AYQ:dU 16=false:=(rfl)
@[simp] theorem AaM:keepR 16=true:=(rfl)
@[simp] theorem AcM:GS 16=[0,2,5]:=(rfl)
@[simp] theorem AcL:GS 17=[0,2,3,4,5,6,7,14,38,39,40,76,77,78]:=(rfl)
@[simp] theorem AYP:dU 18=true:=(rfl)
@[simp] theorem AaL:keepR 18=false:=(rfl)
@[simp] theorem AcK:GS 18=[0,1,4,12,13,14]:=(rfl)
@[simp] theorem AcJ:GS 19=[0,2,7,8,9]:=(rfl)
@[simp] theorem AYO:dU 20=false:=(rfl)
@[simp] theorem AcI:GS 20=[0,1,4,5,6,12,39,40,41]:=(rfl)
@[simp] theorem AYN:dU 21=true:=(rfl)
@[simp] theorem AaK:keepR 21=false:=(rfl)
@[simp] theorem AcH:GS 21=[0,2,7]:=(rfl)
@[simp] theorem AYM:dU 22=false:=(rfl)
@[simp] theorem AaJ:keepR 22=false:=(rfl)
@[simp] theorem AcG:GS 22=[0,1,2]:=(rfl)
@[simp] theorem AYL:dU 23=false:=(rfl)
@[simp] theorem AaI:keepR 23=false:=(rfl)
@[simp] theorem AcF:GS 23=[0,2]:=(rfl)
@[simp] theorem AYK:dU 24=true:=(rfl)
@[simp] theorem AcE:GS 24=[0,2,3,4,5,6,13,37,38,39]:=(rfl)
@[simp] theorem AYJ:dU 25=false:=(rfl)
@[simp] theorem AaH:keepR 25=false:=(rfl)
@[simp] theorem AcD:GS 25=[0,1,2,4,7]:=(rfl)
@[simp] theorem AYI:dU 26=false:=(rfl)
@[simp] theorem AaG:keepR 26=false:=(rfl)
@[simp] theorem AcC:GS 26=[0,1,2,3,4,5,6,15,26,42,58]:=(rfl)
@[simp] theorem AYH:dU 27=false:=(rfl)
@[simp] theorem AaF:keepR 27=false:=(rfl)
@[simp] theorem AcB:GS 27=[0,1,2,3,4,5,12,29]:=(rfl)
@[simp] theorem AaE:keepR 29=false:=(rfl)
@[simp] theorem AcA:GS 29=[0,1]:=(rfl)
@[simp] theorem AYG:dU 30=true:=(rfl)
@[simp] theorem AaD:keepR 30=false:=(rfl)
@[simp] theorem Ac9:GS 30=[0,1,4,5,6,7,24,29,41,63,73,74,75]:=(rfl)
@[simp] theorem AYF:dU 31=true:=(rfl)
@[simp] theorem AaC:keepR 31=false:=(rfl)
@[simp] theorem Ac8:GS 31=[1]:=(rfl)
@[simp] theorem AYE:dU 33=true:=(rfl)
@[simp] theorem AaB:keepR 33=false:=(rfl)
@[simp] theorem Ac7:GS 33=[0,1,4,5,6,24,36]:=(rfl)
@[simp] theorem AYD:dU 38=true:=(rfl)
@[simp] theorem AaA:keepR 38=true:=(rfl)
@[simp] theorem Ac6:GS 38=[0,1,4,6,7,8,23,35,36,37,38,51,52,53,70,71,72]:=(rfl)
@[simp] theorem AYC:dU 39=false:=(rfl)
@[simp] theorem Aa9:keepR 39=false:=(rfl)
@[simp] theorem Ac5:GS 39=[0,2,4,12,13,14,15,16,21]:=(rfl)
@[simp] theorem AYB:dU 40=false:=(rfl)
@[simp] theorem Aa8:keepR 40=false:=(rfl)
@[simp] theorem Ac4:GS 40=[0,1,2,6,7,8,9,10,31,60,87,92,106,118,119,120,137]:=(rfl)
@[simp] theorem AYA:dU 41=true:=(rfl)
@[simp] theorem Aa7:keepR 41=true:=(rfl)
@[simp] theorem Ac3:GS 41=[0,2,3,4,10]:=(rfl)
@[simp] theorem AY9:dU 42=true:=(rfl)
@[simp] theorem Aa6:keepR 42=true:=(rfl)
@[simp] theorem Ac2:GS 42=[0,1,4,5,10,11,17,23,33]:=(rfl)
@[simp] theorem AY8:dU 43=true:=(rfl)
@[simp] theorem Aa5:keepR 43=false:=(rfl)
@[simp] theorem Ac1:GS 43=[0,1,4]:=(rfl)
@[simp] theorem AY7:dU 44=false:=(rfl)
@[simp] theorem Aa4:keepR 44=true:=(rfl)
@[simp] theorem Ac0:GS 44=[0,2,3,6]:=(rfl)
@[simp] theorem AY6:dU 45=false:=(rfl)
@[simp] theorem Aa3:keepR 45=true:=(rfl)
@[simp] theorem AbZ:GS 45=[0,2,3,6]:=(rfl)
@[simp] theorem AY5:dU 46=false:=(rfl)
@[simp] theorem Aa2:keepR 46=true:=(rfl)
@[simp] theorem AbY:GS 46=[0,2,3,6]:=(rfl)
@[simp] theorem AY4:dU 47=false:=(rfl)
@[simp] theorem Aa1:keepR 47=false:=(rfl)
@[simp] theorem AbX:GS 47=[0,2,3,7,15]:=(rfl)
@[simp] theorem AY3:dU 48=false:=(rfl)
@[simp] theorem Aa0:keepR 48=false:=(rfl)
@[simp] theorem AbW:GS 48=[0,1,2,3,6,7,8,9,23,28,41,47,48,55,61,70,74,82,106,114,122,126,131,144]:=(rfl)
@[simp] theorem AY2:dU 49=false:=(rfl)
@[simp] theorem AZZ:keepR 49=false:=(rfl)
@[simp] theorem AbV:GS 49=[0]:=(rfl)
@[simp] theorem AY1:dU 50=false:=(rfl)
@[simp] theorem AZY:keepR 50=false:=(rfl)
@[simp] theorem AbU:GS 50=[0,2,4,6,12]:=(rfl)
@[simp] theorem AY0:dU 51=false:=(rfl)
@[simp] theorem AZX:keepR 51=false:=(rfl)
@[simp] theorem AbT:GS 51=[0,1,2,3,4,6,7,13,28]:=(rfl)
@[simp] theorem AXZ:dU 52=false:=(rfl)
@[simp] theorem AZW:keepR 52=true:=(rfl)
@[simp] theorem AbS:GS 52=[0,1,2,3,4,5,19,37]:=(rfl)
@[simp] theorem AXY:dU 53=false:=(rfl)
@[simp] theorem AZV:keepR 53=false:=(rfl)
@[simp] theorem AbR:GS 53=[0,1,2,3,4,7,19]:=(rfl)
@[simp] theorem AXX:dU 55=true:=(rfl)
@[simp] theorem AZU:keepR 55=false:=(rfl)
@[simp] theorem AbQ:GS 55=[0,1,7]:=(rfl)
@[simp] theorem AXW:dU 56=true:=(rfl)
@[simp] theorem AZT:keepR 56=false:=(rfl)
@[simp] theorem AbP:GS 56=[0,1,2,3,8,9,10,16,23]:=(rfl)
@[simp] theorem AXV:dU 57=false:=(rfl)
@[simp] theorem AZS:keepR 57=false:=(rfl)
@[simp] theorem AbO:GS 57=[0,2,3]:=(rfl)
@[simp] theorem AXU:dU 58=false:=(rfl)
@[simp] theorem AZR:keepR 58=false:=(rfl)
@[simp] theorem AbN:GS 58=[0,2,3,4,5,7,10,13,15]:=(rfl)
@[simp] theorem AXT:dU 59=true:=(rfl)
@[simp] theorem AZQ:keepR 59=false:=(rfl)
@[simp] theorem AbM:GS 59=[0,2,3,4,12]:=(rfl)
@[simp] theorem AXS:dU 60=true:=(rfl)
@[simp] theorem AZP:keepR 60=false:=(rfl)
@[simp] theorem AbL:GS 60=[0,1,4,5,6]:=(rfl)
@[simp] theorem AXR:dU 61=true:=(rfl)
@[simp] theorem AZO:keepR 61=false:=(rfl)
@[simp] theorem AbK:GS 61=[0,2,3,4,5,12,15,21]:=(rfl)
@[simp] theorem AXQ:dU 62=true:=(rfl)
@[simp] theorem AZN:keepR 62=false:=(rfl)
@[simp] theorem AbJ:GS 62=[0,1,4,5,6,7,9,15,23,29,37,38,39]:=(rfl)
@[simp] theorem AXP:dU 71=true:=(rfl)
@[simp] theorem AZM:keepR 71=true:=(rfl)
@[simp] theorem AbI:GS 71=[0,1,2,6]:=(rfl)
@[simp] theorem AXO:dU 72=true:=(rfl)
@[simp] theorem AZL:keepR 72=true:=(rfl)
@[simp] theorem AbH:GS 72=[0,1,4]:=(rfl)
@[simp] theorem AXN:dU 73=true:=(rfl)
@[simp] theorem AZK:keepR 73=true:=(rfl)
@[simp] theorem AbG:GS 73=[0,1,4,5,9,10,18,41,42,43]:=(rfl)
@[simp] theorem AXM:dU 74=false:=(rfl)
@[simp] theorem AZJ:keepR 74=false:=(rfl)
@[simp] theorem AbF:GS 74=[0,2]:=(rfl)
@[simp] theorem AXL:dU 75=false:=(rfl)
@[simp] theorem AZI:keepR 75=false:=(rfl)
@[simp] theorem AbE:GS 75=[0,1,2,6,7,8,13,14,21,22,26,27,35,46,47,48,59,65]:=(rfl)
@[simp] theorem AXK:dU 76=true:=(rfl)
@[simp] theorem AZH:keepR 76=false:=(rfl)
@[simp] theorem AbD:GS 76=[0,1,4,5,6,18]:=(rfl)
@[simp] theorem AXJ:dU 77=true:=(rfl)
@[simp] theorem AZG:keepR 77=true:=(rfl)
@[simp] theorem AbC:GS 77=[0,1,4,5,10,11,17,24]:=(rfl)
@[simp] theorem AXI:dU 78=false:=(rfl)
@[simp] theorem AZF:keepR 78=false:=(rfl)
@[simp] theorem AbB:GS 78=[0,1,2,6]:=(rfl)
@[simp] theorem AXH:dU 79=false:=(rfl)
@[simp] theorem AZE:keepR 79=false:=(rfl)
@[simp] theorem AbA:GS 79=[0,1,2,3,4,6,7,9,12,14,16]:=(rfl)
@[simp] theorem AXG:dU 80=false:=(rfl)
@[simp] theorem AZD:keepR 80=false:=(rfl)
@[simp] theorem Ab9:GS 80=[0,1,2,4]:=(rfl)
@[simp] theorem AXF:dU 81=false:=(rfl)
@[simp] theorem AZC:keepR 81=false:=(rfl)
@[simp] theorem Ab8:GS 81=[0,1,4,5,9,18,21]:=(rfl)
@[simp] theorem AXE:dU 82=false:=(rfl)
@[simp] theorem AZB:keepR 82=false:=(rfl)
@[simp] theorem Ab7:GS 82=[0,1,4,5,9,35]:=(rfl)
@[simp] theorem AXD:dU 83=false:=(rfl)
@[simp] theorem AZA:keepR 83=false:=(rfl)
@[simp] theorem Ab6:GS 83=[0,1,2,4]:=(rfl)
@[simp] theorem AXC:dU 84=false:=(rfl)
@[simp] theorem AZ9:keepR 84=false:=(rfl)
@[simp] theorem Ab5:GS 84=[0]:=(rfl)
@[simp] theorem AXB:dU 85=false:=(rfl)
@[simp] theorem AZ8:keepR 85=false:=(rfl)
@[simp] theorem Ab4:GS 85=[0,1,2,3,4,16]:=(rfl)
@[simp] theorem AXA:dU 86=false:=(rfl)
@[simp] theorem AZ7:keepR 86=false:=(rfl)
@[simp] theorem Ab3:GS 86=[0,1,2]:=(rfl)
@[simp] theorem AX9:dU 87=true:=(rfl)
@[simp] theorem AZ6:keepR 87=false:=(rfl)
@[simp] theorem Ab2:GS 87=[0,2,3,4,11]:=(rfl)
@[simp] theorem AX8:dU 88=false:=(rfl)
@[simp] theorem AX7:dU 89=false:=(rfl)
@[simp] theorem AZ5:keepR 89=false:=(rfl)
@[simp] theorem Ab1:GS 89=[0,1,4,5]:=(rfl)
@[simp] theorem AX6:dU 90=false:=(rfl)
@[simp] theorem AZ4:keepR 90=false:=(rfl)
@[simp] theorem Ab0:GS 90=[0,2]:=(rfl)
@[simp] theorem AX5:dU 91=false:=(rfl)
@[simp] theorem AZ3:keepR 91=false:=(rfl)
@[simp] theorem AaZ:GS 91=[0,2,3,4,5,7,22]:=(rfl)
@[simp] theorem AX4:dU 92=false:=(rfl)
@[simp] theorem AZ2:keepR 92=false:=(rfl)
@[simp] theorem AaY:GS 92=[0,2,3]:=(rfl)
@[simp] theorem AX3:dU 93=false:=(rfl)
@[simp] theorem AZ1:keepR 93=false:=(rfl)
@[simp] theorem AaX:GS 93=[0,2,3,4,7,10]:=(rfl)
@[simp] theorem AX2:dU 95=false:=(rfl)
@[simp] theorem AZ0:keepR 95=false:=(rfl)
@[simp] theorem AaW:GS 95=[0,2,3,4,7,10]:=(rfl)
@[simp] theorem AX1:dU 96=true:=(rfl)
@[simp] theorem AYZ:keepR 96=true:=(rfl)
@[simp] theorem AaV:GS 96=[0,1,2,6,7,11]:=(rfl)
@[simp] theorem AX0:dU 97=false:=(rfl)
@[simp] theorem AYY:keepR 97=false:=(rfl)
@[simp] theorem AaU:GS 97=[0,1,2,5,7]:=(rfl)
@[simp] theorem AWZ:dU 98=false:=(rfl)
@[simp] theorem AYW:keepR 98=false:=(rfl)
@[simp] theorem AaT:GS 98=[0,1,4,5,7,10,11,12,13,14,24]:=(rfl)
@[simp] theorem AWY:dU 99=false:=(rfl)
@[simp] theorem AYV:keepR 99=false:=(rfl)
@[simp] theorem AaS:GS 99=[0,1,2,4]:=(rfl)
@[simp] theorem AU2:dU 100=true:=(rfl)
@[simp] theorem AUS:keepR 100=false:=(rfl)
@[simp] theorem AVF:GS 100=[0,1,4,5,6,7,8,9,10,11,12,31,44,45,54,62,77,88,110,122,128,146,151,154]:=(rfl)
@[simp] theorem AU1:dU 101=false:=(rfl)
@[simp] theorem AUR:keepR 101=false:=(rfl)
@[simp] theorem AVE:GS 101=[0,1,2,3,4]:=(rfl)
@[simp] theorem AU0:dU 102=true:=(rfl)
@[simp] theorem AUQ:keepR 102=false:=(rfl)
@[simp] theorem AVD:GS 102=[0,1,4]:=(rfl)
@[simp] theorem ATZ:dU 103=true:=(rfl)
@[simp] theorem AUP:keepR 103=false:=(rfl)
@[simp] theorem AVC:GS 103=[0,1,2,6,7,8,9,10,18,21,37]:=(rfl)
@[simp] theorem ATY:dU 104=true:=(rfl)
@[simp] theorem AUO:keepR 104=false:=(rfl)
@[simp] theorem AVB:GS 104=[0,2,3,7,8,11]:=(rfl)
@[simp] theorem ATX:dU 105=false:=(rfl)
@[simp] theorem AUN:keepR 105=false:=(rfl)
@[simp] theorem AVA:GS 105=[0,1,2,3,6,7,24,29,41,43,44,57]:=(rfl)
@[simp] theorem ATW:dU 106=false:=(rfl)
@[simp] theorem ATV:dU 109=false:=(rfl)
@[simp] theorem AUM:keepR 109=false:=(rfl)
@[simp] theorem AV9:GS 109=[0,1,4,5,9]:=(rfl)
@[simp] theorem ATU:dU 111=true:=(rfl)
@[simp] theorem AUL:keepR 111=true:=(rfl)
@[simp] theorem AV8:GS 111=[0,1,2,6,7,8,10,12]:=(rfl)
@[simp] theorem ATT:dU 112=false:=(rfl)
@[simp] theorem AUK:keepR 112=false:=(rfl)
@[simp] theorem AV7:GS 112=[0,1,2,4]:=(rfl)
@[simp] theorem ATS:dU 113=false:=(rfl)
@[simp] theorem AUJ:keepR 113=false:=(rfl)
@[simp] theorem AV6:GS 113=[0,2]:=(rfl)
@[simp] theorem ATR:dU 114=false:=(rfl)
@[simp] theorem AUI:keepR 114=false:=(rfl)
@[simp] theorem AV5:GS 114=[0,1,2,6,7,8,28,62,90,95,96,97,109]:=(rfl)
@[simp] theorem ATQ:dU 115=true:=(rfl)
@[simp] theorem AUH:keepR 115=false:=(rfl)
@[simp] theorem AV4:GS 115=[0,1,2,6,7,8,9,20,32,33,34,39,46,59,66]:=(rfl)
@[simp] theorem ATP:dU 116=true:=(rfl)
@[simp] theorem AUG:keepR 116=false:=(rfl)
@[simp] theorem AV3:GS 116=[0,2,5]:=(rfl)
@[simp] theorem ATO:dU 117=false:=(rfl)
@[simp] theorem AUF:keepR 117=false:=(rfl)
@[simp] theorem AV2:GS 117=[0,1,2]:=(rfl)
@[simp] theorem ATN:dU 127=false:=(rfl)
@[simp] theorem AUE:keepR 127=false:=(rfl)
@[simp] theorem AV1:GS 127=[0,1,4]:=(rfl)
@[simp] theorem ATM:dU 128=false:=(rfl)
@[simp] theorem AUD:keepR 128=false:=(rfl)
@[simp] theorem AV0:GS 128=[0,2,4]:=(rfl)
@[simp] theorem ATL:dU 132=false:=(rfl)
@[simp] theorem AUC:keepR 132=false:=(rfl)
@[simp] theorem AUZ:GS 132=[0,2]:=(rfl)
@[simp] theorem ATK:dU 145=false:=(rfl)
@[simp] theorem AUB:keepR 145=false:=(rfl)
@[simp] theorem AUY:GS 145=[0,1,4,5,6,7,9,11,17,23,34]:=(rfl)
@[simp] theorem AcQ:vI 45=true:=(rfl)
noncomputable def AI5:FuncId→Option (List AV→StL→Option (AV×StL))
 | 24=>some X8
 | 17=>some AEV
 | _=>none
noncomputable def C0:Ctx:={ P:=Tryz.prog,G:=GS,ownArgs:=dU,keepRes:=keepR,eqT:=vI,prim:=AI5 }
@[simp] theorem dk2:bH Tryz.prog 2=some (.int .i64):=by kernel_rfl
@[simp] theorem dk3:bH Tryz.prog 3=some (.int .i64):=by kernel_rfl
@[simp] theorem sz3:iT Tryz.prog 3=some 1:=by kernel_rfl
@[simp] theorem by3:YG Tryz.prog 3=some 8:=by kernel_rfl
@[simp] theorem ze3:zeroOf Tryz.prog 3=some [(.int .i64 0)]:=by kernel_rfl
@[simp] theorem dk4:bH Tryz.prog 4=some .bool:=by kernel_rfl
@[simp] theorem sz4:iT Tryz.prog 4=some 1:=by kernel_rfl
@[simp] theorem dk5:bH Tryz.prog 5=some (.int .u8):=by kernel_rfl
@[simp] theorem sz5:iT Tryz.prog 5=some 1:=by kernel_rfl
@[simp] theorem by5:YG Tryz.prog 5=some 1:=by kernel_rfl
@[simp] theorem ze5:zeroOf Tryz.prog 5=some [(.int .u8 0)]:=by kernel_rfl
@[simp] theorem dk9:bH Tryz.prog 9=some .string:=by kernel_rfl
@[simp] theorem sz9:iT Tryz.prog 9=some 1:=by kernel_rfl
@[simp] theorem ze9:zeroOf Tryz.prog 9=some [(.string ⟨#[]⟩)]:=by kernel_rfl
@[simp] theorem AdB:bH Tryz.prog 22=some (.slice 5):=by kernel_rfl
@[simp] theorem AWU:iT Tryz.prog 22=some 1:=by kernel_rfl
@[simp] theorem AdA:bH Tryz.prog 23=some (.slice 47):=by kernel_rfl
@[simp] theorem AWT:iT Tryz.prog 23=some 1:=by kernel_rfl
@[simp] theorem Ad9:bH Tryz.prog 24=some (.slice 3):=by kernel_rfl
@[simp] theorem AWS:iT Tryz.prog 24=some 1:=by kernel_rfl
@[simp] theorem Ad8:bH Tryz.prog 25=some (.slice 27):=by kernel_rfl
@[simp] theorem AWR:iT Tryz.prog 25=some 1:=by kernel_rfl
@[simp] theorem Ad7:bH Tryz.prog 27=some .strct:=by kernel_rfl
@[simp] theorem AWQ:iT Tryz.prog 27=some 5:=by kernel_rfl
@[simp] theorem AdK:YG Tryz.prog 27=some 88:=by kernel_rfl
@[simp] theorem AWJ:zeroOf Tryz.prog 27=some [(.int .i64 0),(.int .i64 0),(.slice none 0 0),(.slice none 0 0),(.slice none 0 0)]:=by kernel_rfl
@[simp] theorem AT0:fM Tryz.prog 27 0=some (3,0):=by kernel_rfl
@[simp] theorem ASZ:fM Tryz.prog 27 1=some (3,1):=by kernel_rfl
@[simp] theorem ASY:fM Tryz.prog 27 2=some (23,2):=by kernel_rfl
@[simp] theorem ASX:fM Tryz.prog 27 3=some (24,3):=by kernel_rfl
@[simp] theorem ASW:fM Tryz.prog 27 4=some (25,4):=by kernel_rfl
@[simp] theorem Ad6:bH Tryz.prog 39=some .other:=by kernel_rfl
@[simp] theorem AWP:iT Tryz.prog 39=some 1:=by kernel_rfl
@[simp] theorem Ad5:bH Tryz.prog 43=some .other:=by kernel_rfl
@[simp] theorem AWO:iT Tryz.prog 43=some 1:=by kernel_rfl
@[simp] theorem AdJ:YG Tryz.prog 43=some 8:=by kernel_rfl
@[simp] theorem AWI:zeroOf Tryz.prog 43=some [(.pointer none)]:=by kernel_rfl
@[simp] theorem Ad4:bH Tryz.prog 45=some .strct:=by kernel_rfl
@[simp] theorem AWN:iT Tryz.prog 45=some 2:=by kernel_rfl
@[simp] theorem AWH:zeroOf Tryz.prog 45=some [(.bool false),(.int .i64 0)]:=by kernel_rfl
@[simp] theorem ASV:fM Tryz.prog 45 0=some (4,0):=by kernel_rfl
@[simp] theorem ASU:fM Tryz.prog 45 1=some (3,1):=by kernel_rfl
@[simp] theorem Ad3:bH Tryz.prog 47=some .strct:=by kernel_rfl
@[simp] theorem AWM:iT Tryz.prog 47=some 5:=by kernel_rfl
@[simp] theorem AdI:YG Tryz.prog 47=some 56:=by kernel_rfl
@[simp] theorem AWG:zeroOf Tryz.prog 47=some [(.int .i64 0),(.int .i64 0),(.bool false),(.int .i64 0),(.slice none 0 0)]:=by kernel_rfl
@[simp] theorem AST:fM Tryz.prog 47 0=some (3,0):=by kernel_rfl
@[simp] theorem ASS:fM Tryz.prog 47 1=some (3,1):=by kernel_rfl
@[simp] theorem ASR:fM Tryz.prog 47 2=some (45,2):=by kernel_rfl
@[simp] theorem ASQ:fM Tryz.prog 47 3=some (23,4):=by kernel_rfl
@[simp] theorem Ad2:bH Tryz.prog 49=some .other:=by kernel_rfl
@[simp] theorem AWL:iT Tryz.prog 49=some 1:=by kernel_rfl
@[simp] theorem AdH:YG Tryz.prog 49=some 8:=by kernel_rfl
@[simp] theorem AWF:zeroOf Tryz.prog 49=some [(.pointer none)]:=by kernel_rfl
@[simp] theorem Ad1:bH Tryz.prog 75=some .strct:=by kernel_rfl
@[simp] theorem AWE:zeroOf Tryz.prog 75=some [(.slice none 0 0),(.int .i64 0)]:=by kernel_rfl
@[simp] theorem ASP:fM Tryz.prog 75 0=some (22,0):=by kernel_rfl
@[simp] theorem ASO:fM Tryz.prog 75 1=some (3,1):=by kernel_rfl
@[simp] theorem Ad0:bH Tryz.prog 76=some (.slice 43):=by kernel_rfl
@[simp] theorem AcZ:bH Tryz.prog 80=some (.slice 49):=by kernel_rfl
@[simp] theorem AcY:bH Tryz.prog 82=some (.slice 9):=by kernel_rfl
@[simp] theorem AcX:bH Tryz.prog 90=some .strct:=by kernel_rfl
@[simp] theorem AWK:iT Tryz.prog 90=some 1:=by kernel_rfl
@[simp] theorem AWD:zeroOf Tryz.prog 90=some [(.string ⟨#[]⟩)]:=by kernel_rfl
@[simp] theorem ASN:fM Tryz.prog 90 0=some (9,0):=by kernel_rfl
@[simp] theorem AVK:bH Tryz.prog 108=some (.array 2 3):=by kernel_rfl
@[simp] theorem ATC:zeroOf Tryz.prog 108=some [(.int .i64 0),(.int .i64 0)]:=by kernel_rfl
@[simp] theorem AVJ:bH Tryz.prog 117=some (.array 9 9):=by kernel_rfl
@[simp] theorem ATF:iT Tryz.prog 117=some 9:=by kernel_rfl
@[simp] theorem ATB:zeroOf Tryz.prog 117=some [(.string ⟨#[]⟩),(.string ⟨#[]⟩),(.string ⟨#[]⟩),(.string ⟨#[]⟩),(.string ⟨#[]⟩),(.string ⟨#[]⟩),(.string ⟨#[]⟩),(.string ⟨#[]⟩),(.string ⟨#[]⟩)]:=by kernel_rfl
@[simp] theorem AUU:AAR Tryz.prog 119=true:=by kernel_rfl
@[simp] theorem AVI:bH Tryz.prog 129=some .strct:=by kernel_rfl
@[simp] theorem ATA:zeroOf Tryz.prog 129=some [(.pointer none),(.slice none 0 0),(.int .i64 0),(.int .i64 0)]:=by kernel_rfl
@[simp] theorem AR5:fM Tryz.prog 129 0=some (39,0):=by kernel_rfl
@[simp] theorem AR4:fM Tryz.prog 129 1=some (24,1):=by kernel_rfl
@[simp] theorem AR3:fM Tryz.prog 129 2=some (3,2):=by kernel_rfl
@[simp] theorem AR2:fM Tryz.prog 129 3=some (3,3):=by kernel_rfl
@[simp] theorem AVH:bH Tryz.prog 137=some (.array 12 9):=by kernel_rfl
@[simp] theorem ATD:iT Tryz.prog 137=some 12:=by kernel_rfl
@[simp] theorem AT9:zeroOf Tryz.prog 137=some [(.string ⟨#[]⟩),(.string ⟨#[]⟩),(.string ⟨#[]⟩),(.string ⟨#[]⟩),(.string ⟨#[]⟩),(.string ⟨#[]⟩),(.string ⟨#[]⟩),(.string ⟨#[]⟩),(.string ⟨#[]⟩),(.string ⟨#[]⟩),(.string ⟨#[]⟩),(.string ⟨#[]⟩)]:=by kernel_rfl
@[simp] theorem AVG:bH Tryz.prog 138=some (.int .u64):=by kernel_rfl
end Go.Proofs.YtmcjmafajkeecaaGreatDoor
namespace Go.Av
def fnT (fn:Func):Bool:=(fn.name != "runtime.NumGoroutine") && match fn.body with
 | some c=>codeOk fn.ntmps c
 | none=>true
theorem Y1 {α:Type} {p:α→Bool} {l:List α} (c n:Nat) (hc:0<c) (hl:l.length≤c*n) (h:∀ i,i<n→((l.drop (c*i)).take c).all p=true):l.all p=true:=by
 rw[zM];intro x hx;obtain⟨j,hj,rfl⟩:=List.getElem_of_mem hx;have hd:c*(j / c)+j % c=j:=Nat.div_add_mod j c;have hm:j % c<c:=Nat.mod_lt _ hc
 have hi:j / c<n:=by
  rw[Nat.div_lt_iff_lt_mul hc,yZ];omega
 refine zM.1 (h (j / c) hi) _ ?_;refine zU (i:=j % c) ?_;rw[zH,if_pos hm,yM,hd,zT hj]
theorem AAW {P:Program} (h:P.funcs.toList.all fnT=true):TW P=true:=h
end Go.Av
namespace Go.Proofs.YtmcjmafajkeecaaGreatDoor
open Go Go.Av
set_option maxHeartbeats 2000000
theorem ft:EU Tryz.prog=true:=by kernel_rfl
theorem nt0:((Tryz.prog.funcs.toList.drop (25*0)).take 25).all fnT=true:=by kernel_rfl
theorem nt1:((Tryz.prog.funcs.toList.drop (25*1)).take 25).all fnT=true:=by kernel_rfl
theorem nt2:((Tryz.prog.funcs.toList.drop (25*2)).take 25).all fnT=true:=by kernel_rfl
theorem nt3:((Tryz.prog.funcs.toList.drop (25*3)).take 25).all fnT=true:=by kernel_rfl
theorem nt4:((Tryz.prog.funcs.toList.drop (25*4)).take 25).all fnT=true:=by kernel_rfl
theorem nt5:((Tryz.prog.funcs.toList.drop (25*5)).take 25).all fnT=true:=by kernel_rfl
theorem nt6:((Tryz.prog.funcs.toList.drop (25*6)).take 25).all fnT=true:=by kernel_rfl
theorem nt7:((Tryz.prog.funcs.toList.drop (25*7)).take 25).all fnT=true:=by kernel_rfl
theorem ntl:Tryz.prog.funcs.toList.length≤25*8:=zP (by kernel_rfl)
theorem nt:TW Tryz.prog=true:=AAW (Y1 25 8 (by decide) ntl fun i hi=>by
 have h:i=0∨i=1∨i=2∨i=3∨i=4∨i=5∨i=6∨i=7:=by omega
 rcases h with rfl|rfl|rfl|rfl|rfl|rfl|rfl|rfl
 ·exact nt0
 ·exact nt1
 ·exact nt2
 ·exact nt3
 ·exact nt4
 ·exact nt5
 ·exact nt6
 ·exact nt7)
theorem mo:Tryz.prog.follows .mixedOrders=true:=by kernel_rfl
theorem eqS:∀ t,vI t=true→TZ Tryz.prog t=true:=by
 intro t h;unfold vI at h;split at h
 ·kernel_rfl
 ·kernel_rfl
 ·cases h
@[simp] theorem C_P:C0.P=Tryz.prog:=(rfl)
@[simp] theorem C_G (f):C0.G f=GS f:=(rfl)
@[simp] theorem C_o (f):C0.ownArgs f=dU f:=(rfl)
@[simp] theorem C_k (f):C0.keepRes f=keepR f:=(rfl)
@[simp] theorem C_e (f):C0.eqT f=vI f:=(rfl)
@[simp] theorem C_t:C0.tree=false:=(rfl)
theorem rO:∀ {l:List UInt8} {j:Nat},j<l.length→∃ x:Nat,x<256∧iP (aP l) j=some [.lit (.int .u8 x)]
 | [],j,h=>by simp at h
 | b::l,0,_=>⟨b.toNat,b.toNat_lt,by simp[aP,iP]⟩
 | b::l,j+1,h=>by
  obtain⟨x,h1,h2⟩:=rO (l:=l) (j:=j) (by simpa using h);exact⟨x,h1,by simpa [aP,iP]using h2⟩
theorem fD:∀ (l:List UInt8),(aP l).length=l.length
 | []=>rfl
 | _::l=>by simp[aP,fD l]
theorem wrap64 {x:Int} (h1:-9223372036854775808≤x) (h2:x<9223372036854775808):IntKind.i64.wrap x=x:=by
 unfold IntKind.wrap;simp[IntKind.signed,IntKind.bits];omega
theorem wrO {n:Int} (h1:-9223372036854775808≤n:=by omega) (h2:n<9223372036854775808:=by omega):IntKind.i64.wrap n=n:=wrap64 h1 h2
abbrev Rd (l:List UInt8) (p:Int):Option Blk:=some (.box [.i (.isl (aP l)), .int p])
set_option maxHeartbeats 4000000
set_option maxRecDepth 4000
theorem AQ0 {S:Int} (h0:0≤S) (h1:S<4611686018427387904):0≤IntKind.i64.wrap ((((S % 2 ^ IntKind.i64.bits).toNat ^^^ (IntKind.i64.wrap (S.tdiv 64) % 2 ^ IntKind.i64.bits).toNat:Nat)):Int):=by
 have e1:0≤S.tdiv 64:=Int.tdiv_nonneg h0 (by omega);have e2:S.tdiv 64≤S:=Int.tdiv_le_self _ h0;have e3:IntKind.i64.wrap (S.tdiv 64)=S.tdiv 64:=wrO
 have e4:∀ T:Int,0≤T→T<4611686018427387904→(T % 2 ^ IntKind.i64.bits).toNat<2 ^ 62:=fun T k1 k2=>by
  have:T % 2 ^ IntKind.i64.bits=T:=Int.emod_eq_of_lt k1 (by simp[IntKind.bits];omega);rw[this];omega
 rw[e3];have:=Nat.xor_lt_two_pow (e4 S h0 h1) (e4 (S.tdiv 64) e1 (by omega));rw[wrO];omega
theorem bE (l:List UInt8) (p n:Int) (h0:0≤p) (h1:p<1000000000) (hl:l.length≤2000):∃ v,aH C0 33 [.own 0 0, .int n] [Rd l p]=some (.int v,[Rd l (p+1)])∧(1≤n→0≤v∧v<n)∧(n<1→v=0):=by
 have hw:IntKind.i64.wrap (p+1)=p+1:=wrO;have hw':IntKind.i64.wrap p=p:=wrO;by_cases hn:n<1
 ·refine⟨0,?_,by omega,fun _=>rfl⟩;rw[aF rfl Tryz.func33 rfl rfl];simp[Rd,hw,hn]
 by_cases he:l=[]
 ·refine⟨0,?_,by omega,fun _=>rfl⟩;rw[aF rfl Tryz.func33 rfl rfl];subst he;simp[Rd,hw,hn]
 have hlen:0<l.length:=y9.2 he;have hn0:n≠0:=by omega
 have hn1:(n != 0)=true:=by simp[hn0]
 by_cases hk:p<l.length
 ·obtain⟨x,hx1,hx2⟩:=rO (l:=l) (j:=p.toNat) (by omega);have hwx:IntKind.i64.wrap (x:Int)=x:=wrO;refine⟨(x:Int).tmod n,?_,fun _=>⟨Int.tmod_nonneg _ (by omega),xR _ (by omega)⟩,by omega⟩;rw[aF rfl Tryz.func33 rfl rfl];simp[Rd,hw,hw',hn,hk,he,h0,fD,hx2,hn1,hwx]
 ·obtain⟨x,hx1,hx2⟩:=rO (l:=l) (j:=(p.tmod l.length).toNat) (by have:=xR p (b:=l.length) (by omega);omega);obtain⟨y,hy1,hy2⟩:=rO (l:=l) (j:=((p*7+3).tmod l.length).toNat) (by have:=xR (p*7+3) (b:=l.length) (by omega);omega);have a1:0≤p.tmod l.length:=Int.tmod_nonneg _ h0;have a2:p.tmod l.length<l.length:=xR _ (by omega);have a3:0≤(p*7+3).tmod l.length:=Int.tmod_nonneg _ (by omega);have a4:(p*7+3).tmod l.length<l.length:=xR _ (by omega);have w7:IntKind.i64.wrap (p*7)=p*7:=wrO;have w8:IntKind.i64.wrap (p*7+3)=p*7+3:=wrO;have hwx:IntKind.i64.wrap (x:Int)=x:=wrO;have hwy:IntKind.i64.wrap (y:Int)=y:=wrO;have hl1:((l.length:Int) != 0)=true:=by simp[he]
  rw[aF rfl Tryz.func33 rfl rfl];have d1:0≤p.tdiv l.length:=Int.tdiv_nonneg h0 (by omega);have d2:p.tdiv l.length≤p:=Int.tdiv_le_self _ h0;have w1:IntKind.i64.wrap ((x:Int)*131)=x*131:=wrO;have w2:IntKind.i64.wrap ((y:Int)*1117)=y*1117:=wrO;have w3:IntKind.i64.wrap (p*29)=p*29:=wrO;have w4:IntKind.i64.wrap (p.tdiv l.length)=p.tdiv l.length:=wrO;have w5:IntKind.i64.wrap (p.tdiv l.length*53)=p.tdiv l.length*53:=wrO;have w6:IntKind.i64.wrap ((x:Int)*131+y*1117)=x*131+y*1117:=wrO;have w9:IntKind.i64.wrap ((x:Int)*131+y*1117+p*29)=x*131+y*1117+p*29:=wrO;have wA:IntKind.i64.wrap ((x:Int)*131+y*1117+p*29+p.tdiv l.length*53)=x*131+y*1117+p*29+p.tdiv l.length*53:=wrO;simp[Rd,hw,hw',hn,hk,he,fD,hx2,hy2,hn1,hwx,hwy,w7,w8,hl1,a1,a2,a3,a4,w1,w2,w3,w4,w5,w6,w9,wA];intro hn2;have hx:=AQ0 (S:=x*131+y*1117+p*29+p.tdiv l.length*53) (by omega) (by omega);exact⟨Int.tmod_nonneg _ hx,xR _ (by omega)⟩
theorem O5 (n:Int):n=1∨n=2∨n=3∨n=4∨n=5∨n=6∨n=7∨n=8∨n=9∨n=10∨n=11∨(n≠1∧n≠2∧n≠3∧n≠4∧n≠5∧n≠6∧n≠7∧n≠8∧n≠9∧n≠10∧n≠11):=by omega
@[simp] theorem KJ (n:Int):aH C0 93 [.int n] []=some (.int (bT n),[]):=by
  rw[aF rfl Tryz.func93 rfl rfl]
  rcases O5 n with rfl|rfl|rfl|rfl|rfl|rfl|rfl|rfl|rfl|rfl|rfl|⟨h1,h2,h3,h4,h5,h6,h7,h8,h9,h10,h11⟩
  all_goals first
   | (simp[bT];done)
   | (have e:bT n=-1:=by
       unfold bT;rw[if_neg (by omega),if_neg (by omega),if_neg (by omega)]
      simp[e,h1,h2,h3,h4,h5,h6,h7,h8,h9,h10,h11])
@[simp] theorem ANB (n:Int):aH C0 95 [.int n] []=some (.int (bT n),[]):=by
  rw[aF rfl Tryz.func95 rfl rfl]
  rcases O5 n with rfl|rfl|rfl|rfl|rfl|rfl|rfl|rfl|rfl|rfl|rfl|⟨h1,h2,h3,h4,h5,h6,h7,h8,h9,h10,h11⟩
  all_goals first
   | (simp[bT];done)
   | (have e:bT n=-1:=by
       unfold bT;rw[if_neg (by omega),if_neg (by omega),if_neg (by omega)]
      simp[e,h1,h2,h3,h4,h5,h6,h7,h8,h9,h10,h11])
@[simp] theorem ACS (n:Int):aH C0 74 [.int n] []=some (.bool (cK n),[]):=by
  rw[aF rfl Tryz.func74 rfl rfl];by_cases h1:1≤n<;>by_cases h2:n≤6<;>simp[cK,h1,h2]
@[simp] theorem AL1 (n a b:Int):aH C0 78 [.int n, .int a, .int b] []=some (.bool (decide (a≤n∧n≤b)),[]):=by
  rw[aF rfl Tryz.func78 rfl rfl];by_cases h1:a≤n<;>by_cases h2:n≤b<;>simp[h1,h2]
@[simp] theorem valid_eq (b:Bool) (n:Int):aH C0 112 [.i (.agg [.bool b, .int n])] []=some (.bool (Val.ok ⟨b,n⟩),[]):=by
  rw[aF rfl Tryz.func112 rfl rfl]
  cases b
  ·by_cases h1:-9999≤n<;>by_cases h2:n≤9999<;>simp[Val.ok,h1,h2]
  ·by_cases h1:n=0<;>simp[Val.ok,h1]
@[simp] theorem ACT (b:Bool) (n:Int):aH C0 117 [.i (.agg [.bool b, .int n])] []=some (.bool (Val.ok ⟨b,n⟩),[]):=by
  rw[aF rfl Tryz.func117 rfl rfl]
  cases b
  ·by_cases h1:-9999≤n<;>by_cases h2:n≤9999<;>simp[Val.ok,h1,h2]
  ·by_cases h1:n=0
   ·subst h1;simp[Val.ok]
   ·by_cases h2:-9999≤n<;>by_cases h3:n≤9999<;>simp[Val.ok,h1,h2,h3]
@[simp] theorem RB (v:Val):aH C0 86 [.i (.agg [.bool v.null, .int v.n])] []=some (.i (.agg (Ex.mk 2 0 v []).cells),[]):=by
  rw[aF rfl Tryz.func86 rfl rfl];simp[Ex.cells,Ex.aA]
@[simp] theorem O9 (v:Val):aH C0 22 [.i (.agg [.bool v.null, .int v.n])] []=some (.i (.agg (Ex.mk 2 0 v []).cells),[]):=by
  rw[aF rfl Tryz.func22 rfl rfl];simp[Ex.cells,Ex.aA]
theorem AFK {e:Ex} {w:Int} (n:Nat) (hk:¬ (e.kids.length:Int)=bT e.kind):aH C0 114 [.i (.iref e.cells), .int w, .int n] []=some (.bool false,[]):=by
 rw[aF rfl Tryz.func114 rfl rfl,Ex.aB];simp[Ex.aV,hk]
theorem AH7 {e:Ex} {w:Int} (hk:(e.kids.length:Int)=bT e.kind) (hz:0<bT e.kind):aH C0 114 [.i (.iref e.cells), .int w, .int 0] []=some (.bool false,[]):=by
 rw[aF rfl Tryz.func114 rfl rfl,Ex.aB];simp[Ex.aV,hk,hz]
theorem YT {e:Ex} {w:Int} (n:Nat) (hk:(e.kids.length:Int)=bT e.kind) (hz:0<bT e.kind→n≠0) (hh:e.headOk w=false) :
 aH C0 114 [.i (.iref e.cells), .int w, .int n] []=some (.bool false,[]):=by
 rw[aF rfl Tryz.func114 rfl rfl,Ex.aB];unfold Ex.headOk at hh;by_cases h1:e.kind=1
 ·rw[h1]at hz hk;simp[h1,bT]at hh hk;by_cases h2:0≤e.col
  ·by_cases h3:e.col<w
   ·cases h4:e.val.null with
    | true=>simp[Ex.aV,hk,h1,Int.not_lt.2 h2,zB8.2 h3,h4,bT]
    | false=>simp[Ex.aV,hk,h1,Int.not_lt.2 h2,zB8.2 h3,h4,hh h2 h3 h4,bT]
   ·simp[Ex.aV,hk,h1,Int.not_lt.2 h2,Int.not_lt.1 h3,bT]
  ·simp[Ex.aV,hk,h1,zB8.1 h2,bT]
 ·by_cases h2:e.kind=2
  ·rw[h2]at hz hk;simp[h2,bT]at hh hk;by_cases h3:e.col=0
   ·have h4:Val.ok ⟨e.val.null,e.val.n⟩=false:=hh h3;simp[Ex.aV,hk,h2,h3,h4,bT]
   ·simp[Ex.aV,hk,h2,h3,bT]
  ·simp[h1,h2]at hh;by_cases h0:0<bT e.kind
   ·have hn:=hz h0;by_cases h3:e.col=0
    ·cases h4:e.val.null with
     | true=>simp[Ex.aV,hk,h1,h2,h3,h4,h0,hn,hz h0]
     | false=>simp[Ex.aV,hk,h1,h2,h3,h4,hh h3 h4,h0,hn,hz h0]
    ·simp[Ex.aV,hk,h1,h2,h3,h0,hn,hz h0]
   ·by_cases h3:e.col=0
    ·cases h4:e.val.null with
     | true=>simp[Ex.aV,hk,h1,h2,h3,h4,h0]
     | false=>simp[Ex.aV,hk,h1,h2,h3,h4,hh h3 h4,h0]
    ·simp[Ex.aV,hk,h1,h2,h3,h0]
def VX (e:Ex) (w n:Int) (i:Nat):AS :=
 { env:=[(0, .i (.iref [.int e.kind, .int 0, .bool false, .int 0, .isl (Ex.aA e.kids)])),(1, .int w),(2, .int n),(6, .bool false),(7, .int (bT e.kind)),(8,jk i (.int (i-1))),(28, .bool (n == 0)),(62, .bool false),(90, .bool false),(95, .int (bT e.kind)),(96, .int i),(97,jk i (.bool true)),(109,jk i (.bool false))],st:=[] }
theorem ALQ {e:Ex} {w:Int} (n:Nat) (hn:n≤8) (hk:(e.kids.length:Int)=bT e.kind) (hz:0<bT e.kind→n≠0) (hh:e.headOk w=true) (ih:∀ k∈e.kids,0<bT e.kind→aH C0 114 [.i (.iref k.cells), .int w, .int ((n:Int)-1)] []=some (.bool (Ex.vB w (n-1) k),[])) :
 aH C0 114 [.i (.iref e.cells), .int w, .int n] []=some (.bool (e.kids.all (Ex.vB w (n-1))),[]):=by
 rw[aF rfl Tryz.func114 rfl rfl,Ex.aB]
 rcases Ex.jY w e with h|⟨-,⟨hA,hB,hC,hD,hE,hF⟩|⟨hA,hB,hC,hD,hE,hF⟩|⟨hA,hB,hC,hD,hE,hF⟩⟩
 ·simp[h]at hh
 ·have h2:e.kids=[]:=by rw[hF]at hk;simpa using hk
  simp[h2,Ex.aA,hA,hD,hE,Int.not_lt.2 hB,zB8.2 hC,bT];rw[aD];simp
 ·have h2:e.kids=[]:=by rw[hF]at hk;simpa using hk
  simp[h2,Ex.aA,hA,hB,hC,bT];rw[aD];simp
 ·by_cases h0:0<bT e.kind
  ·have hn:=hz h0;simp[Ex.aV,hk,hA,hB,hC,hD,hE,h0,hn,hz h0];obtain⟨j,h1,h2⟩:=kD (Ex.vB w (n-1)) e.kids;have w1:IntKind.i64.wrap ((n:Int)-1)=n-1:=wrO
   have rd:∀ (i:Nat) (k:Ex),e.kids[i]?=some k→k∈e.kids→i<e.kids.length∧iP (Ex.aA e.kids) i=some k.cells∧aH C0 114 [.i (.iref k.cells), .int w, .int ((n:Int)-1)] []=some (.bool (Ex.vB w (n-1) k),[]) :=
    fun i k a b=>⟨(zX.1 a).1,Ex.aS a,ih k b h0⟩
   have hlen:e.kids.length≤2:=by have:bT e.kind≤2:=by
                                  unfold bT;split;· omega
                                  split;· omega
                                  split<;>omega
                                 omega
   rw[aW (VX e w n) j (by simp[VX])]
   ·rw[aD]
    rcases h2 with ⟨hj,ha⟩|⟨k,h3,h4,h5,ha⟩
    ·have l1:¬ ((j:Int)<bT e.kind):=by omega
     simp[VX,l1,ha]
    ·obtain⟨r1,r2,r3⟩:=rd j k h3 h4;have l1:(j:Int)<bT e.kind:=by omega
     rw[Ex.aB]at r2 r3;simp[VX,l1,r1,ha,r2,r3,w1,h5]
   ·intro i hi;obtain⟨k,h3,h4,h5⟩:=h1 i hi;obtain⟨r1,r2,r3⟩:=rd i k h3 h4;have l1:(i:Int)<bT e.kind:=by omega
    have w2:IntKind.i64.wrap ((i:Int)+1)=i+1:=wrO;rw[Ex.aB]at r2 r3;simp[VX,l1,r1,r2,r3,w1,w2,h5]
  ·have h2:e.kids=[]:=by cases h:e.kids with
    | nil=>rfl
    | cons a l=>rw[h]at hk;simp at hk;omega
   rw[h2]at hk;simp at hk;simp[h2,Ex.aA,hA,hB,hC,hD,hE,← hk];rw[aD];simp
@[simp] theorem uF {w:Int}:∀ (n:Nat) (e:Ex),n≤8→aH C0 114 [.i (.iref e.cells), .int w, .int n] []=some (.bool (Ex.vB w n e),[])
  | 0,e,hn=>by
   by_cases hk:(e.kids.length:Int)=bT e.kind
   ·by_cases hz:0<bT e.kind
    ·rw[show((0:Nat):Int)=0 from rfl,AH7 hk hz];simp[Ex.vB,zB8.2 hz]
    ·cases hh:e.headOk w with
     | false=>rw[YT 0 hk (fun h=>absurd h hz) hh];simp[Ex.vB,hh]
     | true =>
      rw[ALQ 0 hn hk (fun h=>absurd h hz) hh (fun k _ h=>absurd h hz)]
      have:e.kids=[]:=by cases h:e.kids with
       | nil=>rfl
       | cons a l=>rw[h]at hk;simp at hk;omega
      have h3:bT e.kind=0:=by rw[this]at hk;simpa using hk.symm
      simp[Ex.vB,hh,h3,this]
   ·rw[AFK 0 hk];simp[Ex.vB,hk]
  | n+1,e,hn=>by
   by_cases hk:(e.kids.length:Int)=bT e.kind
   ·cases hh:e.headOk w with
    | false=>rw[YT (n+1) hk (fun _=>by omega) hh];simp[Ex.vB,hh]
    | true =>
     rw[ALQ (n+1) hn hk (fun _=>by omega) hh (fun k _ _=>by
      have:=uF (w:=w) n k (by omega);rw[show(((n+1:Nat):Int)-1)=(n:Int)by omega]
      exact this)]
     simp[Ex.vB,hh,hk]
   ·rw[AFK (n+1) hk];simp[Ex.vB,hk]
theorem AFJ {e:Ex} {w:Int} (n:Nat) (hk:¬ (e.kids.length:Int)=bT e.kind):aH C0 105 [.i (.agg e.cells), .int w, .int n] []=some (.bool false,[]):=by
 rw[aF rfl Tryz.func105 rfl rfl,Ex.aB];simp[hk]
theorem AH6 {e:Ex} {w:Int} (hk:(e.kids.length:Int)=bT e.kind) (hz:0<bT e.kind):aH C0 105 [.i (.agg e.cells), .int w, .int 0] []=some (.bool false,[]):=by
 rw[aF rfl Tryz.func105 rfl rfl,Ex.aB];simp[hk,hz]
def EX (e:Ex) (w n:Int) (v:AV) (i:Nat):AS :=
 { env:=[(0, .i (.agg [.int e.kind, .int e.col, .bool e.val.null, .int e.val.n, .isl (Ex.aA e.kids)])),(1, .int w),(2, .int n),(3, .own 0 0),(6, .bool false),(7, .int i),(24,v),(29,jk i (.bool true)),(41,jk i (.bool false)),(43, .junk),(44, .junk),(57, .junk)],
   st:=[some (.box [.int e.kind, .int e.col, .bool e.val.null, .int e.val.n, .i (.isl (Ex.aA e.kids))])] }
theorem ALP {e:Ex} {w:Int} (n:Nat) (hn:n≤8) (hk:(e.kids.length:Int)=bT e.kind) (hz:0<bT e.kind→n≠0)  (hw:1≤w∧w≤6)
 (ih:∀ k∈e.kids,0<bT e.kind→aH C0 105 [.i (.agg k.cells), .int w, .int ((n:Int)-1)] []=some (.bool (Ex.vB w (n-1) k),[])) :
  aH C0 105 [.i (.agg e.cells), .int w, .int n] []=some (.bool (e.kids.all (Ex.vB w (n-1)) && e.headOk w),[]):=by
 rw[aF rfl Tryz.func105 rfl rfl,Ex.aB];have w0:IntKind.i64.wrap (w-1)=w-1:=wrO;by_cases h0:0<bT e.kind
 ·have hn:=hz h0;simp[hk,h0,hn];obtain⟨j,h1,h2⟩:=kD (Ex.vB w (n-1)) e.kids;have w1:IntKind.i64.wrap ((n:Int)-1)=n-1:=wrO
  have rd:∀ (i:Nat) (k:Ex),e.kids[i]?=some k→k∈e.kids→i<e.kids.length∧iP (Ex.aA e.kids) i=some k.cells∧aH C0 105 [.i (.agg k.cells), .int w, .int ((n:Int)-1)] []=some (.bool (Ex.vB w (n-1) k),[]) :=
   fun i k a b=>⟨(zX.1 a).1,Ex.aS a,ih k b h0⟩
  have hlen:e.kids.length≤2:=by have:bT e.kind≤2:=by
                                 unfold bT;split;· omega
                                 split;· omega
                                 split<;>omega
                                omega
  have hk1:e.kind≠1:=fun h=>by rw[h]at h0;simp[bT]at h0
  have hk2:e.kind≠2:=fun h=>by rw[h]at h0;simp[bT]at h0
  rw[aW (EX e w n (.bool ((n:Int) == 0)) ) j (by simp[EX])]
  ·rw[aD]
   rcases h2 with ⟨hj,ha⟩|⟨k,h3,h4,h5,ha⟩
   ·have l1:¬ ((j:Int)<bT e.kind):=by omega
    by_cases h6:e.col=0
    ·cases h7:e.val.null with
     | true=>simp[EX,l1,hk,ha,Ex.headOk,hk1,hk2,h6,h7]
     | false=>simp[EX,l1,hk,ha,Ex.headOk,hk1,hk2,h6,h7]
    ·simp[EX,l1,hk,ha,Ex.headOk,hk1,hk2,h6]
   ·obtain⟨r1,r2,r3⟩:=rd j k h3 h4;have l1:(j:Int)<bT e.kind:=by omega
    rw[Ex.aB]at r2 r3;simp[EX,l1,r1,hk,ha,r2,r3,w1,h5]
  ·intro i hi;obtain⟨k,h3,h4,h5⟩:=h1 i hi;obtain⟨r1,r2,r3⟩:=rd i k h3 h4;have l1:(i:Int)<bT e.kind:=by omega
   have w2:IntKind.i64.wrap ((i:Int)+1)=i+1:=wrO;rw[Ex.aB]at r2 r3;simp[EX,l1,r1,hk,r2,r3,w1,w2,h5]
 ·have h2:e.kids=[]:=by cases h:e.kids with
   | nil=>rfl
   | cons a l=>rw[h]at hk;simp at hk;omega
  rw[h2]at hk;simp at hk;simp[h2,Ex.aA,← hk];rw[aD];by_cases h1:e.kind=1
  ·by_cases h4:0≤e.col
   ·by_cases h5:e.col<w
    ·cases h7:e.val.null with
     | true=>simp[h1,w0,Ex.headOk,h4,h5,h7,show e.col≤w-1 by omega]
     | false=>simp[h1,w0,Ex.headOk,h4,h5,h7,show e.col≤w-1 by omega]
    ·simp[h1,w0,Ex.headOk,h4,h5,show ¬ e.col≤w-1 by omega]
   ·simp[h1,w0,Ex.headOk,h4]
  ·by_cases h3:e.kind=2
   ·by_cases h4:e.col=0
    ·simp[h3,Ex.headOk,h4]
    ·simp[h3,Ex.headOk,h4]
   ·by_cases h4:e.col=0
    ·cases h7:e.val.null with
     | true=>simp[h1,h3,Ex.headOk,h4,h7]
     | false=>simp[h1,h3,Ex.headOk,h4,h7]
    ·simp[h1,h3,Ex.headOk,h4]
theorem wV {w:Int} (hw:1≤w∧w≤6):∀ (n:Nat) (e:Ex),n≤8→aH C0 105 [.i (.agg e.cells), .int w, .int n] []=some (.bool (Ex.vB w n e),[])
 | 0,e,hn=>by
  by_cases hk:(e.kids.length:Int)=bT e.kind
  ·by_cases hz:0<bT e.kind
   ·rw[show((0:Nat):Int)=0 from rfl,AH6 hk hz];simp[Ex.vB,zB8.2 hz]
   ·rw[ALP 0 hn hk (fun h=>absurd h hz) hw (fun k _ h=>absurd h hz)]
    have:e.kids=[]:=by cases h:e.kids with
     | nil=>rfl
     | cons a l=>rw[h]at hk;simp at hk;omega
    have h3:bT e.kind=0:=by rw[this]at hk;simpa using hk.symm
    simp[Ex.vB,h3,this]
  ·rw[AFJ 0 hk];simp[Ex.vB,hk]
 | n+1,e,hn=>by
  by_cases hk:(e.kids.length:Int)=bT e.kind
  ·rw[ALP (n+1) hn hk (fun _=>by omega) hw (fun k _ _=>by
      have:=wV (w:=w) hw n k (by omega);rw[show(((n+1:Nat):Int)-1)=(n:Int)by omega]
      exact this)]
   simp[Ex.vB,hk,Bool.and_comm]
  ·rw[AFJ (n+1) hk];simp[Ex.vB,hk]
theorem ok_eq (w:Int) (e:Ex):aH C0 99 [.i (.agg e.cells), .int w] []=some (.bool (e.ok w),[]):=by
 rw[aF rfl Tryz.func99 rfl rfl];have h:=uF (w:=w) 8 e (by omega);rw[Ex.aB]at h ⊢;have e8:((8:Nat):Int)=8:=rfl;rw[e8]at h
 cases hw:cK w with
 | false=>simp[hw,Ex.ok]
 | true=>simp[hw,Ex.ok,h]
theorem ML (w:Int) (e:Ex):aH C0 80 [.i (.agg e.cells), .int w] []=some (.bool (e.ok w),[]):=by
 rw[aF rfl Tryz.func80 rfl rfl];by_cases hw:1≤w∧w≤6
 ·have h:=wV hw 8 e (by omega);rw[Ex.aB]at h ⊢;have e8:((8:Nat):Int)=8:=rfl;rw[e8]at h;simp[hw,Ex.ok,cK,h]
 ·rw[Ex.aB];simp[hw,Ex.ok,cK]
theorem bL:IntKind.i64.wrap 1=1:=wrO
def CX (e:Ex) (i:Nat):AS :=
 { env:=[(0, .i (.agg [.int e.kind, .int e.col, .bool e.val.null, .int e.val.n, .isl (Ex.aA e.kids)])),(1, .own 0 0),(2, .own 1 0),(3, .own 2 0),(4, .int i),(16,jk i (.bool true))],
   st:=some (.box [.int e.kind, .int e.col, .bool e.val.null, .int e.val.n, .i (.isl (Ex.aA e.kids))])::some (.box [.int 0, .int 0, .bool false, .int 0, .nils]) ::
    some (.box [.int e.kind, .int e.col, .bool e.val.null, .int e.val.n,gro 3 5 i])::PQ 5 (Ex.aA (e.kids.take i)) i }
theorem AJN {e:Ex} (hl:e.kids.length<1000000000) (ih:∀ a∈e.kids,aH C0 85 [.i (.agg a.cells)] []=some (.i (.agg a.cells),[])) :
 aH C0 85 [.i (.agg e.cells)] []=some (.i (.agg e.cells),[]):=by
 rw[aF rfl Tryz.func85 rfl rfl,Ex.aB];simp;rw[aW (CX e) e.kids.length (by simp[CX])]
 ·rw[aD]
  cases hn:e.kids.length with
  | zero =>
   have:e.kids=[]:=zZ.1 hn;simp[CX,this,Ex.aA]
  | succ n =>
   have:e.kids.take (n+1)=e.kids:=zY (by omega);simp[CX,hn,this]
 ·intro i hi;have h3:=zT hi;have hc:=ih _ (zU h3);have r2:=Ex.aS h3;generalize e.kids[i]=a at h3 hc r2;have w2:IntKind.i64.wrap ((i:Int)+1)=i+1:=wrO;by_cases h0:i=0
  ·subst h0;simp[CX,hi,r2,hc,bL,aL h3,Ex.aA]
  ·simp[CX,aQ h0,aJ h0,eP h0,hi,r2,hc,w2,aL h3,Ex.bB,show min i e.kids.length=i by omega,show(i+1)*56≤140737488355328 by omega,zF]
theorem F7:∀ (e:Ex),e.thin→aH C0 85 [.i (.agg e.cells)] []=some (.i (.agg e.cells),[]):=by
 intro e
 induction e using Ex.ind with
 | h k c v ks ih =>
  intro ht;have ht':=(Ex.dY _).1 ht;exact AJN ht'.1 fun a ha=>ih a ha (ht'.2 a ha)
def HX (e:Ex) (i:Nat):AS :=
 { env:=[(0, .i (.iref [.int e.kind, .int e.col, .bool e.val.null, .int e.val.n, .isl (Ex.aA e.kids)])),(2, .int 0),(3, .int (Ex.htL (e.kids.take i):Nat)),(4,jk i (.int (i-1))),(9, .int e.kids.length),(10, .int i),(11,jk i (.bool true))],st:=[] }
@[simp] theorem ABA {e:Ex} (h:e.size<1000000000):aH C0 24 [.i (.iref e.cells)] []=some (.i (.agg e.cells),[]):=by
  rw[aN (p:=X8) rfl];exact AEW h
def YI:List IV:=[.int 0, .int 0, .bool false, .int 0, .isl []]
end Go.Proofs.YtmcjmafajkeecaaGreatDoor
namespace Go.Av
def Ex.subst (e:Ex) (l:List Ex) (w:Int):Option Ex:=if e.ok l.length && (l.all (Ex.ok w) && (e.sub l).ok w)then some (e.sub l)else none
end Go.Av
namespace Go.Proofs.YtmcjmafajkeecaaGreatDoor
open Go Go.Av
set_option maxRecDepth 4000
end Go.Proofs.YtmcjmafajkeecaaGreatDoor
namespace Go.Av
@[simp] theorem L9:∀ l:List UInt8,gQ 1 (aP l)=true
  | []=>rfl
  | _::l=>by have:=L9 l;simp only[gQ]at this;simp[aP,gQ,this]
@[simp] theorem RH:∀ (n:Nat) (l:List UInt8),(aP l).take n=aP (l.take n)
  | 0,l=>by simp[aP]
  | n+1,[]=>by simp[aP]
  | n+1,b::l=>by simp[aP,RH n l]
end Go.Av
namespace Go.Proofs.YtmcjmafajkeecaaGreatDoor
open Go Go.Av
set_option maxRecDepth 4000
theorem NQ (l:List UInt8):∃ l':List UInt8,l'.length≤2000∧aH C0 16 [.i (.isl (aP l))] []=some (.own 0 0,[Rd l' 0]):=by
 by_cases h:(l.length:Int) > 2000
 ·refine⟨l.take 2000,by simp;omega,?_⟩;rw[aF rfl Tryz.func16 rfl rfl];simp[fD,h,show(2000:Int)≤l.length by omega]
 ·refine⟨l,by omega,?_⟩;rw[aF rfl Tryz.func16 rfl rfl];simp[fD,h]
theorem pK (l:List UInt8) (p:Int) (h0:0≤p) (h1:p<1000000000) (hl:l.length≤2000) (es:List (List IV)) (hn:0<es.length) (hes:es.length≤100) (hi:∀ r∈es,∃ x,r=[.int x]) :
 ∃ x:Int,aH C0 43 [.own 0 0, .osl 1 1 0 es.length] [Rd l p,some (.arr 1 es)]=some (.int x,[Rd l (p+1),some (.arr 1 es)])∧[.int x]∈es:=by
 obtain⟨v,hv,hv1,hv2⟩:=bE l p es.length h0 h1 hl;obtain⟨v0,v1⟩:=hv1 (by omega);have hlt:v.toNat<es.length:=by omega
 have hm:=List.getElem_mem hlt;obtain⟨x,hx⟩:=hi _ hm;refine⟨x,?_,hx ▸ hm⟩;have hnth:iP es v.toNat=some [.int x]:=by rw[gV,zT hlt,hx]
 have hw:gQ 1 es=true:=by
  rw[gQ,zM];intro r hr;obtain⟨y,rfl⟩:=hi r hr;rfl
 rw[aF rfl Tryz.func43 rfl rfl];simp[hv,v0,v1,hnth,hw]
theorem rW (l:List UInt8) (p:Int) (h0:0≤p) (h1:p<900000000) (hl:l.length≤2000) :
 ∃ (v:Val) (p':Int),aH C0 116 [.own 0 0] [Rd l p]=some (.i (.agg [.bool v.null, .int v.n]),[Rd l p'])∧p≤p'∧p'≤p+2:=by
 obtain⟨v,hv,hv1,hv2⟩:=bE l p 5 h0 (by omega) hl;by_cases h:v=0
 ·refine⟨⟨true,0⟩,p+1,?_,by omega,by omega⟩;rw[aF rfl Tryz.func116 rfl rfl];simp[hv,h]
 ·obtain⟨x,hx,_⟩:=pK l (p+1) (by omega) (by omega) hl [[.int 0],[.int 1],[.int 2],[.int 3],[.int (-1)]] (by simp) (by simp) (by simp);refine⟨⟨false,x⟩,p+1+1,?_,by omega,by omega⟩;rw[aF rfl Tryz.func116 rfl rfl];simp at hx;simp[hv,h,hx]
theorem RQ (l:List UInt8) (p:Int) (h0:0≤p) (h1:p<900000000) (hl:l.length≤2000) :
 ∃ (v:Val) (p':Int),aH C0 104 [.own 0 0] [Rd l p]=some (.i (.agg [.bool v.null, .int v.n]),[Rd l p'])∧p≤p'∧p'≤p+4:=by
 obtain⟨v,p1,hv,q1,q2⟩:=rW l p h0 (by omega) hl;obtain⟨k,hk,hk1,hk2⟩:=bE l p1 14 (by omega) (by omega) hl;by_cases g0:k=0
 ·refine⟨⟨true,1⟩,p1+1,?_,by omega,by omega⟩;rw[aF rfl Tryz.func104 rfl rfl];simp[hv,hk,g0]
 ·by_cases g1:k=1
  ·obtain⟨x,hx,_⟩:=pK l (p1+1) (by omega) (by omega) hl [[.int 10000],[.int (-10000)],[.int 9999],[.int (-9999)]] (by simp) (by simp) (by simp);refine⟨⟨false,x⟩,p1+1+1,?_,by omega,by omega⟩;rw[aF rfl Tryz.func104 rfl rfl];simp at hx;simp[hv,hk,g1,hx]
  ·refine⟨v,p1+1,?_,by omega,by omega⟩;rw[aF rfl Tryz.func104 rfl rfl];simp[hv,hk,g0,g1]
set_option maxHeartbeats 1000000
theorem ZQ {l:List UInt8} (hl:l.length≤2000) {w:Int} {n:Nat} {p k:Int} (h0:0≤p) (h1:p<800000000) (hk:aH C0 33 [.own 0 0, .int 13] [Rd l p]=some (.int k,[Rd l (p+1)])) (hc:n=0∨k > 10) :
 ∃ (e:Ex) (p':Int),aH C0 103 [.own 0 0, .int w, .int n] [Rd l p]=some (.i (.agg e.cells),[Rd l p'])∧p≤p'∧p'≤p+4∧e.size=1:=by
 obtain⟨t,ht,ht1,ht2⟩:=bE l (p+1) 3 (by omega) (by omega) hl;by_cases g:t > 0
 ·obtain⟨c,hc',-,-⟩:=bE l (p+1+1) w (by omega) (by omega) hl;refine⟨.mk 1 c Val.zero [],p+1+1+1,?_,by omega,by omega,by simp[Ex.size,Ex.bV]⟩;rw[aF rfl Tryz.func103 rfl rfl];by_cases hn:n=0
  ·simp[hk,hn,ht,g,hc',Ex.cells,Ex.aA,Val.zero]
  ·have hk10:k > 10:=by omega
   simp[hk,hn,hk10,ht,g,hc',Ex.cells,Ex.aA,Val.zero]
 ·obtain⟨v,p2,hv,q1,q2⟩:=rW l (p+1+1) (by omega) (by omega) hl;refine⟨.mk 2 0 v [],p2,?_,by omega,by omega,by simp[Ex.size,Ex.bV]⟩;rw[aF rfl Tryz.func103 rfl rfl];by_cases hn:n=0
  ·simp[hk,hn,ht,g,hv]
  ·have hk10:k > 10:=by omega
   simp[hk,hn,hk10,ht,g,hv]
theorem AI0 {l:List UInt8} (hl:l.length≤2000) {w:Int} {n c:Nat} {p k:Int} (h0:0≤p) (h1:p<800000000) (hk:aH C0 33 [.own 0 0, .int 13] [Rd l p]=some (.int k,[Rd l (p+1)])) (hk0:0≤k) (hk1:k≤10) (hn:n<10) (hc:c<100) (hpc:p+(2*c+1)<700000000) (ih:∀ p:Int,0≤p→p+c<700000000→∃ (e:Ex) (p':Int),aH C0 103 [.own 0 0, .int w, .int n] [Rd l p]=some (.i (.agg e.cells),[Rd l p'])∧p≤p'∧p'≤p+c∧e.size≤c) :
 ∃ (e:Ex) (p':Int),aH C0 103 [.own 0 0, .int w, .int ((n+1:Nat):Int)] [Rd l p]=some (.i (.agg e.cells),[Rd l p'])∧p≤p'∧p'≤p+(2*c+1:Nat)∧e.size≤2*c+1:=by
 obtain⟨e1,p1,he1,a1,a2,a3⟩:=ih (p+1) (by omega) (by omega);obtain⟨e2,p2,he2,b1,b2,b3⟩:=ih p1 (by omega) (by omega);have t1:0≤k.tmod 9:=Int.tmod_nonneg _ hk0;have t2:k.tmod 9<9:=xR _ (by omega);have w1:IntKind.i64.wrap (3+k.tmod 9)=3+k.tmod 9:=wrO;have w2:IntKind.i64.wrap (n:Int)=n:=wrO;have w3:IntKind.i64.wrap 2=2:=wrO;have hn1:¬ ((n:Int)+1=0):=by omega
 have wn:((n:Int)+1 == 0)=false:=by simp[hn1]
 have hkk:¬ (10<k):=by omega
 have hK:bT (3+k.tmod 9)=1∨bT (3+k.tmod 9)=2:=by
  unfold bT;split;· omega
  split;· exact .inl rfl
  split;· exact .inr rfl
  ·omega
 rcases hK with hK|hK
 ·refine⟨.mk (3+k.tmod 9) 0 Val.zero [e1],p1,?_,by omega,by omega,by simp[Ex.size,Ex.bV];omega⟩;rw[aF rfl Tryz.func103 rfl rfl];simp[hk,hn1,wn,hkk,w1];rw[aD];simp[hK,w2,he1,bL];rw[aD];simp[hK,Ex.cells,Ex.aA,Val.zero]
 ·refine⟨.mk (3+k.tmod 9) 0 Val.zero [e1,e2],p2,?_,by omega,by omega,by simp[Ex.size,Ex.bV];omega⟩;rw[aF rfl Tryz.func103 rfl rfl];simp[hk,hn1,wn,hkk,w1];rw[aD];simp[hK,w2,he1,bL];rw[aD];simp[hK,w2,he2,w3];rw[aD];simp[hK,Ex.cells,Ex.aA,Val.zero]
def jF:Nat→Nat
 | 0=>4
 | n+1=>2*jF n+1
theorem U4:∀ n,4≤jF n
 | 0=>by simp[jF]
 | n+1=>by have:=U4 n;simp only[jF];omega
theorem rE (l:List UInt8) (hl:l.length≤2000) (w:Int):∀ n:Nat,jF n<200→n<10→∀ p:Int,0≤p→p+jF n<700000000→∃ (e:Ex) (p':Int),aH C0 103 [.own 0 0, .int w, .int n] [Rd l p]=some (.i (.agg e.cells),[Rd l p'])∧p≤p'∧p'≤p+jF n∧e.size≤jF n
 | 0,hc,hn,p,h0,h1=>by
  obtain⟨k,hk,-,-⟩:=bE l p 13 h0 (by omega) hl;obtain⟨e,p',a1,a2,a3,a4⟩:=ZQ hl (n:=0) (w:=w) h0 (by omega) hk (.inl rfl);exact⟨e,p',a1,a2,by simp[jF];omega,by simp[jF];omega⟩
 | n+1,hc,hn,p,h0,h1=>by
  obtain⟨k,hk,hk1,-⟩:=bE l p 13 h0 (by omega) hl;obtain⟨k0,k1⟩:=hk1 (by omega);have hc':jF (n+1)=2*jF n+1:=rfl;by_cases hg:k > 10
  ·obtain⟨e,p',a1,a2,a3,a4⟩:=ZQ hl (n:=n+1) (w:=w) h0 (by omega) hk (.inr hg);have h4:=U4 n;exact⟨e,p',a1,a2,by omega,by omega⟩
  ·rw[hc'];exact AI0 hl h0 (by omega) hk k0 (by omega) (by omega) (by omega) (by omega) fun q q0 q1=>rE l hl w n (by omega) (by omega) q q0 q1
theorem QE (l:List UInt8) (hl:l.length≤2000) (w p:Int) (h0:0≤p) (h1:p<600000000):∃ (e:Ex) (p':Int),aH C0 103 [.own 0 0, .int w, .int 3] [Rd l p]=some (.i (.agg e.cells),[Rd l p'])∧p≤p'∧p'≤p+39∧e.size≤39:=rE l hl w 3 (by decide) (by omega) p h0 (by simp only[jF];omega)
theorem DI (l:List UInt8) (hl:l.length≤2000) (w p:Int) (h0:0≤p) (h1:p<600000000):∃ (e:Ex) (p':Int),aH C0 103 [.own 0 0, .int w, .int 2] [Rd l p]=some (.i (.agg e.cells),[Rd l p'])∧p≤p'∧p'≤p+19∧e.size≤19:=rE l hl w 2 (by decide) (by omega) p h0 (by simp only[jF];omega)
end Go.Proofs.YtmcjmafajkeecaaGreatDoor
namespace Go.Av
end Go.Av
namespace Go.Proofs.YtmcjmafajkeecaaGreatDoor
open Go Go.Av
set_option maxRecDepth 4000
set_option maxHeartbeats 1000000
theorem Y0 (l:List UInt8) (hl:l.length≤2000) (w p:Int) (h0:0≤p) (h1:p<500000000):∃ (e:Ex) (p':Int),aH C0 77 [.own 0 0, .int w] [Rd l p]=some (.i (.agg e.cells),[Rd l p'])∧p≤p'∧p'≤p+50∧e.size≤39:=by
 obtain⟨e,p1,he,a1,a2,a3⟩:=QE l hl w p h0 (by omega);obtain⟨k,hk,-,-⟩:=bE l p1 18 (by omega) (by omega) hl;rw[Ex.aB]at he;by_cases g0:k=0
 ·obtain⟨x,hx,-⟩:=pK l (p1+1) (by omega) (by omega) hl [[.int 0],[.int 12],[.int 3],[.int 10]] (by simp) (by simp) (by simp);refine⟨.mk x e.col e.val e.kids,p1+1+1,?_,by omega,by omega,by rw[Ex.size_eq]at a3 ⊢;simpa [Ex.kids]using a3⟩;rw[aF rfl Tryz.func77 rfl rfl];simp at hx;simp[he,hk,g0,hx,Ex.cells]
 ·by_cases g1:k=1
  ·obtain⟨x,hx,-⟩:=pK l (p1+1) (by omega) (by omega) hl [[.int (-1)],[.int 6],[.int w]] (by simp) (by simp) (by simp);refine⟨.mk e.kind x e.val e.kids,p1+1+1,?_,by omega,by omega,by rw[Ex.size_eq]at a3 ⊢;simpa [Ex.kids]using a3⟩;rw[aF rfl Tryz.func77 rfl rfl];simp at hx;simp[he,hk,g1,hx,Ex.cells]
  ·by_cases g2:k=2
   ·obtain⟨v,p2,hv,q1,q2⟩:=RQ l (p1+1) (by omega) (by omega) hl;refine⟨.mk e.kind e.col v e.kids,p2,?_,by omega,by omega,by rw[Ex.size_eq]at a3 ⊢;simpa [Ex.kids]using a3⟩;rw[aF rfl Tryz.func77 rfl rfl];simp[he,hk,g2,hv,Ex.cells]
   ·refine⟨e,p1+1,?_,by omega,by omega,by omega⟩;rw[aF rfl Tryz.func77 rfl rfl];simp[he,hk,g0,g1,g2,Ex.aB e]
end Go.Proofs.YtmcjmafajkeecaaGreatDoor
namespace Go.Av
def AVM (i:Nat):Ex:=.mk 1 i Val.zero []
def ARR (n:Nat):List Ex:=(List.range n).map AVM
def ASJ (o:Option Ex):Ex:=o.getD Ex.zero
end Go.Av
namespace Go.Proofs.YtmcjmafajkeecaaGreatDoor
open Go Go.Av
set_option maxRecDepth 4000
set_option maxHeartbeats 1000000
def WX (code:List UInt8) (e:Ex) (l:List Ex) (w:Int) (i:Nat):AS :=
 { env:=[(0, .i (.isl (aP code))),(2, .bool false),(3, .own 0 0),(4, .i (.isl (Ex.aA l))),(5, .int w),(6, .own 1 0),(7, .bool (e.subst l w).isSome),(8, .own 2 0),(9, .bool (e.subst l w).isSome),(10, .osl 3 5 0 i),(11, .int i),(12, .junk),(13, .junk),(16, .bool false),(52, .bool false),(65,jk i (.bool true))],
   st:=[some (.box (kW e.cells)),some (.box (kW (ASJ (e.subst l w)).cells)),some (.box (kW (ASJ (e.subst l w)).cells)),some (.arr 5 (Ex.aA (ARR i)))] }
noncomputable def C1:Ctx:={ P:=Tryz.prog,G:=GS,ownArgs:=dU,keepRes:=keepR,eqT:=vI,prim:=fun _=>none }
@[simp] theorem AeR:C1.P=Tryz.prog:=(rfl)
@[simp] theorem AeS (f):C1.G f=GS f:=(rfl)
@[simp] theorem AeO (f):C1.ownArgs f=dU f:=(rfl)
@[simp] theorem AeP (f):C1.keepRes f=keepR f:=(rfl)
@[simp] theorem AeQ (f):C1.eqT f=vI f:=(rfl)
@[simp] theorem AeN:C1.tree=false:=(rfl)
theorem AB7:aH C1 44 [.i (.isl [])] []=some (.nils,[]):=by
 rw[aF rfl Tryz.func44 rfl rfl];simp
theorem U3 {ks:List Ex} (h:ks≠[]) (hl:ks.length<1000000000):aH C1 44 [.i (.isl (Ex.aA ks))] []=some (.osl 0 5 0 ks.length,[some (.arr 5 (Ex.aA ks))]):=by
 rw[aF rfl Tryz.func44 rfl rfl];have h1:56*(ks.length:Int)≤281474976710656:=by omega
 simp[h,h1];unfold over;simp
theorem gK:SoundOk C1:=iF (C:=C1) ft nt eqS mo (ZW fun _=>rfl)
def ptr (p:Nat×Nat):IV:=.lit (.pointer (some ⟨p.1,p.2,none⟩))
def zc:List AV:=[.int 0, .int 0, .bool false, .int 0, .nils]
def AKF (p:Nat×Nat):AS:={ env:=[(0, .i (ptr p))],st:=[] }
def ARZ (e:Ex) (p:Nat×Nat):AS:={ env:=[(0, .i (ptr p)),(2, .own 0 0),(3, .own 1 0),(4, .junk),(5, .junk),(6, .junk),(13, .junk),(37, .junk),(38, .junk),(39, .junk)],st:=[some (.box zc),some (.box (kW e.cells))] }
def SL (b3:Nat) (todo X:KL):AS :=
 { env:=[(0, .junk),(2, .own 0 0),(3, .i (ptr (b3,0))),(4, .osl 1 1 0 todo.length),(5, .junk),(6, .junk),(13, .junk),(37, .junk),(38, .junk),(39, .junk)],st:=[some (.box zc),some (.arr 1 ((todo++X).map fun k=>[ptr k.1]))] }
theorem DJ:∀ (l:KL),∀ c∈(l.map fun k=>[ptr k.1]).flatten,∃ v,c=.lit v
 | [],c,h=>by simp at h
 | k::l,c,h=>by
  simp only[yQ,zD,zV,xS]at h
  rcases h with rfl|h
  ·exact⟨_,rfl⟩
  ·exact DJ l c h
def PP (b3:Nat) (b o n:Nat) (x:Ex) (ES:List (List IV)) (env:Nat→AV) (st:Store):Prop :=
 env 2=.own 0 0∧env 3=.i (ptr (b3,0))∧env 4=.osl 1 1 0 n∧env 5=.i (ptr (b,o))∧env 32=.i (ptr (b,o+4))∧st 0=some (.box zc)∧st 1=some (.arr 1 ES) ∧
  ((env 30=.nils∧x.kids=[])∨∃ id,env 30=.osl id 5 0 x.kids.length∧x.kids≠[]∧st id=some (.arr 5 (Ex.aA x.kids))∧2≤id)
theorem YJ:IntKind.i64.wrap 1=1:=wrO
def RW (init:KL) (b' i:Nat):List (List IV):=(init.map fun k=>[ptr k.1])++(List.range i).map fun j=>[ptr (b',j*5)]
theorem PH (init:KL) (b' i:Nat):(RW init b' i).length=init.length+i:=by simp[RW]
theorem FP (init:KL) (b' i:Nat):RW init b' i++[[ptr (b',i*5)]]=RW init b' (i+1):=by simp[RW,zB6]
theorem nR (b:Nat):∀ (o:Nat) (l:List Ex),(bG b o l).map (fun k=>[ptr k.1])=(List.range l.length).map fun j=>[ptr (b,o+j*5)]
 | _,[]=>by simp[bG]
 | o,a::l=>by
  simp only[bG,yQ,nR b (o+5) l,zS,zB2,zA6];simp only[List.cons.injEq,Nat.zero_mul,yF,true_and];apply y8;intro j _;simp only[Function.comp,Nat.succ_eq_add_one];rw[show o+5+j*5=o+(j+1)*5 by omega]
theorem nS (b:Nat):∀ (o:Nat) (l:List Ex),(bG b o l).length=l.length
 | _,[]=>rfl
 | o,a::l=>by simp[bG,nS b (o+5) l]
theorem nQ (b:Nat):∀ (o:Nat) (l:List Ex),((bG b o l).map fun k=>k.2.size).sum=Ex.bV l
 | _,[]=>rfl
 | o,a::l=>by simp[bG,Ex.bV,nQ b (o+5) l]
def YS (b3 b' cap:Nat) (x:Ex) (init:KL) (ES:List (List IV)) (i:Nat):AS :=
 { env:=[(0, .junk),(2, .own 0 0),(3, .i (ptr (b3,0))),(4,if i=0 then .osl 1 1 0 init.length else .osl 2 1 0 (init.length+i)),(5, .i (.iref [.int x.kind, .int x.col, .bool x.val.null, .int x.val.n, .lit (.slice (some ⟨b',0,none⟩) x.kids.length cap)])),(6,jk i (.int (i-1))),(13, .junk),(37, .int x.kids.length),(38, .int i),(39,jk i (.bool true))],
   st:=some (.box zc)::if i=0 then [some (.arr 1 ES)]else [none,some (.arr 1 (RW init b' i))] }
set_option maxHeartbeats 1000000
theorem OO {e:Ex} (he:e.size<1000000000) {wi:World} {mi:Mem} {b o:Nat} (hi:Inv wi mi (fun _=>none) (aT []))
 (hrun:∀ w',wi.heap.size≤w'.heap.size→(∀ f,f<wi.heap.size→w'.heap[f]?=wi.heap[f]?)→∃ y,(Instr.loadAt 47 (.pointer (some ⟨b,o,none⟩))).run C1.P w'=.ok y w'∧IRep mi (.agg e.cells) y) :
 Calls Tryz.prog 24 #[.pointer (some ⟨b,o,none⟩)] wi (bK wi mi (fun _=>none) (.i (.agg e.cells)) []):=by
 refine calls_of_wp (fn:=Tryz.f24) Tryz.func24 rfl ?_
 have g0:GG wi mi 52 (fun id=>id<(AKF (b,o)).st.length) [] (aY (AKF (b,o)).env) (aT (AKF (b,o)).st) { tmps:=[Value.pointer (some ⟨b,o,none⟩)].toArray++Array.replicate (52-1) undef,defers:=[] } wi:=by
  refine⟨⟨mi,fun _=>none,hi,?_, .refl _ _ _,fun id h=>absurd rfl h,fun k hk=>by simp at hk⟩,by simp,rfl⟩;intro t;have:=qJ (m:=mi) (φ:=fun _=>none) (52-1) (show RepL mi (fun _=>none) [.i (ptr (b,o))] [.pointer (some ⟨b,o,none⟩)]from .cons (.i (.lit _)) .nil) t
  cases t with
  | zero=>simpa [AKF,aY,BM]using this
  | succ t=>simp only[AKF,aY];simp;exact .junk _
 refine wp_seq (wp_mono (GG.iJ gK (G:=GS 24) (S:=AKF (b,o)) (e:=.normal) (S':={ env:=[(0, .i (ptr (b,o))),(2, .own 0 0),(3, .junk),(4, .junk),(5, .junk),(6, .junk),(13, .junk),(37, .junk),(38, .junk),(39, .junk)],st:=[some (.box zc)] }) (by kernel_rfl) (by simp[AKF,zc,ptr]) g0) ?_);rintro _ a1 w1 ⟨rfl,g1⟩
 refine wp_seq (GG.AHY gK (os1:=[_,_]) (os2:=[_,_]) (G:=GS 24) (S:={ env:=[(0, .i (ptr (b,o))),(2, .own 0 0),(3, .junk),(4, .junk),(5, .junk),(6, .junk),(13, .junk),(37, .junk),(38, .junk),(39, .junk)],st:=[some (.box zc)] }) (S':=ARZ e (b,o)) rfl (by
  have h:∀ ops:Array Oper,ops.all (jC 52)=true→∀ o∈ops,jC 52 o=true:=fun ops h o ho=>yH.1 h o ho
  exact h _ (by kernel_rfl)) g1 (by decide) hrun ?_ ?_)
 ·rw[Ex.aB];simp[ARZ,zc,ptr,Ex.aB]
 intro a2 w2 g2
 obtain⟨b3,g3⟩:=g2.pub (u:=3) (id:=1) (e:=e) (st':=aT [some (.box zc)]) (ok':=fun id=>id<1) rfl rfl (by
  intro i blk h
  cases i with
  | zero=>simp[aT]at h;subst h;exact⟨by omega,rfl,by simp[fZ,zc]⟩
  | succ i=>simp[aT]at h) (by
  intro i h
  cases i with
  | zero=>omega
  | succ i=>simp[aT]at h)
 have g3:=g3 (aY [(2, .own 0 0),(3, .i (ptr (b3,0)))]) (by
  intro t;simp only[aY];by_cases h2:t=2
  ·subst h2;exact .inr (.inr ⟨rfl,by simp[ARZ,aY,jG,aT]⟩)
  ·by_cases h3:t=3
   ·subst h3;exact .inr (.inl ⟨rfl,rfl⟩)
   ·simp[h2,h3])
 refine wp_seq (wp_mono (GG.iJ gK (G:=GS 24) (S:={ env:=[(2, .own 0 0),(3, .i (ptr (b3,0)))],st:=[some (.box zc)] }) (e:=.normal) (S':=SL b3 [((b3,0),e)] []) (by kernel_rfl) (by simp[SL,ptr,zc]) g3) ?_);rintro _ a3 w3 ⟨rfl,g4⟩;refine wp_seq (wp_block ?_);refine C8 (fun n a w=>∃ todo X K:KL,(∀ k∈todo,k∈K)∧((b3,0),e)∈K∧(todo.map fun k=>k.2.size).sum=n∧n<1000000000∧GG wi mi 52 (fun id=>id<(SL b3 todo X).st.length) K (aY (SL b3 todo X).env) (aT (SL b3 todo X).st) a w) ?_ (n:=e.size) ⟨[((b3,0),e)],[],[((b3,0),e)],fun k hk=>hk,by simp,by simp,he,g4⟩;rintro n a w ⟨todo,X,K,hsub,hb3,hsum,hn,g⟩
 rcases List.eq_nil_or_concat todo with rfl|⟨init,k,rfl⟩
 ·refine wp_mono (GG.iJ gK (G:=GS 24) (S:=SL b3 [] X) (e:=.exit 0) (S':={ env:=[(0, .junk),(2, .own 0 0),(3, .i (ptr (b3,0))),(4, .osl 1 1 0 0),(5, .junk),(6, .junk),(13, .bool false),(37, .junk),(38, .junk),(39, .junk)],st:=[some (.box zc),some (.arr 1 (X.map fun k=>[ptr k.1]))] }) (by kernel_rfl) (by simp[SL,ptr,zc]) g) ?_;rintro _ a5 w5 ⟨rfl,g5⟩;simp only[jP,Exit.then,Exit.inBlock,if_true]
  have g6:=(g5.see (u:=3) (b:=b3) (o:=0) rfl hb3).envTo (env':=aY [(2, .own 0 0),(3, .i (.iref e.cells))]) (by
   intro t;simp only[aY,upd];by_cases h2:t=2
   ·subst h2;simp
   ·by_cases h3:t=3
    ·subst h3;simp
    ·simp[h2,h3])
  refine wp_mono (GG.iJ gK (G:=GS 24) (S:={ env:=[(2, .own 0 0),(3, .i (.iref e.cells))],st:=[some (.box zc),some (.arr 1 (X.map fun k=>[ptr k.1]))] }) (e:=.ret) (S':={ env:=[(0, .junk),(2, .own 0 0),(3, .i (.iref e.cells)),(4, .junk),(5, .junk),(6, .junk),(13, .junk),(37, .junk),(38, .junk),(39, .junk)],st:=[some (.box (kW e.cells)),some (.arr 1 (X.map fun k=>[ptr k.1]))] }) (by kernel_rfl) (by simp[zc]) g6) ?_;rintro _ a6 w6 ⟨rfl,g7⟩;obtain⟨⟨m,φ,q1,q2,q3,q4,q5⟩,q6,q7⟩:=g7
  obtain⟨v,k1,k2⟩:=kQ (C:=C1) (fn:=Tryz.f24) (keep:=false) (na:=0) (S:={ env:=[(0, .junk),(2, .own 0 0),(3, .i (.iref e.cells)),(4, .junk),(5, .junk),(6, .junk),(13, .junk),(37, .junk),(38, .junk),(39, .junk)],st:=[some (.box (kW e.cells)),some (.arr 1 (X.map fun k=>[ptr k.1]))] }) (r:=.i (.agg e.cells)) (stl':=[]) (fun id h=>absurd rfl h) ⟨⟨⟨m,φ,q1,q2,q3,q4, .nil _ _ _⟩,q6,q7⟩,zA9 _⟩ (by
   show finish C1 false [ResultVar.cell 2 47] 0 _=_
   simp)
  exact⟨q7,v,k1,k2⟩
 ·clear g0 g4 g3 g1 g2;obtain⟨⟨b,o⟩,x⟩:=k
  have hlen:∀ l:KL,l.length≤(l.map fun k=>k.2.size).sum:=by
   intro l
   induction l with
   | nil=>simp
   | cons a l ih=>have:=Ex.qX a.2;simp;omega
  have hil:=hlen init;simp at hsum;have hxk:((b,o),x)∈K:=hsub _ (by simp);have hxs:=Ex.size_eq x;have hkl:=Ex.gU x.kids;have hne:¬ ((init.length:Int)+1≤0):=by omega
  have hpos:(0:Int)<(init.length:Int)+1:=by omega
  have w1:IntKind.i64.wrap (init.length:Int)=init.length:=wrO;generalize hES:((init++[((b,o),x)]++X).map fun k=>[ptr k.1])=ES
  have hnth:iP ES init.length=some [ptr (b,o)]:=by
   rw[gV,← hES];simp
  have hlit:∀ c∈ES.flatten,∃ v,c=.lit v:=by rw[← hES];exact DJ _
  have hlt:(init.length:Int)<(init.length:Int)+1:=by omega
  have hlt2:(init.length:Int)≤(init.length:Int)+1:=by omega
  refine wp_seq (wp_mono (GG.iJ gK (G:=GS 24) (S:=SL b3 (init++[((b,o),x)]) X) (e:=.normal) (S':={ env:=[(0, .junk),(2, .own 0 0),(3, .i (ptr (b3,0))),(4, .osl 1 1 0 (init.length+1)),(5, .junk),(6, .junk),(13, .bool true),(37, .junk),(38, .junk),(39, .junk)],st:=[some (.box zc),some (.arr 1 ES)] }) (by kernel_rfl) (by simp only[SL,hES];simp[ptr,zc,hpos]) (by simpa using g)) ?_);rintro _ a5 w5 ⟨rfl,g5⟩;clear g;refine wp_block ?_;refine wp_seq (wp_mono (GG.iJ gK (G:=GS 24) (S:={ env:=[(0, .junk),(2, .own 0 0),(3, .i (ptr (b3,0))),(4, .osl 1 1 0 (init.length+1)),(5, .junk),(6, .junk),(13, .bool true),(37, .junk),(38, .junk),(39, .junk)],st:=[some (.box zc),some (.arr 1 ES)] }) (e:=.normal) (S':={ env:=[(0, .junk),(2, .own 0 0),(3, .i (ptr (b3,0))),(4, .osl 1 1 0 (init.length+1)),(5,(.i (ptr (b,o)))),(6, .junk),(13, .bool true),(37, .junk),(38, .junk),(39, .junk)],st:=[some (.box zc),some (.arr 1 ES)] }) (by kernel_rfl) (by simp only[ptr]at hnth;simp[ptr,zc,hnth,w1,hlt]) g5) ?_);rintro _ a6 w6 ⟨rfl,g6⟩;clear g5;refine wp_seq (wp_mono (GG.iJ gK (G:=GS 24) (S:={ env:=[(0, .junk),(2, .own 0 0),(3, .i (ptr (b3,0))),(4, .osl 1 1 0 (init.length+1)),(5,(.i (ptr (b,o)))),(6, .junk),(13, .bool true),(37, .junk),(38, .junk),(39, .junk)],st:=[some (.box zc),some (.arr 1 ES)] }) (e:=.normal) (S':={ env:=[(0, .junk),(2, .own 0 0),(3, .i (ptr (b3,0))),(4, .osl 1 1 0 init.length),(5,(.i (ptr (b,o)))),(6, .junk),(13, .bool true),(37, .junk),(38, .junk),(39, .junk)],st:=[some (.box zc),some (.arr 1 ES)] }) (by kernel_rfl) (by simp[ptr,zc,w1,hlt2]) g6) ?_);rintro _ a7 w7 ⟨rfl,g7⟩;clear g6
  refine wp_seq (GG.region gK (os1:=[_,_]) (os2:=[_,_,_,_,_,_]) (u:=26) (PP:=PP b3 b o init.length x ES) rfl (by
   have h:∀ ops:Array Oper,ops.all (jC 52)=true→∀ o∈ops,jC 52 o=true:=fun ops h o ho=>yH.1 h o ho
   exact h _ (by kernel_rfl)) g7 hxk ?_ ?_)
  ·rw[Ex.aB];by_cases hx:x.kids=[]
   ·simp[ptr,zc,hx,PP,Ex.aA,AB7]
   ·simp[ptr,zc,PP,U3 hx (by omega),hx]
  ·rintro env st a8 w8 ⟨p2,p3,p4,p5,p32,q0,q1,p30⟩ g8;clear g7
   obtain⟨w9,b',ao,cap,e1,e2,hrun,hG⟩:=GG.turn (C:=C1) (ok':=fun id=>id<2) (st':=aT [some (.box zc),some (.arr 1 ES)]) (u:=30) (t:=23) g8 (by simp) hi.mem hxk rfl (by
    rcases p30 with ⟨h1,h2⟩|⟨id,h1,h2,h3,h4⟩
    ·refine .inl ⟨h1,h2,?_⟩;intro i blk h
     rcases i with _|_|i
     ·simp[aT]at h;subst h;exact q0
     ·simp[aT]at h;subst h;exact q1
     ·simp[aT]at h
    ·refine .inr ⟨id,h1,h2,h3,?_⟩;intro i blk h
     rcases i with _|_|i
     ·simp[aT]at h;subst h;exact⟨by omega,q0⟩
     ·simp[aT]at h;subst h;exact⟨by omega,q1⟩
     ·simp[aT]at h) (by
    intro i blk h
    rcases i with _|_|i
    ·simp[aT]at h;subst h;simp[fZ,zc]
    ·simp[aT]at h;subst h;exact hlit
    ·simp[aT]at h) (by
    intro i h
    rcases i with _|_|i
    ·omega
    ·omega
    ·simp[aT]at h)
   have ev5:=g8.WG (t:=5) p5;have ev32:=g8.WG (t:=32) p32
   refine GM (C:=C1) (w':=w9) rfl (by
    show(Instr.storeAt 23 (a8.tmps.getD 32 undef) (a8.tmps.getD 30 undef)).run C1.P w8=_
    rw[ev32];exact hrun) ?_
   have g9:=hG (aY [(2, .own 0 0),(3, .i (ptr (b3,0))),(4, .osl 1 1 0 init.length),(5,(.i (.iref [.int x.kind, .int x.col, .bool x.val.null, .int x.val.n, .lit (.slice ao x.kids.length cap)])))]) (by
    intro t;simp only[aY];by_cases h2:t=2
    ·subst h2;exact .inr (.inr ⟨by simp[p2],by rw[p2];simp[jG,aT]⟩)
    by_cases h3:t=3
    ·subst h3;exact .inr (.inr ⟨by simp[p3],by rw[p3];simp[jG,ptr]⟩)
    by_cases h4:t=4
    ·subst h4;exact .inr (.inr ⟨by simp[p4],by rw[p4];simp[jG,aT]⟩)
    by_cases h5:t=5
    ·subst h5;exact .inr (.inl ⟨ev5,by simp⟩)
    ·simp[h2,h3,h4,h5])
   clear hG g8;show Code.wp _ _ _ _ _;refine wp_seq (wp_mono (GG.iJ gK (G:=GS 24) (S:={ env:=[(2, .own 0 0),(3, .i (ptr (b3,0))),(4, .osl 1 1 0 init.length),(5,(.i (.iref [.int x.kind, .int x.col, .bool x.val.null, .int x.val.n, .lit (.slice ao x.kids.length cap)])))],st:=[some (.box zc),some (.arr 1 ES)] }) (e:=.normal) (S':={ env:=[(0, .junk),(2, .own 0 0),(3, .i (ptr (b3,0))),(4, .osl 1 1 0 init.length),(5,(.i (.iref [.int x.kind, .int x.col, .bool x.val.null, .int x.val.n, .lit (.slice ao x.kids.length cap)]))),(6, .junk),(13, .junk),(37, .int x.kids.length),(38, .int 0),(39, .junk)],st:=[some (.box zc),some (.arr 1 ES)] }) (by kernel_rfl) (by simp[ptr,zc]) g9) ?_);rintro _ a10 w10 ⟨rfl,g10⟩;clear g9;by_cases hx:x.kids=[]
   ·refine wp_mono (GG.iJ gK (G:=GS 24) (S:={ env:=[(0, .junk),(2, .own 0 0),(3, .i (ptr (b3,0))),(4, .osl 1 1 0 init.length),(5,(.i (.iref [.int x.kind, .int x.col, .bool x.val.null, .int x.val.n, .lit (.slice ao x.kids.length cap)]))),(6, .junk),(13, .junk),(37, .int x.kids.length),(38, .int 0),(39, .junk)],st:=[some (.box zc),some (.arr 1 ES)] }) (e:=.normal) (S':={ env:=[(0, .junk),(2, .own 0 0),(3, .i (ptr (b3,0))),(4, .osl 1 1 0 init.length),(5,(.i (.iref [.int x.kind, .int x.col, .bool x.val.null, .int x.val.n, .lit (.slice ao x.kids.length cap)]))),(6, .junk),(13, .junk),(37, .int x.kids.length),(38, .int 0),(39, .bool false)],st:=[some (.box zc),some (.arr 1 ES)] }) (by kernel_rfl) (by
     simp only[hx,zI];simp;rw[aD]
     simp[ptr,zc]) g10) ?_
    rintro _ a11 w11 ⟨rfl,g11⟩;simp only[jP,Exit.then,Exit.inBlock];refine⟨n-1,by omega,init,((b,o),x)::X,K++bG b' 0 x.kids,fun k hk=>yN _ (hsub k (by simp[hk])),yN _ hb3,?_,by omega,?_⟩
    ·rw[hx]at hxs;simp[Ex.bV]at hxs;omega
    ·have hES2:((init++((b,o),x)::X).map fun k=>[ptr k.1])=ES:=by rw[← hES];simp
     simp only[SL,hES2]
     exact g11.envTo (by
      intro t;simp only[aY];by_cases h2:t=2
      ·subst h2;simp
      by_cases h3:t=3
      ·subst h3;simp
      by_cases h4:t=4
      ·subst h4;simp
      ·simp[h2,h3,h4])
   ·obtain rfl:=e2 hx;have hET:ES.take init.length=RW init b' 0:=by rw[← hES];simp[RW]
    have hEL:init.length≤ES.length:=by rw[← hES];simp
    have hlim:∀ i,i≤x.kids.length→(init.length+i+1)*8≤140737488355328:=fun i hi=>by omega
    have hk0:x.kids.length≠0:=fun h=>hx (zZ.1 h)
    refine wp_mono (GG.iJ gK (G:=GS 24) (S:={ env:=[(0, .junk),(2, .own 0 0),(3, .i (ptr (b3,0))),(4, .osl 1 1 0 init.length),(5,(.i (.iref [.int x.kind, .int x.col, .bool x.val.null, .int x.val.n, .lit (.slice (some ⟨b',0,none⟩) x.kids.length cap)]))),(6, .junk),(13, .junk),(37, .int x.kids.length),(38, .int 0),(39, .junk)],st:=[some (.box zc),some (.arr 1 ES)] }) (e:=.normal) (S':={ env:=[(0, .junk),(2, .own 0 0),(3, .i (ptr (b3,0))),(4, .osl 2 1 0 (init.length+x.kids.length)),(5,(.i (.iref [.int x.kind, .int x.col, .bool x.val.null, .int x.val.n, .lit (.slice (some ⟨b',0,none⟩) x.kids.length cap)]))),(6, .int (x.kids.length-1)),(13, .junk),(37, .int x.kids.length),(38, .int x.kids.length),(39, .bool false)],st:=[some (.box zc),none,some (.arr 1 (RW init b' x.kids.length))] }) (by kernel_rfl) (by
     simp;rw[aW (YS b3 b' cap x init ES) x.kids.length (by simp[YS])]
     ·rw[aD];simp[YS,hk0,eP hk0,zc,ptr]
     ·intro i hi;have w2:IntKind.i64.wrap ((i:Int)+1)=i+1:=wrO;have hi0:(i:Int)<x.kids.length:=by omega
      by_cases h0:i=0
      ·subst h0;have hl:(init.length+1)*8≤140737488355328:=by omega
       have hR:RW init b' 0++[[.lit (.pointer (some ⟨b',0,none⟩))]]=RW init b' 1:=by simpa [ptr]using FP init b' 0
       simp[YS,zc,ptr,YJ,hi,hET,hEL,hl,hR]
      ·have hl:=hlim i (by omega);have hT:(RW init b' i).take (init.length+i)=RW init b' i:=zY (by rw[PH];omega);have hR:RW init b' i++[[.lit (.pointer (some ⟨b',i*5,none⟩))]]=RW init b' (i+1):=by simpa [ptr]using FP init b' i
       simp[YS,h0,eP h0,zc,ptr,w2,hi,hT,PH,hl,hR,← Nat.add_assoc]) g10) ?_
    rintro _ a11 w11 ⟨rfl,g11⟩;simp only[jP,Exit.then,Exit.inBlock];refine⟨n-1,by omega,init++bG b' 0 x.kids,[],K++bG b' 0 x.kids,?_,yN _ hb3,?_,by omega,?_⟩
    ·intro k hk
     rcases zV.1 hk with h|h
     ·exact yN _ (hsub k (by simp[h]))
     ·exact zA0 _ h
    ·rw[yG,List.sum_append,nQ];omega
    ·have g12:=g11.settle [2,3,4]
     have hR:List.map (fun k:(Nat×Nat)×Ex=>[ptr k.1]) (init++bG b' 0 x.kids++[])=RW init b' x.kids.length:=by
      rw[z8,yG,nR];simp[RW]
     have hl:(init++bG b' 0 x.kids).length=init.length+x.kids.length:=by rw[zR,nS]
     simp only[SL,hR,hl]
     have hs:Av.settle [2,3,4] 0 (aY [(0, .junk),(2, .own 0 0),(3, .i (ptr (b3,0))),(4, .osl 2 1 0 (init.length+x.kids.length)),(5, .i (.iref [.int x.kind, .int x.col, .bool x.val.null, .int x.val.n, .lit (.slice (some ⟨b',0,none⟩) x.kids.length cap)])),(6, .int (x.kids.length-1)),(13, .junk),(37, .int x.kids.length),(38, .int x.kids.length),(39, .bool false)]) (aT [some (.box zc),none,some (.arr 1 (RW init b' x.kids.length))])={ env:=[(2, .own 0 0),(3, .i (ptr (b3,0))),(4, .osl 1 1 0 (init.length+x.kids.length))],st:=[some (.box zc),some (.arr 1 (RW init b' x.kids.length))] }:=by
      simp[zc,ptr]
     rw[hs]at g12
     exact g12.envTo (by
      intro t;simp only[aY];by_cases h2:t=2
      ·subst h2;simp
      by_cases h3:t=3
      ·subst h3;simp
      by_cases h4:t=4
      ·subst h4;simp
      ·simp[h2,h3,h4])
theorem TI {w:World} {m:Mem} {φ:Pl} {st:Store} {t:TypeId} {a v:AV} {x:Value} (hi:Inv w m φ st) (hr:Rep m φ a x) (h:E9 C1 t a st=some v):∃ y,(Instr.loadAt t x).run C1.P w=.ok y w∧Rep m φ v y:=by
 obtain⟨ad,y,k1,k2,k3⟩:=tF hi hr h;exact⟨y,by subst k1;simpa [Instr.loadAt,Instr.sureAddr]using k2,k3⟩
theorem AEI {w:World} {m:Mem} (h:mM w m):Inv w m (fun _=>none) (aT []):=⟨h,fun id blk e=>(by simp[aT]at e),fun i j b b' n n' b1 b2 f e=>(by simp[aT]at e),fun _ _ _ _ e=>(by cases e)⟩
theorem AU {e:Ex} (he:e.size<1000000000) {wi:World} {mi:Mem} {φ:Pl} {vs:List Value} (hi:Inv wi mi φ (aT [])) (hr:RepL mi φ [.i (.iref e.cells)] vs) (h0:∀ id,φ id≠none→id<0) :
 Calls Tryz.prog 24 vs.toArray wi (bK wi mi φ (.i (.agg e.cells)) []):=by
 obtain rfl:φ=fun _=>none:=by
  funext id
  cases h:φ id with
  | none=>rfl
  | some p=>exact absurd (h0 id (by rw[h];simp)) (xD _)
 cases hr with
 | cons h1 h2 =>
  cases h2
  have hp:=h1
  cases h1 with
  | i h1=>cases h1 with
   | iref ha =>
    refine OO he hi fun w' hs hw=>?_
    obtain⟨y,k1,k2⟩:=TI (t:=47) (v:=.i (.agg e.cells)) (hi.later hs hw) hp (by rw[Ex.aB];simp)
    cases k2 with
    | i k2=>exact⟨y,k1,k2⟩
theorem XA {e:Ex} (he:e.size<1000000000) {w:World} {m:Mem} {φ:Pl} {vs:List Value} {es:List (List IV)} {j:Nat} (hes:es[j]?=some e.cells) (hi:Inv w m φ (aT [some (.arr 5 es)])) (hr:RepL m φ [.ownE 0 5 j 0] vs) (h0:∀ id,φ id≠none→id<1) :
 Calls Tryz.prog 24 vs.toArray w (bK w m φ (.i (.agg e.cells)) [some (.arr 5 es)]):=by
 cases hr with
 | cons h1 h2 =>
  cases h2
  have hp:=h1
  cases h1 with
  | ownE hφ =>
   refine(OO he (AEI hi.mem) fun w' hs hw=>?_).mono ?_
   ·obtain⟨y,k1,k2⟩:=TI (t:=47) (v:=.i (.agg e.cells)) (hi.later hs hw) hp (by
     have h5:=hes;rw[← gV]at h5
     rw[Ex.aB]at h5 ⊢;simp[h5])
    cases k2 with
    | i k2=>exact⟨y,k1,k2⟩
   ·rintro en w' ⟨v,m',φ',rfl,j1,j2,j3,j4⟩;have free0:∀ b,fH (fun _=>none) b:=fun b id r n e=>by cases e
    have hsame:∀ f,f<w.heap.size→w'.heap[f]?=w.heap[f]?:=fun f hf=>j3.block f hf (free0 f)
    refine⟨v,m',φ,rfl,?_,⟨j2.mem,fun id blk hb=>?_,hi.inj,fun id b n f e ho=>yY (hi.low id b n f e ho) j3.size⟩,⟨j3.size,j3.os,j3.tape,j3.output,fun b hb' _=>hsame b hb',j3.mle,fun b hb' _ o=>j3.mnew b hb' (free0 b) o, .refl _,fun _ _ _ _ e ho=>.inr (fH.not e ho)⟩,h0⟩
    ·cases j1 with
     | i j1=>exact .i j1
    ·obtain⟨b,n,k1,k2,k3⟩:=hi.live id blk hb;exact⟨b,n,k1,⟨k2.1,fun f hf=>yY (k2.2 f hf) j3.size⟩,k3.mono k2.1 (fun f hf=>hsame f (k2.2 f hf)) j3.mle (.refl _) fun f hf o=>j3.mnew f (k2.2 f hf) (free0 f) o⟩
end Go.Proofs.YtmcjmafajkeecaaGreatDoor
namespace Go.Av.V
open Go.Av
def RL (w:World) (b n:Nat):Prop:=∃ (vs:List Value) (T:TypeId),w.heap[b]?=some (.cells vs.toArray T (0,0))∧n≤vs.length∧∀ v∈vs,v.oneCell'=true
theorem RL.lt {w:World} {b n:Nat} (h:RL w b n):b<w.heap.size:=by
 obtain⟨vs,T,e,_⟩:=h;exact(zG.1 e).1
abbrev Nd:=Ex×Option (Nat×Nat)
structure PF (B:Nat) (w:World) (m:Mem) (φ:Pl) (b o:Nat) (y:Nd):Prop where
 new:B≤b
 row:∃ (vs:List Value) (T:TypeId),w.heap[b]?=some (.cells vs.toArray T (0,0))
 free:fH φ b
 cel:IAt m b o y.1.cells
 lit:∀ b' cap,y.2=some (b',cap)→m b (o+4)=some (.slice (some ⟨b',0,none⟩) y.1.kids.length cap)∧B≤b'∧fH φ b'∧RL w b' (5*cap)
abbrev KL:=List ((Nat×Nat)×Nd)
theorem PF.lt {B:Nat} {w:World} {m:Mem} {φ:Pl} {b o:Nat} {x:Nd} (h:PF B w m φ b o x):b<w.heap.size:=by
 obtain⟨vs,T,e⟩:=h.row;exact(zG.1 e).1
theorem PF.adv {B:Nat} {w w':World} {m m':Mem} {φ φ':Pl} {b o:Nat} {x:Nd} (h:PF B w m φ b o x) (k:Adv w m φ w' m' φ'):PF B w' m' φ' b o x:=by
 refine⟨h.new,?_,k.range h.lt h.free,h.cel.mono k.mle,fun b' cap e=>?_⟩
 ·rw[k.block b h.lt h.free];exact h.row
 ·obtain⟨h1,h2,h3,h4⟩:=h.lit b' cap e;refine⟨k.mle _ _ _ h1,h2,k.range h4.lt h3,?_⟩;obtain⟨vs,T,e1,e2⟩:=h4;exact⟨vs,T,by rw[k.block b' (zG.1 e1).1 h3];exact e1,e2⟩
structure GG (wi:World) (mi:Mem) (nt:Nat) (ok:Nat→Prop) (K:KL) (env:Nat→AV) (st:Store) (a:Act) (w:World):Prop where
 out:∃ m φ,Inv w m φ st∧(∀ t,Rep m φ (env t) (a.tmps.getD t undef))∧Adv wi mi (fun _=>none) w m φ∧(∀ id,φ id≠none→ok id)∧∀ k∈K,PF wi.heap.size w m φ k.1.1 k.1.2 k.2
 size:nt≤a.tmps.size
 defers:a.defers=[]
section
variable {C:Ctx} {wi:World} {mi:Mem} {nt:Nat}
theorem GG.ofA {ok ok':Nat→Prop} {K:KL} {env env':Nat→AV} {st st':Store} {a a':Act} {w w':World} {m:Mem} {φ:Pl} (h3:Adv wi mi (fun _=>none) w m φ) (h5:∀ k∈K,PF wi.heap.size w m φ k.1.1 k.1.2 k.2) (h:ARel [] w m φ nt ok' env' st' a' w'):GG wi mi nt ok' K env' st' a' w':=by
 obtain⟨⟨m',φ',k1,k2,k3,k4,_⟩,k5,k6⟩:=h;exact⟨⟨m',φ',k1,k2,h3.trans k3,k4,fun k hk=>(h5 k hk).adv k3⟩,k5,k6⟩
theorem GG.code (hC:CtxOk C) {call:dG} (hcall:CallOk C call) (hdraw:PK C call) {G:List Nat} {n:Nat} {c:Code} {S S':AS} {e:AExit} {a:Act} {w:World} {K:KL} (hc:codeOk nt c=true) (hx:exec C call G S.st.length n c S=some (e,S')) (h:GG wi mi nt (fun id=>id<S.st.length) K (aY S.env) (aT S.st) a w) (hnr:bJ c=true:=by rfl) :
 c.wp C.P (fun e' a' w'=>e'=jP e∧GG wi mi nt (fun id=>id<S'.st.length) K (aY S'.env) (aT S'.st) a' w') a w:=by
 obtain⟨⟨m,φ,h1,h2,h3,h4,h5⟩,h6,h7⟩:=h;refine wpIn_wide.1 (wpIn_mono (bY (ρ:=none) hC hcall hdraw h4 n c S S' e [] a w hc (.inl rfl) hx ⟨⟨⟨m,φ,h1,h2, .refl _ _ _,h4, .nil _ _ _⟩,h6,h7⟩,zO _⟩) ?_);rintro e' a' w' ⟨rfl,ds,k,kd⟩;have kd:=kd hnr;subst kd;exact⟨rfl, .ofA (ok:=fun _=>True) (env:=fun _=>.junk) (st:=st0) (a:=a) h3 h5 k.1⟩
where st0:Store:=fun _=>none
theorem GG.ops (hC:CtxOk C) {call:dG} (hcall:CallOk C call) {ops:Array Oper} {Q:Exit→Act→World→Prop} {base:Nat} {js:List Nat} {K:KL} (hs:∀ o∈ops,jC nt o=true) {os:List Oper} {i:Nat} {R R':RS} {a:Act} {w:World} (hl:∀ j,j<os.length→os[j]?=ops[i+j]?) (hx:dJ C call ops.toList false base os i R=some R')
 (h:GG wi mi nt (II base fun j=>j<i) K R.env R.st a w) (hQ:∀ a' w',GG wi mi nt (II base fun j=>j<i+os.length) K R'.env R'.st a' w'→wpOpsIn (FR none) 0 C.P ops Q js a' w'):wpOpsIn (FR none) 0 C.P ops Q (List.range' i os.length++js) a w:=by
 obtain⟨⟨m,φ,h1,h2,h3,h4,h5⟩,h6,h7⟩:=h;exact jM hC hcall hs os i R R' a w hl hx ⟨⟨m,φ,h1,h2, .refl _ _ _,h4, .nil _ _ _⟩,h6,h7⟩ fun a' w' k=>hQ a' w' (.ofA (ok:=fun _=>True) (env:=fun _=>.junk) (st:=fun _=>none) (a:=a) h3 h5 k)
theorem GG.settle {ok:Nat→Prop} {K:KL} {env:Nat→AV} {st:Store} {a:Act} {w:World} (G:List Nat) (h:GG wi mi nt ok K env st a w) :
 GG wi mi nt (fun id=>id<(settle G 0 env st).st.length) K (aY (settle G 0 env st).env) (aT (settle G 0 env st).st) a w:=by
 obtain⟨⟨m,φ,hi,henv,hadv,hok,hK⟩,hsz,hdf⟩:=h;unfold Av.settle sP;generalize hids:gY st 0 (uW env G)=ids;have hd:ids.Nodup:=by rw[← hids];exact fT _ _ _
 have hfree:∀ b,fH φ b→fH (eG ids φ) b:=by
  intro b hb id r n e;unfold eG at e
  cases hx:ids[id]? with
  | none=>rw[hx]at e;cases e
  | some j=>rw[hx]at e;exact hb j r n e
 refine⟨⟨m,eG ids φ,hi.keep hd,?_,hadv.keep (fun id h=>absurd rfl h) (fun j hj=>absurd hj (xD j)),?_,fun k hk=>⟨(hK k hk).new,(hK k hk).row,hfree _ (hK k hk).free,(hK k hk).cel,fun b' cap e=>by
  obtain⟨h1,h2,h3,h4⟩:=(hK k hk).lit b' cap e
  exact⟨h1,h2,hfree _ h3,h4⟩⟩⟩,hsz,hdf⟩
 ·intro t
  have key:∀ G:List Nat,Rep m (eG ids φ) (aY (kV (gP ids) env G) t) (a.tmps.getD t undef):=by
   intro G
   induction G with
   | nil=>exact .junk _
   | cons u G ih =>
    simp only[kV,aY];by_cases e:t=u
    ·subst e;simp only[if_true];exact(henv t).ren (kN ids φ)
    ·simp only[e,if_false];exact ih
  exact key G
 ·intro id hne;simp only[gD];unfold eG at hne
  cases hx:ids[id]? with
  | none=>rw[hx]at hne;exact absurd rfl hne
  | some i=>exact(zX.1 hx).1
theorem GG.see {ok:Nat→Prop} {K:KL} {env:Nat→AV} {st:Store} {a:Act} {w:World} {u b o:Nat} {x:Nd} (h:GG wi mi nt ok K env st a w) (hu:env u=.i (.lit (.pointer (some ⟨b,o,none⟩)))) (hk:((b,o),x)∈K):GG wi mi nt ok K (upd env u (.i (.iref x.1.cells))) st a w:=by
 obtain⟨⟨m,φ,hi,henv,hadv,hok,hK⟩,hsz,hdf⟩:=h;refine⟨⟨m,φ,hi,fun t=>?_,hadv,hok,hK⟩,hsz,hdf⟩;simp only[upd];split
 ·rename_i e;subst e;have:=henv t;rw[hu]at this;rw[this.lit_eq];exact .i (.iref (hK _ hk).cel)
 ·exact henv t
theorem GG.envTo {ok:Nat→Prop} {K:KL} {env env':Nat→AV} {st:Store} {a:Act} {w:World} (h:GG wi mi nt ok K env st a w) (he:∀ t,env' t=.junk∨env' t=env t):GG wi mi nt ok K env' st a w:=by
 obtain⟨⟨m,φ,hi,henv,hadv,hok,hK⟩,hsz,hdf⟩:=h;refine⟨⟨m,φ,hi,fun t=>?_,hadv,hok,hK⟩,hsz,hdf⟩
 rcases he t with e|e
 ·rw[e];exact .junk _
 ·rw[e];exact henv t
theorem GG.ok' {ok ok':Nat→Prop} {K:KL} {env:Nat→AV} {st:Store} {a:Act} {w:World} (h:GG wi mi nt ok K env st a w) (he:∀ id,ok id→ok' id):GG wi mi nt ok' K env st a w:=by
 obtain⟨⟨m,φ,hi,henv,hadv,hok,hK⟩,hsz,hdf⟩:=h;exact⟨⟨m,φ,hi,henv,hadv,fun id h=>he id (hok id h),hK⟩,hsz,hdf⟩
end
section
variable {C:Ctx} {wi:World} {mi:Mem}
theorem vQ {w:World} {m:Mem} {φ:Pl} {st:Store} {K:KL} {b o:Nat} {y:Nd} {x:Ex} (hyx:y.1=x) {v:Value} {t:TypeId} (ht:iT C.P t=some 1) (hi:Inv w m φ st) (hst:AFG st) (hadv:Adv wi mi (fun _=>none) w m φ) (hmi:mM wi mi)
 (hK:∀ k∈K,PF wi.heap.size w m φ k.1.1 k.1.2 k.2) (hk:((b,o),y)∈K) (hnl:∀ k∈K,k.1=(b,o)→k.2.2=none) (hv:IRep m (.isl (Ex.aA x.kids)) v) :
 ∃ w' m',(Instr.storeAt t (.pointer (some ⟨b,o+4,none⟩)) v).run C.P w=.ok () w'∧Inv w' m' φ st∧Adv wi mi (fun _=>none) w' m' φ∧(∀ k∈K,PF wi.heap.size w' m' φ k.1.1 k.1.2 k.2) ∧
   IAt m' b o [.int x.kind, .int x.col, .bool x.val.null, .int x.val.n, .lit v]∧(∀ c n,RL w c n→RL w' c n):=by
 have hp:=hK _ hk;subst hyx;obtain⟨u,hx⟩:=wD hp.cel;obtain⟨vs,T,hrow⟩:=hp.row;have hone:=KM hv
 have hcells:v.cells.toList=[v]:=by
  rcases jW hv with ⟨_,ao,cap,rfl⟩|⟨_,b',off,k',cap,rfl,_⟩<;>rfl
 have hcsz:v.cells.size=1:=by rw[← Array.length_toList,hcells];rfl
 have hlen:o+4<vs.length:=by
  have:=hi.mem _ _ _ hx.c4;simp only[World.cell?,hrow,xH]at this;have h2:vs.toArray[o+4]?=some u:=by simpa using this
  have:=(zG.1 h2).1;simpa using this
 have hrun:=iZ (P:=C.P) (t:=t) (v:=v) (off:=o+4) (by rw[hcsz];exact ht) hrow (by omega) (by rw[hcells];simpa using hone);rw[hcells,hcsz]at hrun;generalize hvs':vs.take (o+4)++[v]++vs.drop (o+4+1)=vs' at hrun;have hheap:(w.setRow b vs'.toArray).heap[b]?=some (.cells vs'.toArray T (0,0)):=setRow_heap w b _ _ T (0,0) hrow;have hother:∀ k,k≠b→(w.setRow b vs'.toArray).heap[k]?=w.heap[k]?:=fun k hk=>setRow_other w b k _ hk
 have hget:∀ j,vs'[j]?=if j=o+4 then some v else vs[j]?:=by
  intro j;subst hvs'
  have hs:vs.take (o+4)++[v]++vs.drop (o+4+1)=vs.set (o+4) v:=by
   rw[xB];simp[hlen]
  rw[hs,List.getElem?_set];by_cases e:o+4=j
  ·subst e;simp[hlen]
  ·simp[e,Ne.symm e]
 have hall:(∀ u∈vs,u.oneCell'=true)→∀ u∈vs',u.oneCell'=true:=by
  intro h u hu;obtain⟨j,hj⟩:=List.getElem?_of_mem hu;rw[hget]at hj;split at hj
  ·injection hj with hj;subst hj;exact hone
  ·exact h u (zU hj)
 refine⟨w.setRow b vs'.toArray,turn m b (o+4) v,?_,?_,?_,?_,?_,?_⟩
 ·simp only[Instr.storeAt,Instr.sureAddr,Sem.run_bind,Sem.run_pure,Result.andThen_ok];exact hrun
 ·refine⟨?_,?_,hi.inj,fun i b n f e ho=>by simpa [World.setRow]using hi.low i b n f e ho⟩
  ·intro b1 o1 q hq;unfold turn at hq;by_cases e1:b1=b
   ·subst e1;simp only[World.cell?,hheap,xH]
    have:vs'.toArray[o1]?=some q:=by
     rw[List.getElem?_toArray,hget];split at hq
     ·rename_i e;rw[if_pos e.2];exact hq
     ·rename_i e;have e2:o1≠o+4:=fun h=>e ⟨rfl,h⟩
      rw[if_neg e2];have:=hi.mem _ _ _ hq;simp only[World.cell?,hrow,xH]at this;simpa using this
    simpa using this
   ·rw[if_neg (fun h=>e1 h.1)]at hq;have:=hi.mem _ _ _ hq;simp only[World.cell?]at this ⊢;rw[hother b1 e1];exact this
  ·intro id blk hb;obtain⟨b2,n2,h1,h2,h3⟩:=hi.live id blk hb;have hne:b2≠b:=fun e=>hp.free id b2 n2 h1 (by rw[← e];exact h2.1)
   refine⟨b2,n2,h1,⟨h2.1,fun f hf=>by simpa [World.setRow]using h2.2 f hf⟩,h3.PN (hst id blk hb) (hother b2 hne) fun o' ho'=>?_⟩;unfold turn;rw[if_neg (fun h=>hne h.1)];exact ho'
 ·refine⟨by simpa [World.setRow]using hadv.size,hadv.os,⟨hadv.tape.tape,hadv.tape.fwd⟩,hadv.output,?_,?_,?_,hadv.ple,hadv.pnew⟩
  ·intro k hk hn;rw[hother k (by have h3:wi.heap.size≤b:=hp.new;omega)];exact hadv.block k hk hn
  ·intro b1 o1 q hq;have h1:=hadv.mle _ _ _ hq;unfold turn;rw[if_neg ?_];· exact h1
   rintro⟨rfl,_⟩;have h2:=hmi _ _ _ hq;have h3:wi.heap.size≤b1:=hp.new;simp only[World.cell?]at h2
   cases h4:wi.heap[b1]? with
   | none=>rw[h4]at h2;cases h2
   | some z=>have:=(zG.1 h4).1;omega
  ·intro k hk hn o';have h3:wi.heap.size≤b:=hp.new;unfold turn;rw[if_neg (fun h=>by have:=h.1;omega)];exact hadv.mnew k hk hn o'
 ·intro k hk;have h:=hK k hk;have hvl:vs'.length=vs.length:=by subst hvs';simp;omega
  refine⟨h.new,?_,h.free,Z6 hx hv _ _ _ h.cel,fun b' cap e=>?_⟩
  ·by_cases e:k.1.1=b
   ·rw[e];exact⟨vs',T,hheap⟩
   ·rw[hother _ e];exact h.row
  ·obtain⟨h1,h2,h3,h4⟩:=h.lit b' cap e;refine⟨?_,h2,h3,?_⟩
   ·unfold turn;rw[if_neg]
    ·exact h1
    ·rintro⟨e1,e2⟩;have:=hnl k hk (by rw[← e1,show o=k.1.2 by omega]);rw[this]at e;cases e
   ·obtain⟨vs2,T2,e1,e2,e3⟩:=h4;by_cases eb:b'=b
    ·subst eb;rw[hrow]at e1;injection e1 with e1;injection e1 with e1 _;have:vs=vs2:=by simpa using congrArg Array.toList e1
     subst this;exact⟨vs',T,hheap,by omega,hall e3⟩
    ·exact⟨vs2,T2,by rw[hother _ eb];exact e1,e2,e3⟩
 ·have low:∀ i,i<4→∀ q,m b (o+i)=some q→turn m b (o+4) v b (o+i)=some q:=by
   intro i hi q hq;unfold turn;rw[if_neg (by rintro⟨_,h⟩;omega)];exact hq
  refine .cons (by simpa using low 0 (by omega) _ (by simpa using hx.c0)) (.lit _) rfl (.cons (low 1 (by omega) _ hx.c1) (.lit _) rfl (.cons (low 2 (by omega) _ hx.c2) (.lit _) rfl (.cons (low 3 (by omega) _ hx.c3) (.lit _) rfl (.cons ?_ (.lit _) hone (.nil _ _)))));unfold turn;rw[if_pos ⟨rfl,rfl⟩]
 ·rintro c n ⟨vs2,T2,e1,e2,e3⟩;have hvl:vs'.length=vs.length:=by subst hvs';simp;omega
  by_cases eb:c=b
  ·subst eb;rw[hrow]at e1;injection e1 with e1;injection e1 with e1 _;have:vs=vs2:=by simpa using congrArg Array.toList e1
   subst this;exact⟨vs',T,hheap,by omega,hall e3⟩
  ·exact⟨vs2,T2,by rw[hother _ eb];exact e1,e2,e3⟩
end
def bG (b:Nat):Nat→List Ex→KL
 | _,[]=>[]
 | o,x::l=>((b,o),(x,none))::bG b (o+5) l
theorem rA {b:Nat}:∀ {o:Nat} {l:List Ex} {i:Nat} {x:Ex},l[i]?=some x→((b,o+5*i),(x,none))∈bG b o l
 | _,[],_,_,h=>by simp at h
 | o,a::l,0,x,h=>by simp at h;subst h;simp[bG]
 | o,a::l,i+1,x,h=>by
  have:=rA (b:=b) (o:=o+5) (l:=l) (i:=i) (x:=x) (by simpa using h);simp only[bG,zQ];exact .inr (by rw[show o+5*(i+1)=o+5+5*i by omega];exact this)
theorem nT {m:Mem} {b:Nat}:∀ {o k:Nat} {l:List Ex},IElems m b o k (Ex.aA l)→∀ p∈bG b o l,p.1.1=b∧p.2.2=none∧IAt m p.1.1 p.1.2 p.2.1.cells
 | _,_,[],_,p,hp=>by simp[bG]at hp
 | o,k,a::l,h,p,hp=>by
  obtain⟨rfl,h1,h2⟩:=lZ h;simp only[bG,zQ]at hp
  rcases hp with rfl|hp
  ·exact⟨rfl,rfl,h1⟩
  ·exact nT h2 p hp
section
variable {C:Ctx} {wi:World} {mi:Mem}
theorem KP {w:World} {m:Mem} {φ:Pl} {st st':Store} {K:KL} {id:Nat} {v:Value} {ks:List Ex} (hks:ks≠[]) (hi:Inv w m φ st) (hr:Rep m φ (.osl id 5 0 ks.length) v) (hid:st id=some (.arr 5 (Ex.aA ks))) (hadv:Adv wi mi (fun _=>none) w m φ)
 (hK:∀ k∈K,PF wi.heap.size w m φ k.1.1 k.1.2 k.2) (hst:∀ i blk,st' i=some blk→i≠id∧st i=some blk∧fZ blk) :
 ∃ b' cap m1 φ2,v=.slice (some ⟨b',0,none⟩) ks.length cap∧Inv w m1 φ2 st'∧Adv wi mi (fun _=>none) w m1 φ2∧(∀ k∈K++bG b' 0 ks,PF wi.heap.size w m1 φ2 k.1.1 k.1.2 k.2)∧IRep m1 (.isl (Ex.aA ks)) v ∧
   (∀ i,st' i≠none→φ2 i=φ i)∧(∀ i,φ2 i≠none→st' i≠none) ∧
   (wi.heap.size≤b'∧fH φ2 b'∧RL w b' (5*cap))∧(∀ f,fH φ f→f≠b'):=by
 have hlen:0<ks.length:=y9.2 hks
 have hfr:pM st (.osl id 5 0 ks.length)=some (.isl (Ex.aA ks),upd st id (some (.frz 5 (Ex.aA ks)))):=by
  simp[pM,frz,uU,rR,hid,tst,window,bnd,iM,zY]
 obtain⟨m1,k1,k2,k3⟩:=iI hi hr hfr
 cases hr with
 | @osl _ _ _ _ cap b' n' ao eφ hlc hcap ha1 ha2 =>
  have hao:=ha1 (by omega);subst hao;obtain⟨hb,hok⟩:=bW hi eφ hid
  have hrl:RL w b' (5*cap):=by
   cases hok with|arr h1 h2 _ _ _ _ _ _ h9=>exact⟨_,_,h1,by rw[h2];simpa using hcap,h9⟩
  have hrow:∃ (vs:List Value) (T:TypeId),w.heap[b']?=some (.cells vs.toArray T (0,0)):=by
   obtain⟨vs,T,e,_⟩:=hrl;exact⟨vs,T,e⟩
  have hnew:wi.heap.size≤b':=by
   rcases hadv.pnew id b' n' b' eφ hb.1 with h|h
   ·exact h
   ·exact absurd (fun id b n e=>by cases e) h
  have dec:∀ i,st' i=none∨st' i≠none:=fun i=>by cases st' i<;>simp
  let φ2:Pl:=fun i=>match st' i with
   | some _=>φ i
   | none=>none
  have hφ2:∀ i,st' i≠none→φ2 i=φ i:=fun i h=>by
   show(match st' i with|some _=>φ i|none=>none)=φ i
   cases e:st' i with
   | none=>exact absurd e h
   | some _=>rfl
  have hφ2n:∀ i,φ2 i≠none→st' i≠none:=fun i h e=>h (by
   show(match st' i with|some _=>φ i|none=>none)=none
   rw[e])
  have hsub:∀ i p,φ2 i=some p→φ i=some p∧st' i≠none:=fun i p h=>by
   have h1:=hφ2n i (by rw[h];simp);exact⟨by rw[← hφ2 i h1];exact h,h1⟩
  have hA1:=hadv.trans k3
  have hfree2:fH φ2 b':=by
   intro i r n e ho;obtain⟨h1,h2⟩:=hsub _ _ e
   cases hb2:st' i with
   | none=>exact h2 hb2
   | some blk =>
    obtain⟨q1,q2,_⟩:=hst i blk hb2;exact q1 (hi.inj i id r b' n n' blk _ b' q2 hid h1 eφ ho hb.1)
  refine⟨b',cap,m1,φ2,by simp,?_,?_,?_,k1,hφ2,hφ2n,⟨hnew,hfree2,hrl⟩,fun f hf e=>hf id b' n' eφ (e ▸ hb.1)⟩
  ·refine⟨k2.mem,?_,?_,fun i b n f e ho=>k2.low i b n f (hsub _ _ e).1 ho⟩
   ·intro i blk hb';obtain⟨h1,h2,h3⟩:=hst i blk hb';have h4:upd st id (some (.frz 5 (Ex.aA ks))) i=some blk:=by simp[upd,h1,h2]
    obtain⟨b,n,q1,q2,q3⟩:=k2.live i blk h4;exact⟨b,n,by rw[hφ2 i (by rw[hb'];simp)];exact q1,q2,q3.PN h3 rfl fun o h=>h⟩
   ·intro i j b bx n n2 b1 b2 f h1 h2 h3 h4 o1 o2;obtain⟨q1,q2,_⟩:=hst i b1 h1;obtain⟨r1,r2,_⟩:=hst j b2 h2;exact hi.inj i j b bx n n2 b1 b2 f q2 r2 (hsub _ _ h3).1 (hsub _ _ h4).1 o1 o2
  ·refine⟨hA1.size,hA1.os,hA1.tape,hA1.output,hA1.block,hA1.mle,hA1.mnew,(fun _ _ _ h=>by cases h),?_⟩;intro i b n f h2 ho;exact hA1.pnew i b n f (hsub _ _ h2).1 ho
  ·intro k hk
   rcases zV.1 hk with hk|hk
   ·have h:=hK k hk
    exact⟨h.new,h.row,fun i r n e=>h.free i r n (hsub _ _ e).1,h.cel.mono k3.mle,fun b2 c2 e=>by
     obtain⟨h1,h2,h3,h4⟩:=h.lit b2 c2 e
     exact⟨k3.mle _ _ _ h1,h2,fun i r n e=>h3 i r n (hsub _ _ e).1,h4⟩⟩
   ·have hel:IElems m1 b' 0 5 (Ex.aA ks):=by
     rcases jW k1 with ⟨e1,_⟩|⟨_,b2,off,k',cap',hv,hel,_⟩
     ·exact absurd (by cases ks with|nil=>rfl|cons a l=>simp[Ex.aA]at e1) hks
     ·injection hv with q1 _ _;injection q1 with q1;injection q1 with q1 q2;subst q1;subst q2
      cases ks with
      | nil=>exact absurd rfl hks
      | cons a l=>obtain⟨rfl,_⟩:=lZ hel;exact hel
    obtain⟨e1,e3,e2⟩:=nT hel k hk;exact⟨by rw[e1];exact hnew,by rw[e1];exact hrow,by rw[e1];exact hfree2,e2,fun b2 c2 e=>by rw[e3]at e;cases e⟩
end
section
variable {C:Ctx} {wi:World} {mi:Mem} {nt:Nat}
theorem GG.iJ (hS:SoundOk C) {G:List Nat} {c:Code} {S S':AS} {e:AExit} {a:Act} {w:World} {K:KL} (hc:codeOk nt c=true) (hx:eY C G S.st.length c S=some (e,S')) (h:GG wi mi nt (fun id=>id<S.st.length) K (aY S.env) (aT S.st) a w) (hnr:bJ c=true:=by rfl) :
 c.wp C.P (fun e' a' w'=>e'=jP e∧GG wi mi nt (fun id=>id<S'.st.length) K (aY S'.env) (aT S'.st) a' w') a w:=by
 obtain⟨n,hn⟩:=(dM _).1 hx;exact GG.code hS.ctx (aX hS) (hS.draw _ (aX hS)) hc hn h hnr
theorem KV {w:World} {m m1:Mem} {φ:Pl} {st st1 st':Store} {K:KL} {id b':Nat} {n':Ext} {blk0:Blk} (hi:Inv w m φ st) (k2:Inv w m1 φ st1) (hA1:Adv wi mi (fun _=>none) w m1 φ) (hle:MLe m m1) (eφ:φ id=some (b',n')) (hid:st id=some blk0)
 (hK:∀ k∈K,PF wi.heap.size w m φ k.1.1 k.1.2 k.2) (hst:∀ i blk,st' i=some blk→i≠id∧st i=some blk∧st1 i=some blk∧fZ blk) :
 ∃ φ2,Inv w m1 φ2 st'∧Adv wi mi (fun _=>none) w m1 φ2∧(∀ k∈K,PF wi.heap.size w m1 φ2 k.1.1 k.1.2 k.2)∧fH φ2 b'∧(∀ i,st' i≠none→φ2 i=φ i)∧(∀ i,φ2 i≠none→st' i≠none):=by
 let φ2:Pl:=fun i=>match st' i with
  | some _=>φ i
  | none=>none
 have hφ2:∀ i,st' i≠none→φ2 i=φ i:=fun i h=>by
  show(match st' i with|some _=>φ i|none=>none)=φ i
  cases e:st' i with
  | none=>exact absurd e h
  | some _=>rfl
 have hφ2n:∀ i,φ2 i≠none→st' i≠none:=fun i h e=>h (by
  show(match st' i with|some _=>φ i|none=>none)=none
  rw[e])
 have hsub:∀ i p,φ2 i=some p→φ i=some p∧st' i≠none:=fun i p h=>by
  have h1:=hφ2n i (by rw[h];simp);exact⟨by rw[← hφ2 i h1];exact h,h1⟩
 refine⟨φ2,⟨k2.mem,?_,?_,fun i b n f e ho=>k2.low i b n f (hsub _ _ e).1 ho⟩,?_,?_,?_,hφ2,hφ2n⟩
 ·intro i blk hb';obtain⟨h1,h2,h4,h3⟩:=hst i blk hb';obtain⟨b,n,q1,q2,q3⟩:=k2.live i blk h4;exact⟨b,n,by rw[hφ2 i (by rw[hb'];simp)];exact q1,q2,q3.PN h3 rfl fun o h=>h⟩
 ·intro i j b bx n n2 b1 b2 f h1 h2 h3 h4 o1 o2;obtain⟨q1,q2,_⟩:=hst i b1 h1;obtain⟨r1,r2,_⟩:=hst j b2 h2;exact hi.inj i j b bx n n2 b1 b2 f q2 r2 (hsub _ _ h3).1 (hsub _ _ h4).1 o1 o2
 ·refine⟨hA1.size,hA1.os,hA1.tape,hA1.output,hA1.block,hA1.mle,hA1.mnew,(fun _ _ _ h=>by cases h),?_⟩;intro i b n f h2 ho;exact hA1.pnew i b n f (hsub _ _ h2).1 ho
 ·intro k hk;have h:=hK k hk
  exact⟨h.new,h.row,fun i r n e=>h.free i r n (hsub _ _ e).1,h.cel.mono hle,fun b2 c2 e=>by
   obtain⟨h1,h2,h3,h4⟩:=h.lit b2 c2 e
   exact⟨hle _ _ _ h1,h2,fun i r n e=>h3 i r n (hsub _ _ e).1,h4⟩⟩
 ·intro i r n e ho;obtain⟨h1,h2⟩:=hsub _ _ e
  cases hb2:st' i with
  | none=>exact h2 hb2
  | some blk =>
   obtain⟨q1,q2,_⟩:=hst i blk hb2;exact q1 (hi.inj i id r b' n n' blk _ b' q2 hid h1 eφ ho (bW hi eφ hid).1.1)
theorem GG.pub {ok ok':Nat→Prop} {K:KL} {env:Nat→AV} {st st':Store} {a:Act} {w:World} {u id:Nat} {e:Ex} (h:GG wi mi nt ok K env st a w) (hu:env u=.own id 0) (hid:st id=some (.box (kW e.cells)))
 (hst:∀ i blk,st' i=some blk→i≠id∧st i=some blk∧fZ blk) (hok:∀ i,st' i≠none→ok' i) :
 ∃ b',(∀ env',(∀ t,env' t=.junk∨(t=u∧env' t=.i (.lit (.pointer (some ⟨b',0,none⟩))))∨(env' t=env t∧jG st' (env t)))→GG wi mi nt ok' (K++[((b',0),(e,none))]) env' st' a w):=by
 obtain⟨⟨m,φ,hi,henv,hadv,_,hK⟩,hsz,hdf⟩:=h;have hr:=henv u;rw[hu]at hr
 have hfr:pM st (.own id 0)=some (.iref e.cells,upd st id (some (.fbox e.cells))):=by
  have h1:∀ (l:List IV) (n:Nat),BJ st (n+l.length+1) (kW l)=some (l,[]):=by
   intro l
   induction l with
   | nil=>intro n;simp[kW,BJ]
   | cons c l ih=>intro n;simp only[kW,zS];rw[show n+(l.length+1)+1=(n+l.length+1)+1 by omega];simp[BJ,frz,bnd,ih n]
  have h2:BJ st 18 (kW e.cells)=some (e.cells,[]):=by
   have:=h1 e.cells 12;rw[Ex.dB]at this;exact this
  have h3:wB st 19 id 0 (some (.box (kW e.cells)))=some (.iref e.cells,[(id, .fbox e.cells)]):=by
   show bnd (BJ st 18 (kW e.cells)) (fun p=>tst (decide (0≤p.1.length)) (some (IV.iref (dropE 0 p.1),(id,Blk.fbox p.1)::p.2)))=_;rw[h2];simp[dropE]
  have h4:frz st 20 (.own id 0)=some (.iref e.cells,[(id, .fbox e.cells)]):=by
   show wB st 19 id 0 (st id)=_;rw[hid];exact h3
  show bnd (frz st 20 (.own id 0)) (fun p=>some (p.1,iM st p.2))=_;rw[h4];rfl
 obtain⟨m1,k1,k2,k3⟩:=iI hi hr hfr
 cases hr':a.tmps.getD u undef with
 | pointer p =>
  rw[hr']at hr k1
  cases hr with
  | @own _ _ b' n' eφ =>
   obtain⟨hb,hbok⟩:=bW hi eφ hid
   have hrow:∃ (vs:List Value) (T:TypeId),w.heap[b']?=some (.cells vs.toArray T (0,0)):=by
    cases hbok with|box h1=>exact⟨_,_,h1⟩
   have hnew:wi.heap.size≤b':=by
    rcases hadv.pnew id b' n' b' eφ hb.1 with h|h
    ·exact h
    ·exact absurd (fun id b n e=>by cases e) h
   obtain⟨φ2,g1,g2,g3,g4,g5,g6⟩:=KV (wi:=wi) (mi:=mi) (K:=K) hi k2 (hadv.trans k3) k3.mle eφ hid hK (st':=st') fun i blk hb'=>by
    obtain⟨q1,q2,q3⟩:=hst i blk hb';exact⟨q1,q2,by simp[upd,q1,q2],q3⟩
   refine⟨b',fun env' he=>⟨⟨m1,φ2,g1,fun t=>?_,g2,fun i hi'=>hok i (g6 i hi'),?_⟩,hsz,hdf⟩⟩
   ·rcases he t with h|⟨rfl,h⟩|⟨h,hs⟩
    ·rw[h];exact .junk _
    ·rw[h,hr'];exact .i (.lit _)
    ·rw[h];exact hs.rep g5 (henv t)
   ·intro k hk
    rcases zV.1 hk with hk|hk
    ·exact g3 k hk
    ·simp only[xS]at hk;subst hk;refine⟨hnew,hrow,g4,?_,fun b2 c2 e=>by cases e⟩
     cases k1 with|iref hat=>exact hat
 | _=>rw[hr']at hr;cases hr
def YC (b o:Nat) (x:Ex) (b' cap:Nat):KL:=if x.kids=[]then []else((b,o),(x,some (b',cap)))::bG b' 0 x.kids
theorem GG.turn {ok ok':Nat→Prop} {K:KL} {env:Nat→AV} {st st':Store} {a:Act} {w:World} {u b o:Nat} {x:Ex} {t:TypeId} {r:AV} (h:GG wi mi nt ok K env st a w) (ht:iT C.P t=some 1) (hmi:mM wi mi) (hk:((b,o),(x,none))∈K) (hnl:∀ k∈K,k.1=(b,o)→k.2.2=none) (hu:env u=r)
 (hr:(r=.nils∧x.kids=[]∧∀ i blk,st' i=some blk→st i=some blk)∨∃ id,r=.osl id 5 0 x.kids.length∧x.kids≠[]∧st id=some (.arr 5 (Ex.aA x.kids))∧∀ i blk,st' i=some blk→i≠id∧st i=some blk)
 (hlit:AFG st') (hok:∀ i,st' i≠none→ok' i) :
 ∃ w' b' ao cap,a.tmps.getD u undef=.slice ao x.kids.length cap∧(x.kids≠[]→ao=some ⟨b',0,none⟩)∧(Instr.storeAt t (.pointer (some ⟨b,o+4,none⟩)) (a.tmps.getD u undef)).run C.P w=.ok () w' ∧
   (∀ env',(∀ t,env' t=.junk∨(a.tmps.getD t undef=.pointer (some ⟨b,o,none⟩)∧env' t=.i (.iref [.int x.kind, .int x.col, .bool x.val.null, .int x.val.n, .lit (.slice ao x.kids.length cap)]))∨(env' t=env t∧jG st' (env t))) →
    GG wi mi nt ok' (K++YC b o x b' cap) env' st' a w')∧(x.kids≠[]→∀ k∈K,k.1.1≠b'∧∀ b2 c2,k.2.2=some (b2,c2)→b2≠b'):=by
 obtain⟨⟨m,φ,hi,henv,hadv,_,hK⟩,hsz,hdf⟩:=h;have hru:=henv u;rw[hu]at hru
 have main:∃ (b':Nat) (ao:Option Addr) (cap:Nat) (m1:Mem) (φ2:Pl),a.tmps.getD u undef=.slice ao x.kids.length cap∧(x.kids≠[]→ao=some ⟨b',0,none⟩)∧Inv w m1 φ2 st'∧Adv wi mi (fun _=>none) w m1 φ2∧(∀ k∈K++bG b' 0 x.kids,PF wi.heap.size w m1 φ2 k.1.1 k.1.2 k.2) ∧
  IRep m1 (.isl (Ex.aA x.kids)) (a.tmps.getD u undef)∧(∀ i,st' i≠none→φ2 i=φ i)∧(∀ i,φ2 i≠none→st' i≠none) ∧
  (x.kids≠[]→(wi.heap.size≤b'∧fH φ2 b'∧RL w b' (5*cap))∧(∀ f,fH φ f→f≠b')):=by
  rcases hr with ⟨rfl,hx,hst⟩|⟨id,rfl,hx,hid,hst⟩
  ·generalize hv:a.tmps.getD u undef=v at hru
   cases hru
   let φ2:Pl:=fun i=>match st' i with
    | some _=>φ i
    | none=>none
   have hφ2:∀ i,st' i≠none→φ2 i=φ i:=fun i h=>by
    show(match st' i with|some _=>φ i|none=>none)=φ i
    cases e:st' i with
    | none=>exact absurd e h
    | some _=>rfl
   have hφ2n:∀ i,φ2 i≠none→st' i≠none:=fun i h e=>h (by
    show(match st' i with|some _=>φ i|none=>none)=none
    rw[e])
   have hsub:∀ i p,φ2 i=some p→φ i=some p:=fun i p h=>by
    have h1:=hφ2n i (by rw[h];simp);rw[← hφ2 i h1];exact h
   refine⟨0,none,0,m,φ2,by rw[hx];rfl,fun h=>absurd hx h,⟨hi.mem,?_,?_,fun i b n f e ho=>hi.low i b n f (hsub _ _ e) ho⟩,?_,?_,?_,hφ2,hφ2n,fun h=>absurd hx h⟩
   ·intro i blk hb';obtain⟨b,n,q1,q2,q3⟩:=hi.live i blk (hst i blk hb');exact⟨b,n,by rw[hφ2 i (by rw[hb'];simp)];exact q1,q2,q3.PN (hlit i blk hb') rfl fun o h=>h⟩
   ·intro i j b bx n n2 b1 b2 f h1 h2 h3 h4 o1 o2;exact hi.inj i j b bx n n2 b1 b2 f (hst i b1 h1) (hst j b2 h2) (hsub _ _ h3) (hsub _ _ h4) o1 o2
   ·refine⟨hadv.size,hadv.os,hadv.tape,hadv.output,hadv.block,hadv.mle,hadv.mnew,(fun _ _ _ h=>by cases h),?_⟩;intro i b n f h2 ho;exact hadv.pnew i b n f (hsub _ _ h2) ho
   ·intro k hk;rw[hx]at hk;simp only[bG,z8]at hk;have h:=hK k hk
    exact⟨h.new,h.row,fun i r n e=>h.free i r n (hsub _ _ e),h.cel,fun b2 c2 e=>by
     obtain⟨h1,h2,h3,h4⟩:=h.lit b2 c2 e
     exact⟨h1,h2,fun i r n e=>h3 i r n (hsub _ _ e),h4⟩⟩
   ·rw[hx];simp only[Ex.aA];exact .isl0 _ _ fun _=>rfl
  ·obtain⟨b',cap,m1,φ2,e1,g1,g2,g3,g4,g5,g6,g7,g8⟩:=KP (wi:=wi) (mi:=mi) (K:=K) hx hi hru hid hadv hK (st':=st') fun i blk hb'=>⟨(hst i blk hb').1,(hst i blk hb').2,hlit i blk hb'⟩
   exact⟨b',_,cap,m1,φ2,e1,fun _=>rfl,g1,g2,g3,g4,g5,g6,fun _=>⟨g7,g8⟩⟩
 obtain⟨b',ao,cap,m1,φ2,e1,e2,g1,g2,g3,g4,g5,g6,g7⟩:=main
 have hkn:∀ (o':Nat) (l:List Ex),∀ k∈bG b' o' l,k.2.2=none:=by
  intro o' l
  induction l generalizing o' with
  | nil=>simp[bG]
  | cons a l ih =>
   intro k hk';simp only[bG,zQ]at hk'
   rcases hk' with rfl|hk'
   ·rfl
   ·exact ih _ k hk'
 obtain⟨w',m',k1,k2,k3,k4,k5,k6⟩:=vQ (C:=C) (wi:=wi) (mi:=mi) (x:=x) (y:=(x,none)) rfl ht g1 hlit g2 hmi g3 (yN _ hk) (fun k hk' e=>by
  rcases zV.1 hk' with h|h
  ·exact hnl k h e
  ·exact hkn _ _ k h) g4
 have hcell:m' b (o+4)=some (a.tmps.getD u undef):=by
  obtain⟨_,_,_,_,k5⟩:=k5.inv;obtain⟨_,_,_,_,k5⟩:=k5.inv;obtain⟨_,_,_,_,k5⟩:=k5.inv;obtain⟨_,_,_,_,k5⟩:=k5.inv;obtain⟨v5,q1,q2,_,_⟩:=k5.inv;rw[lV q2]at q1;exact q1
 refine⟨w',b',ao,cap,e1,e2,k1,fun env' he=>⟨⟨m',φ2,k2,fun t=>?_,k3,fun i hi'=>hok i (g6 i hi'),?_⟩,hsz,hdf⟩,fun hx k hk'=>?_⟩
 ·rcases he t with h|⟨h1,h⟩|⟨h,hs⟩
  ·rw[h];exact .junk _
  ·rw[h,h1,← e1];exact .i (.iref k5)
  ·rw[h];exact hs.rep g5 (henv t)
 ·intro k hk'
  rcases zV.1 hk' with h|h
  ·exact k4 k (yN _ h)
  ·unfold YC at h;split at h
   ·cases h
   ·rename_i hx
    rcases zQ.1 h with rfl|h
    ·have hp:=k4 ((b,o),(x,none)) (yN _ hk);refine⟨hp.new,hp.row,hp.free,hp.cel,fun b2 c2 e=>?_⟩;injection e with e;injection e with e3 e4;subst e3;subst e4;obtain⟨⟨q1,q2,q3⟩,_⟩:=g7 hx;refine⟨?_,q1,q2,k6 _ _ q3⟩;have:=e2 hx;subst this;rw[hcell,e1]
    ·exact k4 k (zA0 _ h)
 ·obtain⟨_,q4⟩:=g7 hx;have h:=hK k hk';exact⟨q4 _ h.free,fun b2 c2 e=>q4 _ (h.lit b2 c2 e).2.2.1⟩
end
end Go.Av.V

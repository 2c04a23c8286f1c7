/- Part 6 of what the proof rests on: the executor and what it is worth, and the program's functions as it runs them. No condition. -/
import Derived.Test.YtnmimmaahhlgeaaGreatT5
set_option linter.unusedVariables false
set_option linter.unusedSimpArgs false
namespace Go.Av
def AX (a b:Tbl):List (List Val):=a.rows.flatMap fun r=>b.rows.map (r ++ ·)
theorem mH (e:Ex) (a b:Tbl):fD e false a b=(AX a b).filter (isT e):=by
 unfold fD AX;rw[List.filter_flatMap];congr 1
theorem DD {α:Type} (n:Nat):∀ l:List α,(l.map fun _=>n).sum=l.length*n
 | []=>by simp
 | a::l=>by simp[DD n l,Nat.succ_mul];omega
theorem OY {α:Type} {f g:α→Nat}:∀ {l:List α},(∀ x∈l,f x≤g x)→(l.map f).sum≤(l.map g).sum
 | [],_=>by simp
 | a::l,h=>by have:=h a (by simp);have:=OY (l:=l) fun x hx=>h x (by simp[hx]);simp;omega
theorem AKS (e:Ex) (rs:List (List Val)) (r:List Val):(jH e rs r).length≤rs.length:=by
 unfold jH;have:=yG (isT e) (rs.map (r ++ ·));rwa [y5]at this
theorem AKT (e:Ex) (o:Bool) (w:Int) (rs:List (List Val)) (r:List Val):(joinL e o w rs r).length≤if o=true then max 1 rs.length else rs.length:=by
 have:=AKS e rs r;unfold joinL
 cases o
 ·simpa using this
 ·simp only[zB8,if_true];split
  ·simp;omega
  ·omega
theorem AKR (e:Ex) (o:Bool) (a b:Tbl):(fD e o a b).length≤a.rows.length*(if o=true then max 1 b.rows.length else b.rows.length):=by
 unfold fD;rw[List.length_flatMap,← DD];exact OY fun x _=>AKT _ _ _ _ _
theorem EG {e:Ex} {o:Bool} {w:Int} {rs:List (List Val)} {r x:List Val} (h:x∈joinL e o w rs r):∃ s,x=r++s:=by
 unfold joinL at h;split at h
 ·simp at h;exact⟨_,h⟩
 ·obtain⟨s,_,h,_⟩:=XM h;exact⟨s,h⟩
theorem APD (e:Ex) (a b:Tbl):(fD e false a b).Sublist (fD e true a b):=by
 unfold fD;generalize a.rows=l
 induction l with
 | nil=>simp
 | cons r l ih =>
  simp only[yB];refine List.Sublist.append ?_ ih;unfold joinL;simp only[Bool.false_and,zB8,z8,if_false];split
  ·rename_i h;rw[zG1.1 h];exact List.nil_sublist _
  ·exact .refl _
def rbK (cnt:List Int) (k t:Int) (cs:List Int) (a b:Int):Int :=
 if k=1 then(cnt[t.toNat]?).getD 0 else min (if k=4 then a*b else if k=5 then a*max 1 b else if k=6 then a+b else if k=8∧cs=[]then min a 1 else a) 1000000000
mutual
def Pn.rb (cnt:List Int):Pn→Int
 | .mk k t es cs ks=>rbK cnt k t cs (((Pn.rbL cnt ks)[0]?).getD 0) (((Pn.rbL cnt ks)[1]?).getD 0)
def Pn.rbL (cnt:List Int):List Pn→List Int
 | []=>[]
 | p::ps=>Pn.rb cnt p::Pn.rbL cnt ps
end
def ACT (es:List Ex) (w:Nat):Bool:=(List.range w).all fun c=>es.any fun e=>decide (e.kind=1) && decide (e.col=(c:Int))
mutual
def Pn.APY (ws:List Int) (sets:List Bool):Pn→Bool
 | .mk k t es cs ks=>if k=1 then(sets[t.toNat]?).getD false else if k=6 then false else if k=7∨k=8 then true else Pn.ALN ws sets ks && (if k=3 then ACT es (((ks[0]?).map (Pn.wd ws 8)).getD 0).toNat else true)
def Pn.ALN (ws:List Int) (sets:List Bool):List Pn→Bool
 | []=>true
 | p::ps=>Pn.APY ws sets p && Pn.ALN ws sets ps
end
theorem Pn.Y9 (ws:List Int) (sets:List Bool):∀ l:List Pn,Pn.ALN ws sets l=l.all (Pn.APY ws sets)
 | []=>by simp[Pn.ALN]
 | p::l=>by simp[Pn.ALN,Pn.Y9 ws sets l]
theorem Pn.ALM (ws:List Int) (sets:List Bool) (p:Pn):p.APY ws sets=if p.kind=1 then(sets[p.table.toNat]?).getD false else if p.kind=6 then false else if p.kind=7∨p.kind=8 then true else p.kids.all (Pn.APY ws sets) && (if p.kind=3 then ACT p.exprs (((p.kids[0]?).map (Pn.wd ws 8)).getD 0).toNat else true):=by
 cases p;simp only[Pn.APY,Pn.Y9,Pn.kind,Pn.table,Pn.exprs,Pn.kids];rfl
theorem I1 {α:Type} {l:List α} (h:l.Nodup) (f:α→Bool):(l.filter f).Nodup:=h.sublist List.filter_sublist
theorem rR {w:Int} {rows:List (List Val)} (h:rows.Nodup):(tab w rows).rows.Nodup:=by
 unfold tab;split
 ·simp
 ·exact(jN _).nodup_iff.2 h
theorem HZ {α β:Type} {f:α→β}:∀ {l:List α},(∀ a∈l,∀ b∈l,f a=f b→a=b)→l.Nodup→(l.map f).Nodup
 | [],_,_=>by simp
 | a::l,hf,h=>by
  rw[yV]at h;rw[yQ,yV];refine⟨fun hm=>?_,HZ (fun x hx y hy=>hf x (by simp[hx]) y (by simp[hy])) h.2⟩;obtain⟨b,hb,e⟩:=zG.1 hm;rw[hf b (by simp[hb]) a (by simp) e]at hb;exact h.1 hb
theorem AKO {es:List Ex} {w:Nat} (h:ACT es w=true) {r s:List Val} (hr:r.length=w) (hs:s.length=w) (he:es.map (Ex.ev r)=es.map (Ex.ev s)):r=s:=by
 apply zF4;intro i;by_cases hi:i<w
 ·have h1:=zR.1 h i (List.mem_range.2 hi);obtain⟨e,hem,h2⟩:=zG2.1 h1;simp only[zU,zS]at h2;have h3:=List.map_inj_left.1 he e hem;rw[Ex.J2,Ex.J2]at h3;simp only[evN,h2.1,if_true,h2.2,zD4]at h3;have e1:=zX (show i<r.length by omega);have e2:=zX (show i<s.length by omega);rw[e1,e2]at h3 ⊢;simpa using h3
 ·rw[List.getElem?_eq_none (by omega),List.getElem?_eq_none (by omega)]
theorem EB {α β:Type} {f:α→List β}:∀ {l:List α},l.Nodup→(∀ a∈l,(f a).Nodup)→(∀ a∈l,∀ b∈l,∀ x,x∈f a→x∈f b→a=b)→(l.flatMap f).Nodup
 | [],_,_,_=>by simp
 | a::l,h,h1,h2=>by
  rw[yV]at h;rw[yB,yS];refine⟨h1 a (by simp),EB h.2 (fun b hb=>h1 b (by simp[hb])) (fun b hb c hc=>h2 b (by simp[hb]) c (by simp[hc])),fun x hx y hy e=>?_⟩;subst e;obtain⟨b,hb,hxb⟩:=zG3.1 hy;have:=h2 a (by simp) b (by simp[hb]) x hx hxb;subst this;exact h.1 hb
theorem AAL {e:Ex} {o:Bool} {a b:Tbl} (ha:a.ok=true) (hda:a.rows.Nodup) (hdb:b.rows.Nodup):(fD e o a b).Nodup:=by
 have h3:=((Tbl.dN a).1 ha).2.2.1;refine EB hda (fun r _=>?_) fun r hr s hs x hx hy=>?_
 ·unfold joinL;split
  ·simp
  ·exact I1 (LD (fun _ _ h=>List.append_cancel_left h) hdb) _
 ·obtain⟨u,rfl⟩:=EG hx;obtain⟨v,hv⟩:=EG hy;have:=lD (h3 r hr);have:=lD (h3 s hs);exact(List.append_inj hv (by omega)).1
theorem Aa9 {ws:List Int} {db:List Tbl} (hws:ws=db.map Tbl.w) (hdb:∀ t∈db,t.ok=true) {sets:List Bool} (hsets:∀ (i:Nat) (t:Tbl),db[i]?=some t→(sets[i]?).getD false=true→t.rows.Nodup) (hw6:∀ w∈ws,0≤w∧w≤6):∀ (p:Pn) (lv:Nat),lv≤8→p.wd ws lv≠0→p.APY ws sets=true→(p.evP db).rows.Nodup:=by
 intro p
 induction p using Pn.ind with
 | h k t es cs ks ih =>
  intro lv hlv h hd;have hsh:=sP h;generalize hp:Pn.mk k t es cs ks=p at hsh h hd;have hk:ks=p.kids:=by rw[← hp];rfl
  subst hk;rw[Pn.ALM]at hd
  cases hsh with
  | scan t W h0 h1 hW =>
   rw[hws,zH]at h1;obtain⟨s,hs,rfl⟩:=zB0.1 h1;rw[EK,hs];exact rR (hsets _ s hs (by simpa [Pn.scan]using hd))
  | filt m e a h1 ha he =>
   rw[oF];exact rR (I1 (ih a (by simp[filt]) m (by omega) ha (by simpa [filt]using hd)) _)
  | proj m es a h1 ha hl he =>
   have hd':a.APY ws sets=true∧ACT es (a.wd ws 8).toNat=true:=by simpa [proj]using hd
   have hg:=gW hws hdb a m ha;have h3:=((Tbl.dN _).1 hg.1).2.2.1;have hw8:=Pn.gZ a m 8 ha (by omega);rw[kL];refine rR (HZ (fun r hr s hs he=>?_) (ih a (by simp[proj]) m (by omega) ha hd'.1));have h4:=lD (h3 r hr);have h5:=lD (h3 s hs);refine AKO hd'.2 ?_ ?_ he
   ·rw[hw8,← hg.2];omega
   ·rw[hw8,← hg.2];omega
  | pair m k e a b h1 hk ha hb hl he =>
   have hg:=gW hws hdb a m ha;have hd':a.APY ws sets=true∧b.APY ws sets=true:=by rcases hk with rfl|rfl<;>simpa [aY]using hd
   rw[kM db hk];exact rR (AAL hg.1 (ih a (by simp[aY]) m (by omega) ha hd'.1) (ih b (by simp[aY]) m (by omega) hb hd'.2))
  | union m a b h1 ha hb=>simp[cK]at hd
  | dist m a h1 ha =>
   have hg:=gW hws hdb a m ha;rw[tX];exact rR (YD ((Tbl.dN _).1 hg.1).2.2.2 (Tbl.WY hg.1)).1
  | group m cs a h1 ha hc ho =>
   have hg:=gW hws hdb a m ha;have h3:=((Tbl.dN _).1 hg.1).2.2.1;rw[sG];refine rR (LD (fun _ _ h=>AFV h) (WZ (wT (cs:=cs) fun r hr=>?_).1));exact mP (SF (h3 r hr) (by rw[hg.2];exact FY ho))
theorem TT {t:Tbl} (h:t.ok=true):(iQ t.rows).length=t.rows.length↔t.rows.Nodup:=by
 have hd:=YD ((Tbl.dN _).1 h).2.2.2 (Tbl.WY h);constructor
 ·intro hl;have:=(lQ t.rows).eq_of_length hl;rw[← this];exact hd.1
 ·intro hn;exact(DY hd.1 hn hd.2).length_eq
def sT (t:Int):Int:=if t=1 then 4 else if t=0 then 1 else 2
theorem AC2 (v:Val):stV v=sT v.tr:=by
 unfold stV sT Val.tr
 cases v.null<;>simp
 split<;>simp
theorem ZT {t:Int} (h:t=0∨t=1∨t=2):stV (trV t)=sT t:=by rw[AC2,AR3 h]
theorem AQA:∀ a b:Fin 8,∀ s t:Fin 3,gB a.val (sT s.val)=true→gB b.val (sT t.val)=true →
 gB (kY 8 a.val b.val) (sT (if(t.val:Int)<s.val then t.val else s.val))=true∧gB (kY 9 a.val b.val) (sT (if(t.val:Int) > s.val then t.val else s.val))=true:=by decide +kernel
theorem AM0:∀ a b:Fin 8,(gB a.val 4=true∨gB b.val 4=true→gB (kY 3 a.val b.val) 4=true∧gB (kY 6 a.val b.val) 4=true) ∧
 ((gB a.val 1=true∨gB a.val 2=true)→(gB b.val 1=true∨gB b.val 2=true)→kY 3 a.val b.val=7∧gB (kY 6 a.val b.val) 1=true∧gB (kY 6 a.val b.val) 2=true):=by decide +kernel
theorem FI {a:Int} (h:okS a):∃ n:Fin 8,a=(n.val:Int):=⟨⟨a.toNat,by have:=h.1;have:=h.2;omega⟩,by have:=h.1;simp;omega⟩
theorem AI4 (v:Val):∃ n:Fin 3,v.tr=(n.val:Int):=by
 rcases wO v with h|h|h
 ·exact⟨0,h⟩
 ·exact⟨1,h⟩
 ·exact⟨2,h⟩
theorem ALZ {k a b:Int} {v w:Val} (ha:okS a) (hb:okS b) (h1:gB a (stV v)=true) (h2:gB b (stV w)=true):gB (kY k a b) (stV (Val.cmb k v w))=true:=by
 obtain⟨x,rfl⟩:=FI ha;obtain⟨y,rfl⟩:=FI hb;by_cases h8:k=8∨k=9
 ·rw[AC2]at h1 h2;have hv:=wO v;have hw:=wO w;obtain⟨s,hs⟩:=AI4 v;obtain⟨t,ht⟩:=AI4 w;rw[hs]at h1 hv;rw[ht]at h2 hw;have h:=AQA x y s t h1 h2
  rcases h8 with rfl|rfl
  ·have e:Val.cmb 8 v w=trV (if w.tr<v.tr then w.tr else v.tr):=by simp[Val.cmb]
   rw[e,hs,ht,ZT (by split<;>assumption)];exact h.1
  ·have e:Val.cmb 9 v w=trV (if w.tr > v.tr then w.tr else v.tr):=by simp[Val.cmb]
   rw[e,hs,ht,ZT (by split<;>assumption)];exact h.2
 ·have hk8:k≠8:=fun e=>h8 (.inl e)
  have hk9:k≠9:=fun e=>h8 (.inr e)
  have h:=AM0 x y
  have e3:kY k x.val y.val=if k<6 then kY 3 x.val y.val else kY 6 x.val y.val:=by
   by_cases h6:k<6<;>simp[kY,hk8,hk9,h6]
  by_cases hn:v.null=true∨w.null=true
  ·have e:Val.cmb k v w=⟨true,0⟩:=by simp[Val.cmb,hk8,hk9,hn]
   have h4:gB x.val 4=true∨gB y.val 4=true:=by
    rcases hn with hn|hn
    ·left;simpa [stV,hn]using h1
    ·right;simpa [stV,hn]using h2
   have:=h.1 h4;rw[e,e3];simp only[stV,if_true];split
   ·exact this.1
   ·exact this.2
  ·have hv:v.null=false:=by simpa using fun e=>hn (.inl e)
   have hw:w.null=false:=by simpa using fun e=>hn (.inr e)
   have p1:gB x.val 1=true∨gB x.val 2=true:=by
    simp only[stV,hv]at h1;by_cases e:v.n=0
    ·left;simpa [e]using h1
    ·right;simpa [e]using h1
   have p2:gB y.val 1=true∨gB y.val 2=true:=by
    simp only[stV,hw]at h2;by_cases e:w.n=0
    ·left;simpa [e]using h2
    ·right;simpa [e]using h2
   have:=h.2 p1 p2;rw[e3];by_cases h6:k<6
   ·rw[if_pos h6,this.1];have hs:=AIL (Val.cmb k v w);unfold stV;split
    ·decide
    ·split<;>decide
   ·rw[if_neg h6]
    have e:∃ b,Val.cmb k v w=O9 b:=by
     unfold Val.cmb;rw[if_neg hk8,if_neg hk9,if_neg hn,if_neg (by omega),if_neg (by omega),if_neg (by omega)];split<;>exact⟨_,rfl⟩
    obtain⟨b,e⟩:=e;rw[e]
    cases b
    ·exact this.2.1
    ·exact this.2.2
theorem AUI:∀ a:Fin 8,∀ s:Fin 3,gB a.val (sT s.val)=true→gB (AZK a.val) (sT (2-(s.val:Int)))=true:=by decide +kernel
theorem AK6:∀ a:Fin 8,(gB a.val 4=true→gB (AX8 a.val) 2=true)∧(gB a.val 1=true∨gB a.val 2=true→gB (AX8 a.val) 1=true):=by decide +kernel
theorem T9 {k:Int} {n:Nat} (h:(n:Int)=dB k) (h1:k≠1) (h2:k≠2) (h10:k≠10) (h11:k≠11):n=2:=by
 unfold dB at h;by_cases c1:k=1∨k=2
 ·omega
 ·by_cases c2:k=10∨k=11
  ·omega
  ·rw[if_neg c1,if_neg c2]at h;split at h<;>omega
theorem AOU {W:Int} (st:List Int) (hl:(st.length:Int)=W) (hs:∀ a∈st,okS a):∀ e:Ex,e.wf W=true→okS (H9 st e):=by
 intro e
 induction e using Ex.ind with
 | h k c v ks ih =>
  intro h;have h':=h;rw[Ex.EZ]at h';simp only[zU,zS,Ex.kids,Ex.kind]at h';rw[L6];simp only[Ex.kind,Ex.col,Ex.val,Ex.kids];have hkid:∀ (i:Nat) (a:Ex),ks[i]?=some a→okS (H9 st a):=fun i a hi=>ih a (zV hi) (Ex.iZ h (zV hi))
  by_cases hk1:k=1
  ·simp only[hk1,if_true];obtain⟨h0,h1,_⟩:=Ex.oP h hk1;simp only[Ex.col]at h0 h1;rw[zX (show c.toNat<st.length by omega)];exact hs _ (xY _)
  by_cases hk2:k=2
  ·simp only[hk1,hk2,if_false,if_true,show ¬ (2:Int)=1 by omega];exact AIL _
  simp only[hk1,hk2,if_false];by_cases hk10:k=10
  ·simp only[hk10,if_true];have h0:0<ks.length:=by have:=h'.1;rw[hk10]at this;simp[dB]at this;omega
   have e1:=zX h0;have g2:=hkid 0 _ e1;simp only[e1,yI,zA];obtain⟨n,hn⟩:=FI g2;have hn0:n.val≠0:=by have:=g2.1;omega
   rw[hn];exact(SN n hn0).1
  by_cases hk11:k=11
  ·simp only[hk11,if_true,if_false,show ¬ (11:Int)=10 by omega];have h0:0<ks.length:=by have:=h'.1;rw[hk11]at this;simp[dB]at this;omega
   have e1:=zX h0;have g2:=hkid 0 _ e1;simp only[e1,yI,zA];obtain⟨n,hn⟩:=FI g2;have hn0:n.val≠0:=by have:=g2.1;omega
   rw[hn];exact(SN n hn0).2
  simp only[hk10,hk11,if_false];have h2:=T9 (zO h'.1) hk1 hk2 hk10 hk11;have e0:=zX (show 0<ks.length by omega);have e1:=zX (show 1<ks.length by omega);simp only[e0,e1,yI,zA];exact AM1 (hkid 0 _ e0) (hkid 1 _ e1)
theorem AFU {W:Int} (st:List Int) (row:List Val) (hl:(st.length:Int)=W) (hr:row.length=st.length) (hs:∀ a∈st,okS a) (hst:∀ (i:Nat) (a:Int) (v:Val),st[i]?=some a→row[i]?=some v→gB a (stV v)=true):∀ e:Ex,e.wf W=true→gB (H9 st e) (stV (e.ev row))=true:=by
 intro e
 induction e using Ex.ind with
 | h k c v ks ih =>
  intro h;have h':=h;rw[Ex.EZ]at h';simp only[zU,zS,Ex.kids,Ex.kind]at h';rw[L6,Ex.J2];simp only[Ex.kind,Ex.col,Ex.val,Ex.kids,evN]
  have hkid:∀ (i:Nat) (a:Ex),ks[i]?=some a→gB (H9 st a) (stV (a.ev row))=true∧okS (H9 st a):=fun i a hi=>⟨ih a (zV hi) (Ex.iZ h (zV hi)),AOU st hl hs a (Ex.iZ h (zV hi))⟩
  by_cases hk1:k=1
  ·simp only[hk1,if_true];obtain⟨h0,h1,_⟩:=Ex.oP h hk1;simp only[Ex.col]at h0 h1;have e1:=zX (show c.toNat<st.length by omega);have e2:=zX (show c.toNat<row.length by omega);have:=hst _ _ _ e1 e2;rw[e1,e2];exact this
  by_cases hk2:k=2
  ·simp only[hk1,hk2,if_false,if_true,show ¬ (2:Int)=1 by omega];unfold stV;split
   ·decide
   ·split<;>decide
  simp only[hk1,hk2,if_false];by_cases hk10:k=10
  ·simp only[hk10,if_true];have h0:0<ks.length:=by have:=h'.1;rw[hk10]at this;simp[dB]at this;omega
   have e1:=zX h0;obtain⟨g1,g2⟩:=hkid 0 _ e1;simp only[zH,e1,yI,zA];obtain⟨n,hn⟩:=FI g2;obtain⟨s,hs'⟩:=AI4 (ks[0].ev row);have ht:=wO (ks[0].ev row);rw[AC2,hs',hn]at g1;rw[hn,hs',ZT (by rw[hs']at ht;omega)];exact AUI n s g1
  by_cases hk11:k=11
  ·simp only[hk11,if_true,if_false,show ¬ (11:Int)=10 by omega];have h0:0<ks.length:=by have:=h'.1;rw[hk11]at this;simp[dB]at this;omega
   have e1:=zX h0;obtain⟨g1,g2⟩:=hkid 0 _ e1;simp only[zH,e1,yI,zA];obtain⟨n,hn⟩:=FI g2;rw[hn]at g1 ⊢
   cases hnl:(ks[0].ev row).null with
   | true =>
    simp only[stV,hnl,if_true]at g1;exact(AK6 n).1 g1
   | false =>
    have:gB n.val 1=true∨gB n.val 2=true:=by
     simp only[stV,hnl]at g1;by_cases e:(ks[0].ev row).n=0
     ·left;simpa [e]using g1
     ·right;simpa [e]using g1
    exact(AK6 n).2 this
  simp only[hk10,hk11,if_false];have h2:=T9 (zO h'.1) hk1 hk2 hk10 hk11;have e0:=zX (show 0<ks.length by omega);have e1:=zX (show 1<ks.length by omega);simp only[zH,e0,e1,yI,zA];exact ALZ (hkid 0 _ e0).2 (hkid 1 _ e1).2 (hkid 0 _ e0).1 (hkid 1 _ e1).1
theorem Ad6 {e:Ex} {row:List Val} (h:isT e row=true):stV (e.ev row)=2:=by
 unfold isT at h;rw[AC2,zO h];rfl
theorem qY {w:Int} {e:Ex} (h:e.ok w=true):e.wf w=true:=by simp[Ex.ok,Ex.NS]at h;exact h.2.1
def AfD (db:List Tbl) (k t:Int) (es:List Ex) (cs:List Int) (a b:Tbl):List (List Val) :=
 if k=1 then((db[t.toNat]?).getD ABX).rows
 else if k=2 then a.rows.filter (isT (exO es))
 else if k=3 then a.rows.map fun r=>es.map (Ex.ev r)
 else if k=4∨k=5 then fD (exO es) (decide (k=5)) a b
 else if k=6 then a.rows++b.rows
 else if k=7 then iQ a.rows
 else iP cs a.rows
def Pn.raw (db:List Tbl) (p:Pn):List (List Val):=AfD db p.kind p.table p.exprs p.cols ((p.kids[0]?.map (Pn.evP db)).getD ABX) ((p.kids[1]?.map (Pn.evP db)).getD ABX)
mutual
def Pn.fit (db:List Tbl):Pn→Bool
 | .mk k t es cs ks=>decide ((Pn.raw db (.mk k t es cs ks)).length≤400) && Pn.Aa5 db ks
def Pn.Aa5 (db:List Tbl):List Pn→Bool
 | []=>true
 | p::ps=>Pn.fit db p && Pn.Aa5 db ps
end
theorem Pn.AD7 (db:List Tbl):∀ l:List Pn,Pn.Aa5 db l=l.all (Pn.fit db)
 | []=>by simp[Pn.Aa5]
 | p::l=>by simp[Pn.Aa5,Pn.AD7 db l]
theorem Pn.rC (db:List Tbl) (p:Pn):p.fit db=true↔(p.raw db).length≤400∧∀ a∈p.kids,a.fit db=true:=by
 cases p;simp[Pn.fit,Pn.AD7,Pn.kids]
theorem AOO (db:List Tbl) (t:Int):(Pn.scan t).raw db=((db[t.toNat]?).getD ABX).rows:=rfl
theorem ACF (db:List Tbl) (e:Ex) (a:Pn):(filt e a).raw db=(a.evP db).rows.filter (isT e):=rfl
theorem ACE (db:List Tbl) (es:List Ex) (a:Pn):(proj es a).raw db=(a.evP db).rows.map fun r=>es.map (Ex.ev r):=rfl
theorem RY (db:List Tbl) {k:Int} (hk:k=4∨k=5) (e:Ex) (a b:Pn):(aY k e a b).raw db=fD e (decide (k=5)) (a.evP db) (b.evP db):=by rcases hk with rfl|rfl<;>rfl
theorem W9 (db:List Tbl) (a b:Pn):(cK a b).raw db=(a.evP db).rows++(b.evP db).rows:=rfl
theorem AOP (db:List Tbl) (a:Pn):(Pn.mk 7 0 [] [] [a]).raw db=iQ (a.evP db).rows:=rfl
theorem AJF (db:List Tbl) (cs:List Int) (a:Pn):(Pn.mk 8 0 [] cs [a]).raw db=iP cs (a.evP db).rows:=rfl
mutual
def Pn.bd (n:Nat):Pn→Nat
 | .mk _ _ es _ ks=>bdK n es (Pn.bdL n ks)
def Pn.bdL (n:Nat):List Pn→List Nat
 | []=>[]
 | p::ps=>Pn.bd n p::Pn.bdL n ps
def bdK (n:Nat) (es:List Ex):List Nat→Nat
 | []=>n
 | [a]=>a
 | a::b::_=>if es=[]then a+b else a*b
end
theorem ABL (n:Nat) (t:Int):(Pn.scan t).bd n=n:=by simp[Pn.scan,Pn.bd,Pn.bdL,bdK]
theorem qR (n:Nat) (k t:Int) (es:List Ex) (cs:List Int) (a:Pn):(Pn.mk k t es cs [a]).bd n=a.bd n:=by simp[Pn.bd,Pn.bdL,bdK]
theorem R4 (n:Nat) (k t:Int) (es:List Ex) (cs:List Int) (a b:Pn):(Pn.mk k t es cs [a,b]).bd n=if es=[]then a.bd n+b.bd n else a.bd n*b.bd n:=by simp[Pn.bd,Pn.bdL,bdK]
theorem ASR {n:Nat} (hn:1≤n):∀ p:Pn,1≤p.bd n:=by
 intro p
 induction p using Pn.ind with
 | h k t es cs ks ih =>
  match ks,ih with
  | [],_=>simp[Pn.bd,Pn.bdL,bdK];exact hn
  | [a],ih=>rw[qR];exact ih a (by simp)
  | a::b::l,ih =>
   have h1:=ih a (by simp);have h2:=ih b (by simp);simp only[Pn.bd,Pn.bdL,bdK];split
   ·omega
   ·exact Nat.mul_pos h1 h2
theorem AaS {ws:List Int} {db:List Tbl} {n:Nat} (hn:1≤n) (hws:ws=db.map Tbl.w) (hdb:∀ t∈db,t.ok=true∧t.rows.length≤n):∀ (p:Pn) (lv:Nat),p.wd ws lv≠0→p.bd n≤400→p.fit db=true∧(p.evP db).rows.length≤p.bd n:=by
 intro p
 induction p using Pn.ind with
 | h k t es cs ks ih =>
  intro lv h hb;have hsh:=sP h;generalize hp:Pn.mk k t es cs ks=p at hsh h hb;have hk:ks=p.kids:=by rw[← hp];rfl
  subst hk;rw[Pn.rC]
  cases hsh with
  | scan t W h0 h1 hW =>
   rw[hws,zH]at h1;obtain⟨s,hs,rfl⟩:=zB0.1 h1;have:=hdb s (zV hs);rw[AOO,EK,ABL,hs];rw[ABL]at hb;simp only[zA];have h3:=(sU s.w s.rows).2;exact⟨⟨by omega,by simp[Pn.scan]⟩,by omega⟩
  | filt m e a h1 ha he =>
   unfold filt at hb;rw[qR]at hb;obtain⟨i1,i2⟩:=ih a (by simp[filt]) m ha hb;rw[ACF,oF];have h3:=yG (isT e) (a.evP db).rows;have h4:=(sU (a.evP db).w ((a.evP db).rows.filter (isT e))).2;refine⟨⟨by omega,by simp[filt,i1]⟩,?_⟩;unfold filt;rw[qR];omega
  | proj m es a h1 ha hl he =>
   unfold proj at hb;rw[qR]at hb;obtain⟨i1,i2⟩:=ih a (by simp[proj]) m ha hb;rw[ACE,kL];have h4:=(sU es.length ((a.evP db).rows.map fun r=>es.map (Ex.ev r))).2;rw[y5]at h4 ⊢;refine⟨⟨by omega,by simp[proj,i1]⟩,?_⟩;unfold proj;rw[qR];omega
  | pair m k e a b h1 hk ha hb' hl he =>
   unfold aY at hb;rw[R4,if_neg (by simp)]at hb;have pa:=ASR hn a;have pb:=ASR hn b;have la:a.bd n≤a.bd n*b.bd n:=Nat.le_mul_of_pos_right _ pb;have lb:b.bd n≤a.bd n*b.bd n:=Nat.le_mul_of_pos_left _ pa;obtain⟨i1,i2⟩:=ih a (by simp[aY]) m ha (by omega);obtain⟨i3,i4⟩:=ih b (by simp[aY]) m hb' (by omega);rw[RY db hk,kM db hk];have h3:=AKR e (decide (k=5)) (a.evP db) (b.evP db);have h4:=(sU ((a.evP db).w+(b.evP db).w) (fD e (decide (k=5)) (a.evP db) (b.evP db))).2;have h5:(a.evP db).rows.length*(if decide (k=5)=true then max 1 (b.evP db).rows.length else(b.evP db).rows.length)≤a.bd n*b.bd n:=zF2 i2 (by split<;>omega);refine⟨⟨by omega,by simp[aY,i1,i3]⟩,?_⟩;unfold aY;rw[R4,if_neg (by simp)];omega
  | union m a b h1 ha hb' =>
   unfold cK at hb;rw[R4,if_pos rfl]at hb;obtain⟨i1,i2⟩:=ih a (by simp[cK]) m ha (by omega);obtain⟨i3,i4⟩:=ih b (by simp[cK]) m (by rw[hb'];exact ha) (by omega);rw[W9,pI];have h4:=(sU (a.evP db).w ((a.evP db).rows++(b.evP db).rows)).2;rw[zQ]at h4 ⊢;refine⟨⟨by omega,by simp[cK,i1,i3]⟩,?_⟩;unfold cK;rw[R4,if_pos rfl];omega
  | dist m a h1 ha =>
   rw[qR]at hb;obtain⟨i1,i2⟩:=ih a (by simp) m ha hb;rw[AOP,tX,qR];have h3:=(lQ (a.evP db).rows).length_le;have h4:=(sU (a.evP db).w (iQ (a.evP db).rows)).2;exact⟨⟨by omega,by simp[i1]⟩,by omega⟩
  | group m cs a h1 ha hc ho =>
   rw[qR]at hb;obtain⟨i1,i2⟩:=ih a (by simp) m ha hb;rw[AJF,sG,qR];have h3:=(vR cs (fun _=>True) (a.evP db).rows (fun _ _=>trivial)).2.1;have h5:(iP cs (a.evP db).rows).length=(groups cs (a.evP db).rows).length:=by simp[iP]
   have h4:=(sU ((cs.length:Int)+1) (iP cs (a.evP db).rows)).2;exact⟨⟨by omega,by simp[i1]⟩,by omega⟩
def Th (P:Pn) (j j':Nat) (u u':Int):Prop:=P.thin∧(j'≤j∧u'≤u∧∀ n:Nat,1≤n→P.bd n≤2 ^ (u-u').toNat*n ^ (j-j'+1))∧(P.exprs=[]→P.kids.length=2→P.kind=6)
theorem Th.scan {t:Int} (h:(Pn.scan t).thin) (j:Nat) (u:Int):Th (.scan t) j j u u:=by
 refine⟨h,⟨Nat.le_refl _,Int.le_refl _,fun n _=>?_⟩,by simp[Pn.scan]⟩;rw[ABL];simp
theorem Th.one {k t:Int} {es:List Ex} {cs:List Int} {K:Pn} {j j1:Nat} {u u1:Int} (hth:(Pn.mk k t es cs [K]).thin) (h:Th K j j1 u u1):Th (.mk k t es cs [K]) j j1 u u1:=by
 refine⟨hth,⟨h.2.1.1,h.2.1.2.1,fun n hn=>?_⟩,by simp⟩;rw[qR];exact h.2.1.2.2 n hn
theorem Th.skip {k t:Int} {es:List Ex} {cs:List Int} {K:Pn} {j j1 j2:Nat} {u u1 u2:Int} (hth:(Pn.mk k t es cs [K]).thin) (h:Th K j j1 u u1) (h2:j2≤j1) (h3:u2≤u1):Th (.mk k t es cs [K]) j j2 u u2:=by
 obtain⟨-,⟨g1,g2,g3⟩,-⟩:=h;refine⟨hth,⟨by omega,by omega,fun n hn=>?_⟩,by simp⟩;rw[qR];refine zA0 (g3 n hn) (zF2 (zD9 (by omega) (by omega)) (zD9 hn (by omega)))
theorem Th.un {e:Ex} {K:Pn} {j j1:Nat} {u u1:Int} (hth:(Pn.mk 6 0 [] [] [K, .mk 2 0 [e] [] [K]]).thin) (h:Th K j j1 u u1):Th (.mk 6 0 [] [] [K, .mk 2 0 [e] [] [K]]) j j1 u (u1-1):=by
 obtain⟨-,⟨g1,g2,g3⟩,-⟩:=h;refine⟨hth,⟨g1,by omega,fun n hn=>?_⟩,by simp⟩;rw[R4,if_pos rfl,qR];have:=g3 n hn;rw[show(u-(u1-1)).toNat=(u-u1).toNat+1 by omega,zE7,yT (2 ^ (u-u1).toNat) 2,Nat.mul_assoc];omega
theorem Th.jn {z:Int} {e:Ex} {K O:Pn} {j j1 j2:Nat} {u u1 u2:Int} (hth:(Pn.mk z 0 [e] [] [K,O]).thin) (hj:j1≠0) (h:Th K j j1 u u1) (h2:Th O (j1-1) j2 u1 u2):Th (.mk z 0 [e] [] [K,O]) j j2 u u2:=by
 obtain⟨-,⟨g1,g2,g3⟩,-⟩:=h;obtain⟨-,⟨k1,k2,k3⟩,-⟩:=h2;refine⟨hth,⟨by omega,by omega,fun n hn=>?_⟩,by simp⟩;rw[R4,if_neg (by simp)];have:=zF2 (g3 n hn) (k3 n hn);refine zA0 this (Nat.le_of_eq ?_);have e1:2 ^ (u-u2).toNat=2 ^ (u-u1).toNat*2 ^ (u1-u2).toNat:=by rw[← Nat.pow_add];congr 1;omega
 have e2:n ^ (j-j2+1)=n ^ (j-j1+1)*n ^ (j1-1-j2+1):=by rw[← Nat.pow_add];congr 1;omega
 rw[e1,e2];exact Nat.mul_mul_mul_comm _ _ _ _
def BdV (P:Pn):Prop:=∀ (ws:List Int) (lv n:Nat),1≤n→P.wd ws lv≠0→P.bd n≤2*n ^ 2
theorem Th.bdV {P:Pn} {j':Nat} {u':Int} (h:Th P 1 j' 1 u') (hu:0≤u'):∀ n:Nat,1≤n→P.bd n≤2*n ^ 2:=by
 intro n hn;have:=h.2.1.2.2 n hn;refine zA0 this (zF2 (zD9 (by omega) (show(1-u').toNat≤1 by omega)) (zD9 hn (by omega)))
theorem AWJ (n:Nat) (P:Pn) (k t:Int) (cs:List Int):(Pn.mk k t P.exprs cs P.kids).bd n=P.bd n:=by
 obtain⟨k',t',es,cs',ks⟩:=P;simp[Pn.bd,Pn.exprs,Pn.kids]
theorem AQM {P:Pn} {e:Ex} (h:∀ n:Nat,1≤n→P.bd n≤2*n ^ 2) (h6:P.exprs=[]→P.kids.length=2→P.kind=6):BdV (.mk P.kind P.table (P.exprs++[e]) P.cols P.kids):=by
 intro ws lv n hn hw;have h0:=h n hn;obtain⟨k,t,es,cs,ks⟩:=P;simp only[Pn.dO,Pn.fU,Pn.fT,Pn.kK,Pn.gK]at *
 match ks,h0,h6,hw with
 | [],h0,_,_=>simpa [Pn.bd,Pn.bdL,bdK]using h0
 | [a],h0,_,_=>rw[qR]at h0 ⊢;exact h0
 | a::b::l,h0,h6,hw =>
  by_cases he:es=[]
  ·subst he;have hsh:=sP hw;generalize hp:Pn.mk k t ([]++[e]) cs (a::b::l)=p at hsh
   cases hsh<;>simp only[Pn.scan,filt,proj,aY,cK,Pn.mk.injEq,xW,reduceCtorEq,and_false,List.cons.injEq,false_and,and_true]at hp
   rename_i hk _ _ _ _;obtain⟨rfl,_,_,_,_,_,rfl⟩:=hp;have:=h6 rfl rfl;omega
  ·have e1:(Pn.mk k t (es++[e]) cs (a::b::l)).bd n=(Pn.mk k t es cs (a::b::l)).bd n:=by
    simp only[Pn.bd,Pn.bdL,bdK];rw[if_neg (by simp),if_neg he]
   rw[e1];exact h0
def Rt (P:Pn):Prop:=P.thin∧(∀ n:Nat,1≤n→P.bd n≤2*n ^ 2)∧(P.exprs=[]→P.kids.length=2→P.kind=6)
theorem Th.rt {P:Pn} {j':Nat} {u':Int} (h:Th P 1 j' 1 u') (hu:0≤u'):Rt P:=⟨h.1,h.bdV hu,h.2.2⟩
theorem Rt.one {k t:Int} {es:List Ex} {cs:List Int} {P:Pn} (hth:(Pn.mk k t es cs [P]).thin) (h:Rt P):Rt (.mk k t es cs [P]):=⟨hth,fun n hn=>by rw[qR];exact h.2.1 n hn,by simp⟩
theorem Rt.head {P:Pn} {k t:Int} {cs:List Int} (h:Rt P):BdV (.mk k t P.exprs cs P.kids):=fun ws lv n hn _=>by rw[AWJ];exact h.2.1 n hn
theorem Rt.all {P:Pn} (h:Rt P):BdV P:=fun ws lv n hn _=>h.2.1 n hn
end Go.Av
namespace Go.Proofs.YtnmimmaahhlgeaaGreat.P
open Go Go.Av
set_option maxRecDepth 4000
set_option maxHeartbeats 8000000
def PSt (l:List UInt8) (ws:List Int) (k:Nat) (j u p:Int):StL:=[some (.box [.own 1 0, .osl 2 1 0 k, .int j, .int u]),Rd l p,some (.arr 1 (aG ws))]
def pV (l:List UInt8) (ws:List Int) (k d j c:Nat):Prop:=∀ p u:Int,0≤p→p+c<300000000→0≤u→u≤1→∃ (P:Pn) (p' u':Int) (j':Nat),
    aH CP 129 [.own 0 0, .int d] (PSt l ws k j u p)=some (.i (.agg P.cells),PSt l ws k j' u' p')∧Th P j j' u u'∧p≤p'∧p'≤p+c∧j'≤j∧0≤u'∧u'≤1
theorem PH (t:Int):(Pn.scan t).cells=[.int 1, .int t, .isl [], .isl [], .isl []]:=by simp[Pn.scan,Pn.cells,Ex.aB,aG,Pn.aB]
theorem WK {l:List UInt8} (hl:l.length≤2000) {ws:List Int} {k:Nat} (j:Nat):pV l ws k 0 j 1:=by
 intro p u h0 h1 hu0 hu1;obtain⟨t,ht,-,-⟩:=bE l p k h0 (by omega) hl;refine⟨.scan t,p+1,u,j,?_,Th.scan (Pn.KD t) _ _,by omega,by omega,by omega,by omega,by omega⟩;rw[aD rfl Tryz.func129 rfl rfl];simp[PSt,ht,PH]
structure PlH (l:List UInt8) (ws:List Int) (k d j c2:Nat) (p u t v W kk p1 u1:Int) (j1:Nat) (K:Pn):Prop where
 hd:d<100
 h1:p1+400+c2<300000000
 hp1:0≤p1
 hu0:0≤u1
 hu1:u1≤1
 hW0:0≤W
 hW6:W≤6
 hKB:Th K j j1 u u1
 ht:aH C0 40 [.own 0 0, .int k] [Rd l p]=some (.int t,[Rd l (p+1)])
 hv:aH C0 40 [.own 0 0, .int 6] [Rd l (p+1)]=some (.int v,[Rd l (p+1+1)])
 v0:¬ v=0
 hkid:aH CP 129 [.own 0 0, .int d] (PSt l ws k j u (p+1+1))=some (.i (.agg K.cells),PSt l ws k j1 u1 p1)
 hW:aH CP 45 [.i (.agg K.cells), .osl 0 1 0 k, .int 8] [some (.arr 1 (aG ws))]=some (.int W,[some (.arr 1 (aG ws))])
 hkk:aH C0 40 [.own 0 0, .int 10] [Rd l p1]=some (.int kk,[Rd l (p1+1)])
abbrev PlC (l:List UInt8) (ws:List Int) (k d j c2:Nat) (p u p1:Int) (j1:Nat):Prop:=∃ (P:Pn) (p' u':Int) (j':Nat),aH CP 129 [.own 0 0, .int ((d+1:Nat):Int)] (PSt l ws k j u p)=some (.i (.agg P.cells),PSt l ws k j' u' p')∧Th P j j' u u'∧p1≤p'∧p'≤p1+400+c2∧j'≤j1∧0≤u'∧u'≤1
theorem WR {l:List UInt8} (hl:l.length≤2000) {ws:List Int} {k:Nat} {d j c2:Nat} {p u t v W kk p1 u1:Int} {j1:Nat} {K:Pn} (H:PlH l ws k d j c2 p u t v W kk p1 u1 j1 K) (hq:kk=0):PlC l ws k d j c2 p u p1 j1:=by
 obtain⟨hd,h1,hp1,hu0,hu1,hW0,hW6,hKB,ht,hv,v0,hkid,hW,hkk⟩:=H;have we:IntKind.i64.wrap (d:Int)=d:=wrO;have hK:=hKB.1;have wn:¬ ((d:Int)+1=0):=by omega
 simp only[PSt]at hkid;rw[Pn.aA K]at hkid hW;obtain⟨e,p2,he,a1,a2,a3⟩:=aQ l hl W (p1+1) (by omega) (by omega);have hf:=fV e K;rw[bS,Pn.aA K,Ex.aA e]at hf;rw[Ex.aA e]at he;refine⟨cB e K,p2,u1,j1,?_,Th.one (dA (by omega) hK) hKB,by omega,by omega,by omega,by omega,by omega⟩;rw[aD rfl Tryz.func129 rfl rfl];simp[PSt,ht,hv,v0,we,hkid,hW,hkk,wn,hq,he,hf,bS,Pn.aA K,Ex.aA e]
theorem WQ {l:List UInt8} (hl:l.length≤2000) {ws:List Int} {k:Nat} {d j c2:Nat} {p u t v W kk p1 u1:Int} {j1:Nat} {K:Pn} (H:PlH l ws k d j c2 p u t v W kk p1 u1 j1 K) (hq:kk=1):PlC l ws k d j c2 p u p1 j1:=by
 obtain⟨hd,h1,hp1,hu0,hu1,hW0,hW6,hKB,ht,hv,v0,hkid,hW,hkk⟩:=H;have we:IntKind.i64.wrap (d:Int)=d:=wrO;have hK:=hKB.1;have wn:¬ ((d:Int)+1=0):=by omega
 simp only[PSt]at hkid;rw[Pn.aA K]at hkid hW;obtain⟨e,p2,he,a1,a2,a3⟩:=aQ l hl W (p1+1) (by omega) (by omega);have hf:=fV e K;rw[bS,Pn.aA K,Ex.aA e]at hf;rw[Ex.aA e]at he;refine⟨cB e K,p2,u1,j1,?_,Th.one (dA (by omega) hK) hKB,by omega,by omega,by omega,by omega,by omega⟩;rw[aD rfl Tryz.func129 rfl rfl];simp[PSt,ht,hv,v0,we,hkid,hW,hkk,wn,hq,he,hf,bS,Pn.aA K,Ex.aA e]
theorem WP {l:List UInt8} (hl:l.length≤2000) {ws:List Int} {k:Nat} {d j c2:Nat} {p u t v W kk p1 u1:Int} {j1:Nat} {K:Pn} (H:PlH l ws k d j c2 p u t v W kk p1 u1 j1 K) (hq:kk=2):PlC l ws k d j c2 p u p1 j1:=by
 obtain⟨hd,h1,hp1,hu0,hu1,hW0,hW6,hKB,ht,hv,v0,hkid,hW,hkk⟩:=H;have we:IntKind.i64.wrap (d:Int)=d:=wrO;have hK:=hKB.1;have wn:¬ ((d:Int)+1=0):=by omega
 simp only[PSt]at hkid;rw[Pn.aA K]at hkid hW;obtain⟨e,p2,he,a1,a2,a3⟩:=aQ l hl W (p1+1) (by omega) (by omega);have hf:=fV e K;rw[bS,Pn.aA K,Ex.aA e]at hf;rw[Ex.aA e]at he;refine⟨cB e K,p2,u1,j1,?_,Th.one (dA (by omega) hK) hKB,by omega,by omega,by omega,by omega,by omega⟩;rw[aD rfl Tryz.func129 rfl rfl];simp[PSt,ht,hv,v0,we,hkid,hW,hkk,wn,hq,he,hf,bS,Pn.aA K,Ex.aA e]
theorem SC {l:List UInt8} (hl:l.length≤2000) {ws:List Int} {k:Nat} {d j c2:Nat} {p u t v W kk p1 u1:Int} {j1:Nat} {K:Pn} (H:PlH l ws k d j c2 p u t v W kk p1 u1 j1 K) (hq:kk=8):PlC l ws k d j c2 p u p1 j1:=by
 obtain⟨hd,h1,hp1,hu0,hu1,hW0,hW6,hKB,ht,hv,v0,hkid,hW,hkk⟩:=H;have we:IntKind.i64.wrap (d:Int)=d:=wrO;have hK:=hKB.1;have wn:¬ ((d:Int)+1=0):=by omega
 simp only[PSt]at hkid;rw[Pn.aA K]at hkid hW;refine⟨.mk 7 0 [] [] [K],p1+1,u1,j1,?_,Th.one (by simp[Pn.thin,Pn.iA,hK]) hKB,by omega,by omega,by omega,by omega,by omega⟩;rw[aD rfl Tryz.func129 rfl rfl];simp[PSt,ht,hv,v0,we,hkid,hW,hkk,wn,hq,Pn.cells,Ex.aB,aG,Pn.aB,Pn.aA K]
theorem WO {l:List UInt8} (hl:l.length≤2000) {ws:List Int} {k:Nat} {d j c2:Nat} {p u t v W kk p1 u1:Int} {j1:Nat} {K:Pn} (H:PlH l ws k d j c2 p u t v W kk p1 u1 j1 K) (hj:j1=0) (hq:kk=5):PlC l ws k d j c2 p u p1 j1:=by
 obtain⟨hd,h1,hp1,hu0,hu1,hW0,hW6,hKB,ht,hv,v0,hkid,hW,hkk⟩:=H;have we:IntKind.i64.wrap (d:Int)=d:=wrO;have hK:=hKB.1;have wn:¬ ((d:Int)+1=0):=by omega
 simp only[PSt]at hkid;rw[Pn.aA K]at hkid hW;obtain⟨e,p2,he,a1,a2,a3⟩:=aQ l hl W (p1+1) (by omega) (by omega);have hf:=fV e K;rw[bS,Pn.aA K,Ex.aA e]at hf;rw[Ex.aA e]at he;refine⟨cB e K,p2,u1,j1,?_,Th.one (dA (by omega) hK) hKB,by omega,by omega,by omega,by omega,by omega⟩;rw[aD rfl Tryz.func129 rfl rfl];simp[PSt,ht,hv,v0,we,hkid,hW,hkk,wn,hq,he,hf,bS,Pn.aA K,Ex.aA e,hj]
theorem AFM {l:List UInt8} (hl:l.length≤2000) {ws:List Int} {k:Nat} {d j c2:Nat} {p u t v W kk p1 u1:Int} {j1:Nat} {K:Pn} (H:PlH l ws k d j c2 p u t v W kk p1 u1 j1 K) (hj:j1≠0) (hw4:¬ W≤4) (hq:kk=5):PlC l ws k d j c2 p u p1 j1:=by
 obtain⟨hd,h1,hp1,hu0,hu1,hW0,hW6,hKB,ht,hv,v0,hkid,hW,hkk⟩:=H;have we:IntKind.i64.wrap (d:Int)=d:=wrO;have hK:=hKB.1;have wn:¬ ((d:Int)+1=0):=by omega
 simp only[PSt]at hkid;rw[Pn.aA K]at hkid hW;have hj':0<j1:=by omega
 obtain⟨e,p2,he,a1,a2,a3⟩:=aQ l hl W (p1+1) (by omega) (by omega);have hf:=fV e K;rw[bS,Pn.aA K,Ex.aA e]at hf;rw[Ex.aA e]at he;refine⟨cB e K,p2,u1,j1,?_,Th.one (dA (by omega) hK) hKB,by omega,by omega,by omega,by omega,by omega⟩;rw[aD rfl Tryz.func129 rfl rfl];simp[PSt,ht,hv,v0,we,hkid,hW,hkk,wn,hq,he,hf,bS,Pn.aA K,Ex.aA e,hj',hj,hw4]
theorem WN {l:List UInt8} (hl:l.length≤2000) {ws:List Int} {k:Nat} {d j c2:Nat} {p u t v W kk p1 u1:Int} {j1:Nat} {K:Pn} (H:PlH l ws k d j c2 p u t v W kk p1 u1 j1 K) (hj:j1=0) (hq:kk=6):PlC l ws k d j c2 p u p1 j1:=by
 obtain⟨hd,h1,hp1,hu0,hu1,hW0,hW6,hKB,ht,hv,v0,hkid,hW,hkk⟩:=H;have we:IntKind.i64.wrap (d:Int)=d:=wrO;have hK:=hKB.1;have wn:¬ ((d:Int)+1=0):=by omega
 simp only[PSt]at hkid;rw[Pn.aA K]at hkid hW;obtain⟨e,p2,he,a1,a2,a3⟩:=aQ l hl W (p1+1) (by omega) (by omega);have hf:=fV e K;rw[bS,Pn.aA K,Ex.aA e]at hf;rw[Ex.aA e]at he;refine⟨cB e K,p2,u1,j1,?_,Th.one (dA (by omega) hK) hKB,by omega,by omega,by omega,by omega,by omega⟩;rw[aD rfl Tryz.func129 rfl rfl];simp[PSt,ht,hv,v0,we,hkid,hW,hkk,wn,hq,he,hf,bS,Pn.aA K,Ex.aA e,hj]
theorem AFL {l:List UInt8} (hl:l.length≤2000) {ws:List Int} {k:Nat} {d j c2:Nat} {p u t v W kk p1 u1:Int} {j1:Nat} {K:Pn} (H:PlH l ws k d j c2 p u t v W kk p1 u1 j1 K) (hj:j1≠0) (hw4:¬ W≤4) (hq:kk=6):PlC l ws k d j c2 p u p1 j1:=by
 obtain⟨hd,h1,hp1,hu0,hu1,hW0,hW6,hKB,ht,hv,v0,hkid,hW,hkk⟩:=H;have we:IntKind.i64.wrap (d:Int)=d:=wrO;have hK:=hKB.1;have wn:¬ ((d:Int)+1=0):=by omega
 simp only[PSt]at hkid;rw[Pn.aA K]at hkid hW;have hj':0<j1:=by omega
 obtain⟨e,p2,he,a1,a2,a3⟩:=aQ l hl W (p1+1) (by omega) (by omega);have hf:=fV e K;rw[bS,Pn.aA K,Ex.aA e]at hf;rw[Ex.aA e]at he;refine⟨cB e K,p2,u1,j1,?_,Th.one (dA (by omega) hK) hKB,by omega,by omega,by omega,by omega,by omega⟩;rw[aD rfl Tryz.func129 rfl rfl];simp[PSt,ht,hv,v0,we,hkid,hW,hkk,wn,hq,he,hf,bS,Pn.aA K,Ex.aA e,hj',hj,hw4]
theorem WM {l:List UInt8} (hl:l.length≤2000) {ws:List Int} {k:Nat} {d j c2:Nat} {p u t v W kk p1 u1:Int} {j1:Nat} {K:Pn} (H:PlH l ws k d j c2 p u t v W kk p1 u1 j1 K) (hu:¬ 0<u1) (hq:kk=7):PlC l ws k d j c2 p u p1 j1:=by
 obtain⟨hd,h1,hp1,hu0,hu1,hW0,hW6,hKB,ht,hv,v0,hkid,hW,hkk⟩:=H;have we:IntKind.i64.wrap (d:Int)=d:=wrO;have hK:=hKB.1;have wn:¬ ((d:Int)+1=0):=by omega
 simp only[PSt]at hkid;rw[Pn.aA K]at hkid hW;obtain⟨e,p2,he,a1,a2,a3⟩:=aQ l hl W (p1+1) (by omega) (by omega);have hf:=fV e K;rw[bS,Pn.aA K,Ex.aA e]at hf;rw[Ex.aA e]at he;refine⟨cB e K,p2,u1,j1,?_,Th.one (dA (by omega) hK) hKB,by omega,by omega,by omega,by omega,by omega⟩;rw[aD rfl Tryz.func129 rfl rfl];simp[PSt,ht,hv,v0,we,hkid,hW,hkk,wn,hq,he,hf,bS,Pn.aA K,Ex.aA e,hu]
theorem AFN {l:List UInt8} (hl:l.length≤2000) {ws:List Int} {k:Nat} {d j c2:Nat} {p u t v W kk p1 u1:Int} {j1:Nat} {K:Pn} (H:PlH l ws k d j c2 p u t v W kk p1 u1 j1 K) (hu:0<u1) (hq:kk=7):PlC l ws k d j c2 p u p1 j1:=by
 obtain⟨hd,h1,hp1,hu0,hu1,hW0,hW6,hKB,ht,hv,v0,hkid,hW,hkk⟩:=H;have we:IntKind.i64.wrap (d:Int)=d:=wrO;have hK:=hKB.1;have wn:¬ ((d:Int)+1=0):=by omega
 simp only[PSt]at hkid;rw[Pn.aA K]at hkid hW;obtain⟨e,p2,he,a1,a2,a3⟩:=aQ l hl W (p1+1) (by omega) (by omega);have hf:=fV e K;have hc:=MZ K hK;have wu:IntKind.i64.wrap (u1-1)=u1-1:=wrO;rw[bS,Pn.aA K,Ex.aA e]at hf;rw[Pn.aA K]at hc;rw[Ex.aA e]at he;refine⟨.mk 6 0 [] [] [K,cB e K],p2,u1-1,j1,?_,Th.un (by have:=dA (e:=e) (by omega) hK;unfold cB at this;simp[Pn.thin,Pn.iA,hK]at this ⊢;exact this) hKB,by omega,by omega,by omega,by omega,by omega⟩;rw[aD rfl Tryz.func129 rfl rfl];simp[PSt,ht,hv,v0,we,hkid,hW,hkk,wn,hq,he,hf,bS,Pn.aA K,Ex.aA e,hu,hc,wu,Pn.bJ,Ex.aB,aG,Pn.aB]
theorem AAB {l:List UInt8} (hl:l.length≤2000) {ws:List Int} {k:Nat} {d j c2:Nat} {p u t v W kk p1 u1:Int} {j1:Nat} {K:Pn} (H:PlH l ws k d j c2 p u t v W kk p1 u1 j1 K) (hw1:¬ 1<W) (hq:kk=9):PlC l ws k d j c2 p u p1 j1:=by
 obtain⟨hd,h1,hp1,hu0,hu1,hW0,hW6,hKB,ht,hv,v0,hkid,hW,hkk⟩:=H;have we:IntKind.i64.wrap (d:Int)=d:=wrO;have hK:=hKB.1;have wn:¬ ((d:Int)+1=0):=by omega
 simp only[PSt]at hkid;rw[Pn.aA K]at hkid hW;refine⟨.mk 8 0 [] [] [K],p1+1,u1,j1,?_,Th.one (by simp[Pn.thin,Pn.iA,hK]) hKB,by omega,by omega,by omega,by omega,by omega⟩;rw[aD rfl Tryz.func129 rfl rfl];simp[PSt,ht,hv,v0,we,hkid,hW,hkk,wn,hq,hw1,Pn.bJ,Ex.aB,aG,Pn.aB,Pn.aA K]
theorem AAA {l:List UInt8} (hl:l.length≤2000) {ws:List Int} {k:Nat} {d j c2:Nat} {p u t v W kk p1 u1:Int} {j1:Nat} {K:Pn} (H:PlH l ws k d j c2 p u t v W kk p1 u1 j1 K) (hw1:1<W) (hq:kk=9):PlC l ws k d j c2 p u p1 j1:=by
 obtain⟨hd,h1,hp1,hu0,hu1,hW0,hW6,hKB,ht,hv,v0,hkid,hW,hkk⟩:=H;have we:IntKind.i64.wrap (d:Int)=d:=wrO;have hK:=hKB.1;have wn:¬ ((d:Int)+1=0):=by omega
 simp only[PSt]at hkid;rw[Pn.aA K]at hkid hW;obtain⟨g,hg,-,-⟩:=bE l (p1+1) W (by omega) (by omega) hl;refine⟨.mk 8 0 [] [g] [K],p1+1+1,u1,j1,?_,Th.one (by simp[Pn.thin,Pn.iA,hK]) hKB,by omega,by omega,by omega,by omega,by omega⟩;rw[aD rfl Tryz.func129 rfl rfl];simp[PSt,ht,hv,v0,we,hkid,hW,hkk,wn,hq,hg,hw1,Pn.bJ,Ex.aB,aG,Pn.aB,Pn.aA K]
theorem AFR {l:List UInt8} (hl:l.length≤2000) {ws:List Int} (hw:∀ w∈ws,0≤w∧w≤6) (hwl:ws.length<1000000) {k:Nat} (hk0:0<k) (hkl:k≤ws.length) {d j c2:Nat} {p u t v W kk p1 u1:Int} {j1:Nat} {K:Pn} (H:PlH l ws k d j c2 p u t v W kk p1 u1 j1 K) (hj:j1≠0) (hjb:j1<1000) (hw4:W≤4) (hoth:∀ y:Nat,y≤1→pV l ws k y (j1-1) c2) (hq:kk=5):PlC l ws k d j c2 p u p1 j1:=by
 obtain⟨hd,h1,hp1,hu0,hu1,hW0,hW6,hKB,ht,hv,v0,hkid,hW,hkk⟩:=H;have we:IntKind.i64.wrap (d:Int)=d:=wrO;have hK:=hKB.1;have wn:¬ ((d:Int)+1=0):=by omega
 simp only[PSt]at hkid;rw[Pn.aA K]at hkid hW;have hj':0<j1:=by omega
 have wj:IntKind.i64.wrap ((j1:Int)-1)=((j1-1:Nat):Int):=by rw[wrO];omega
 obtain⟨x,hx,hx1,-⟩:=bE l (p1+1) 2 (by omega) (by omega) hl;obtain⟨x0,x1⟩:=hx1 (by omega)
 obtain⟨y,rfl⟩:∃ y:Nat,x=y:=⟨x.toNat,by omega⟩
 obtain⟨O,p2,u2,j2,hO,hOt,b1,b2,b3,b4,b5⟩:=hoth y (by omega) (p1+1+1) u1 (by omega) (by omega) hu0 hu1;have hV:=iT hw hwl hk0 hkl O hOt.1;have hVr:=Pn.kJ (ws:=ws.take k) (fun w hm=>hw w (zI hm)) O 8;generalize O.wd (ws.take k) 8=V at hV hVr;have wv:IntKind.i64.wrap (W+V)=W+V:=wrO;simp only[PSt]at hO;rw[Pn.aA O]at hO hV;by_cases hs:W+V≤6
 ·have h1:=qM l p2 (by omega) (by omega) hl [[.int 4],[.int 5]] (by simp) (by simp) (by simp);obtain⟨z,hz,hzm⟩:=h1;obtain⟨e,p3,he,a1,a2,a3⟩:=aQ l hl (W+V) (p2+1) (by omega) (by omega);rw[Ex.aA e]at he;simp only[zM,yE,zB,Nat.reduceAdd]at hz;have het:=Ex.bP e (by omega);refine⟨.mk z 0 [e] [] [K,O],p3,u2,j2,?_,Th.jn (by simp[Pn.thin,Pn.iA,hK,hOt.1,het]) hj hKB hOt,by omega,by omega,by omega,by omega,by omega⟩;rw[aD rfl Tryz.func129 rfl rfl];simp[PSt,ht,hv,v0,we,hkid,hW,hkk,wn,hq,hj',hj,hw4,wj,hx,hO,hV,wv,hs,hz,he,Pn.bJ,Ex.aB,aG,Pn.aB,Pn.aA K,Pn.aA O,Ex.aA e]
 ·obtain⟨e,p3,he,a1,a2,a3⟩:=aQ l hl W p2 (by omega) (by omega);have hf:=fV e K;rw[bS,Pn.aA K,Ex.aA e]at hf;rw[Ex.aA e]at he;refine⟨cB e K,p3,u2,j2,?_,Th.skip (dA (by omega) hK) hKB (by omega) hOt.2.1.2.1,by omega,by omega,by omega,by omega,by omega⟩;rw[aD rfl Tryz.func129 rfl rfl];simp[PSt,ht,hv,v0,we,hkid,hW,hkk,wn,hq,hj',hj,hw4,wj,hx,hO,hV,wv,hs,he,hf,bS,Pn.aA K,Ex.aA e]
theorem AFQ {l:List UInt8} (hl:l.length≤2000) {ws:List Int} (hw:∀ w∈ws,0≤w∧w≤6) (hwl:ws.length<1000000) {k:Nat} (hk0:0<k) (hkl:k≤ws.length) {d j c2:Nat} {p u t v W kk p1 u1:Int} {j1:Nat} {K:Pn} (H:PlH l ws k d j c2 p u t v W kk p1 u1 j1 K) (hj:j1≠0) (hjb:j1<1000) (hw4:W≤4) (hoth:∀ y:Nat,y≤1→pV l ws k y (j1-1) c2) (hq:kk=6):PlC l ws k d j c2 p u p1 j1:=by
 obtain⟨hd,h1,hp1,hu0,hu1,hW0,hW6,hKB,ht,hv,v0,hkid,hW,hkk⟩:=H;have we:IntKind.i64.wrap (d:Int)=d:=wrO;have hK:=hKB.1;have wn:¬ ((d:Int)+1=0):=by omega
 simp only[PSt]at hkid;rw[Pn.aA K]at hkid hW;have hj':0<j1:=by omega
 have wj:IntKind.i64.wrap ((j1:Int)-1)=((j1-1:Nat):Int):=by rw[wrO];omega
 obtain⟨x,hx,hx1,-⟩:=bE l (p1+1) 2 (by omega) (by omega) hl;obtain⟨x0,x1⟩:=hx1 (by omega)
 obtain⟨y,rfl⟩:∃ y:Nat,x=y:=⟨x.toNat,by omega⟩
 obtain⟨O,p2,u2,j2,hO,hOt,b1,b2,b3,b4,b5⟩:=hoth y (by omega) (p1+1+1) u1 (by omega) (by omega) hu0 hu1;have hV:=iT hw hwl hk0 hkl O hOt.1;have hVr:=Pn.kJ (ws:=ws.take k) (fun w hm=>hw w (zI hm)) O 8;generalize O.wd (ws.take k) 8=V at hV hVr;have wv:IntKind.i64.wrap (W+V)=W+V:=wrO;simp only[PSt]at hO;rw[Pn.aA O]at hO hV;by_cases hs:W+V≤6
 ·have h1:=qM l p2 (by omega) (by omega) hl [[.int 4],[.int 5]] (by simp) (by simp) (by simp);obtain⟨z,hz,hzm⟩:=h1;obtain⟨e,p3,he,a1,a2,a3⟩:=aQ l hl (W+V) (p2+1) (by omega) (by omega);rw[Ex.aA e]at he;simp only[zM,yE,zB,Nat.reduceAdd]at hz;have het:=Ex.bP e (by omega);refine⟨.mk z 0 [e] [] [K,O],p3,u2,j2,?_,Th.jn (by simp[Pn.thin,Pn.iA,hK,hOt.1,het]) hj hKB hOt,by omega,by omega,by omega,by omega,by omega⟩;rw[aD rfl Tryz.func129 rfl rfl];simp[PSt,ht,hv,v0,we,hkid,hW,hkk,wn,hq,hj',hj,hw4,wj,hx,hO,hV,wv,hs,hz,he,Pn.bJ,Ex.aB,aG,Pn.aB,Pn.aA K,Pn.aA O,Ex.aA e]
 ·obtain⟨e,p3,he,a1,a2,a3⟩:=aQ l hl W p2 (by omega) (by omega);have hf:=fV e K;rw[bS,Pn.aA K,Ex.aA e]at hf;rw[Ex.aA e]at he;refine⟨cB e K,p3,u2,j2,?_,Th.skip (dA (by omega) hK) hKB (by omega) hOt.2.1.2.1,by omega,by omega,by omega,by omega,by omega⟩;rw[aD rfl Tryz.func129 rfl rfl];simp[PSt,ht,hv,v0,we,hkid,hW,hkk,wn,hq,hj',hj,hw4,wj,hx,hO,hV,wv,hs,he,hf,bS,Pn.aA K,Ex.aA e]
theorem AFP {l:List UInt8} (hl:l.length≤2000) {ws:List Int} {k:Nat} {d j c2:Nat} {p u t v W kk p1 u1:Int} {j1:Nat} {K:Pn} (H:PlH l ws k d j c2 p u t v W kk p1 u1 j1 K) (hq:kk=3):PlC l ws k d j c2 p u p1 j1:=by
 obtain⟨hd,h1,hp1,hu0,hu1,hW0,hW6,hKB,ht,hv,v0,hkid,hW,hkk⟩:=H;have we:IntKind.i64.wrap (d:Int)=d:=wrO;have hK:=hKB.1;have wn:¬ ((d:Int)+1=0):=by omega
 simp only[PSt]at hkid;rw[Pn.aA K]at hkid hW;obtain⟨m,hm,hm1,-⟩:=bE l (p1+1) 2 (by omega) (by omega) hl;obtain⟨m0,m1⟩:=hm1 (by omega);have w2:IntKind.i64.wrap (2:Int)=2:=wrO;have w1:=bB;have w0:IntKind.i64.wrap (0:Int)=0:=wrO;obtain⟨x1,hx1,hy1,-⟩:=bE l (p1+1+1) 2 (by omega) (by omega) hl;obtain⟨x1a,x1b⟩:=hy1 (by omega)
 obtain⟨y1,rfl⟩:∃ y:Nat,x1=y:=⟨x1.toNat,by omega⟩
 have hc1:l6 y1≤9:=by rcases(show y1=0∨y1=1 by omega)with h|h<;>simp[h,l6]
 obtain⟨e1,q1,he1,c1a,c1b,c1c⟩:=rE l hl W y1 (by omega) (by omega) ((p1+1+1)+1) (by omega) (by omega);rw[Ex.aA e1]at he1;have t1:=Ex.bP e1 (by omega)
 rcases(show m=0∨m=1 by omega)with rfl|rfl
 ·refine⟨.mk 3 0 [e1] [] [K],q1,u1,j1,?_,Th.one (by simp[Pn.thin,Pn.iA,hK,t1]) hKB,by omega,by omega,by omega,by omega,by omega⟩;rw[aD rfl Tryz.func129 rfl rfl];simp[PSt,ht,hv,v0,we,hkid,hW,hkk,wn,hq,hm,w1];rw[aF];simp[hx1,he1,w0];rw[aF];simp[Pn.bJ,Ex.aB,aG,Pn.aB,Pn.aA K,Ex.aA e1,PSt]
 ·obtain⟨x2,hx2,hy2,-⟩:=bE l q1 2 (by omega) (by omega) hl;obtain⟨x2a,x2b⟩:=hy2 (by omega)
  obtain⟨y2,rfl⟩:∃ y:Nat,x2=y:=⟨x2.toNat,by omega⟩
  have hc2:l6 y2≤9:=by rcases(show y2=0∨y2=1 by omega)with h|h<;>simp[h,l6]
  obtain⟨e2,q2,he2,c2a,c2b,c2c⟩:=rE l hl W y2 (by omega) (by omega) (q1+1) (by omega) (by omega);rw[Ex.aA e2]at he2;have t2:=Ex.bP e2 (by omega);refine⟨.mk 3 0 [e1,e2] [] [K],q2,u1,j1,?_,Th.one (by simp[Pn.thin,Pn.iA,hK,t1,t2]) hKB,by omega,by omega,by omega,by omega,by omega⟩;rw[aD rfl Tryz.func129 rfl rfl];simp[PSt,ht,hv,v0,we,hkid,hW,hkk,wn,hq,hm,w2];rw[aF];simp[hx1,he1,w1];rw[aF];simp[hx2,he2,w0];rw[aF];simp[Pn.bJ,Ex.aB,aG,Pn.aB,Pn.aA K,Ex.aA e1,Ex.aA e2,PSt]
theorem AFO {l:List UInt8} (hl:l.length≤2000) {ws:List Int} {k:Nat} {d j c2:Nat} {p u t v W kk p1 u1:Int} {j1:Nat} {K:Pn} (H:PlH l ws k d j c2 p u t v W kk p1 u1 j1 K) (hq:kk=4):PlC l ws k d j c2 p u p1 j1:=by
 obtain⟨hd,h1,hp1,hu0,hu1,hW0,hW6,hKB,ht,hv,v0,hkid,hW,hkk⟩:=H;have we:IntKind.i64.wrap (d:Int)=d:=wrO;have hK:=hKB.1;have wn:¬ ((d:Int)+1=0):=by omega
 simp only[PSt]at hkid;rw[Pn.aA K]at hkid hW;obtain⟨m,hm,hm1,-⟩:=bE l (p1+1) 2 (by omega) (by omega) hl;obtain⟨m0,m1⟩:=hm1 (by omega);have w2:IntKind.i64.wrap (2:Int)=2:=wrO;have w1:=bB;have w0:IntKind.i64.wrap (0:Int)=0:=wrO;obtain⟨x1,hx1,hy1,-⟩:=bE l (p1+1+1) 2 (by omega) (by omega) hl;obtain⟨x1a,x1b⟩:=hy1 (by omega)
 obtain⟨y1,rfl⟩:∃ y:Nat,x1=y:=⟨x1.toNat,by omega⟩
 have hc1:l6 y1≤9:=by rcases(show y1=0∨y1=1 by omega)with h|h<;>simp[h,l6]
 obtain⟨e1,q1,he1,c1a,c1b,c1c⟩:=rE l hl W y1 (by omega) (by omega) ((p1+1+1)+1) (by omega) (by omega);rw[Ex.aA e1]at he1;have t1:=Ex.bP e1 (by omega)
 rcases(show m=0∨m=1 by omega)with rfl|rfl
 ·refine⟨.mk 3 0 [e1] [] [K],q1,u1,j1,?_,Th.one (by simp[Pn.thin,Pn.iA,hK,t1]) hKB,by omega,by omega,by omega,by omega,by omega⟩;rw[aD rfl Tryz.func129 rfl rfl];simp[PSt,ht,hv,v0,we,hkid,hW,hkk,wn,hq,hm,w1];rw[aF];simp[hx1,he1,w0];rw[aF];simp[Pn.bJ,Ex.aB,aG,Pn.aB,Pn.aA K,Ex.aA e1,PSt]
 ·obtain⟨x2,hx2,hy2,-⟩:=bE l q1 2 (by omega) (by omega) hl;obtain⟨x2a,x2b⟩:=hy2 (by omega)
  obtain⟨y2,rfl⟩:∃ y:Nat,x2=y:=⟨x2.toNat,by omega⟩
  have hc2:l6 y2≤9:=by rcases(show y2=0∨y2=1 by omega)with h|h<;>simp[h,l6]
  obtain⟨e2,q2,he2,c2a,c2b,c2c⟩:=rE l hl W y2 (by omega) (by omega) (q1+1) (by omega) (by omega);rw[Ex.aA e2]at he2;have t2:=Ex.bP e2 (by omega);refine⟨.mk 3 0 [e1,e2] [] [K],q2,u1,j1,?_,Th.one (by simp[Pn.thin,Pn.iA,hK,t1,t2]) hKB,by omega,by omega,by omega,by omega,by omega⟩;rw[aD rfl Tryz.func129 rfl rfl];simp[PSt,ht,hv,v0,we,hkid,hW,hkk,wn,hq,hm,w2];rw[aF];simp[hx1,he1,w1];rw[aF];simp[hx2,he2,w0];rw[aF];simp[Pn.bJ,Ex.aB,aG,Pn.aB,Pn.aA K,Ex.aA e1,Ex.aA e2,PSt]
theorem AJU {l:List UInt8} {ws:List Int} {k:Nat} {d j:Nat} {p u t:Int} (hd:d<100) (ht:aH C0 40 [.own 0 0, .int k] [Rd l p]=some (.int t,[Rd l (p+1)])) (hv:aH C0 40 [.own 0 0, .int 6] [Rd l (p+1)]=some (.int 0,[Rd l (p+1+1)])) :
 aH CP 129 [.own 0 0, .int ((d+1:Nat):Int)] (PSt l ws k j u p)=some (.i (.agg (Pn.scan t).cells),PSt l ws k j u (p+1+1)):=by
 have wn:¬ ((d:Int)+1=0):=by omega
 rw[aD rfl Tryz.func129 rfl rfl];simp[PSt,ht,hv,PH,wn]
theorem WL {l:List UInt8} (hl:l.length≤2000) {ws:List Int} (hw:∀ w∈ws,0≤w∧w≤6) (hwl:ws.length<1000000) {k:Nat} (hk0:0<k) (hkl:k≤ws.length) {d j c c2:Nat} (hd:d<100) (hjb:j<1000) (ih:pV l ws k d j c) (hoth:∀ i:Nat,i<j→∀ y:Nat,y≤1→pV l ws k y i c2):pV l ws k (d+1) j (c+c2+500):=by
 intro p u h0 h1 hu0 hu1;obtain⟨t,ht,-,-⟩:=bE l p k h0 (by omega) hl;obtain⟨v,hv,-,-⟩:=bE l (p+1) 6 (by omega) (by omega) hl;by_cases v0:v=0
 ·subst v0;exact⟨.scan t,p+1+1,u,j,AJU hd ht hv,Th.scan (Pn.KD t) _ _,by omega,by omega,by omega,by omega,by omega⟩
 obtain⟨K,p1,u1,j1,hkid,hK,a1,a2,a3,a4,a5⟩:=ih (p+1+1) u (by omega) (by omega) hu0 hu1;have hW:=iT hw hwl hk0 hkl K hK.1;have hWr:=Pn.kJ (ws:=ws.take k) (fun w hm=>hw w (zI hm)) K 8;generalize K.wd (ws.take k) 8=W at hW hWr;obtain⟨kk,hkk,hkk1,-⟩:=bE l p1 10 (by omega) (by omega) hl;obtain⟨kk0,kk9⟩:=hkk1 (by omega)
 suffices H:∃ (P:Pn) (p' u':Int) (j':Nat),aH CP 129 [.own 0 0, .int ((d+1:Nat):Int)] (PSt l ws k j u p)=some (.i (.agg P.cells),PSt l ws k j' u' p')∧Th P j j' u u'∧p1≤p'∧p'≤p1+400+c2∧j'≤j1∧0≤u'∧u'≤1 by
  obtain⟨P,p',u',j',b1,b2,b3,b4,b5,b6,b7⟩:=H;exact⟨P,p',u',j',b1,b2,by omega,by omega,by omega,b6,b7⟩
 have hb:p1+400+c2<300000000:=by omega
 have hp1:0≤p1:=by omega
 have H:PlH _ _ _ _ _ _ _ _ _ _ _ _ _ _ _ _:=⟨hd,hb,hp1,a4,a5,hWr.1,hWr.2,hK,ht,hv,v0,hkid,hW,hkk⟩
 by_cases q0:kk=0
 ·exact WR hl H q0
 by_cases q1:kk=1
 ·exact WQ hl H q1
 by_cases q2:kk=2
 ·exact WP hl H q2
 by_cases q3:kk=3
 ·exact AFP hl H q3
 by_cases q4:kk=4
 ·exact AFO hl H q4
 by_cases q5:kk=5
 ·by_cases hj:j1=0
  ·exact WO hl H hj q5
  by_cases hw4:W≤4
  ·exact AFR hl hw hwl hk0 hkl H hj (by omega) hw4 (fun y hy=>hoth (j1-1) (by omega) y hy) q5
  ·exact AFM hl H hj hw4 q5
 by_cases q6:kk=6
 ·by_cases hj:j1=0
  ·exact WN hl H hj q6
  by_cases hw4:W≤4
  ·exact AFQ hl hw hwl hk0 hkl H hj (by omega) hw4 (fun y hy=>hoth (j1-1) (by omega) y hy) q6
  ·exact AFL hl H hj hw4 q6
 by_cases q7:kk=7
 ·by_cases hu:0<u1
  ·exact AFN hl H hu q7
  ·exact WM hl H hu q7
 by_cases q8:kk=8
 ·exact SC hl H q8
 have q9:kk=9:=by omega
 by_cases hw1:1<W
 ·exact AAA hl H hw1 q9
 ·exact AAB hl H hw1 q9
theorem pV.le {l:List UInt8} {ws:List Int} {k:Nat} {d j c c':Nat} (h:pV l ws k d j c) (hc:c≤c'):pV l ws k d j c':=by
 intro p u h0 h1 hu0 hu1;obtain⟨P,p',u',j',b1,b2,b3,b4,b5,b6,b7⟩:=h p u h0 (by omega) hu0 hu1;exact⟨P,p',u',j',b1,b2,b3,by omega,b5,b6,b7⟩
theorem KT {l:List UInt8} (hl:l.length≤2000) {ws:List Int} (hw:∀ w∈ws,0≤w∧w≤6) (hwl:ws.length<1000000) {k:Nat} (hk0:0<k) (hkl:k≤ws.length):∀ d:Nat,d<50→pV l ws k d 0 (500*d+1)
 | 0,_=>(WK hl 0).le (by omega)
 | d+1,h=>(WL hl hw hwl hk0 hkl (c2:=0) (by omega) (by omega) (KT hl hw hwl hk0 hkl d (by omega)) (fun i hi=>by omega)).le (by omega)
theorem ACI {l:List UInt8} (hl:l.length≤2000) {ws:List Int} (hw:∀ w∈ws,0≤w∧w≤6) (hwl:ws.length<1000000) {k:Nat} (hk0:0<k) (hkl:k≤ws.length):∀ d:Nat,d<50→pV l ws k d 1 (2000*d+1)
 | 0,_=>(WK hl 1).le (by omega)
 | d + 1,h=>(WL hl hw hwl hk0 hkl (c2:=501) (by omega) (by omega) (ACI hl hw hwl hk0 hkl d (by omega)) (fun i hi y hy=>by
     obtain rfl:i=0:=by omega
     exact(KT hl hw hwl hk0 hkl y (by omega)).le (by omega))).le (by omega)
theorem ALC {e:Ex} {p:Pn} (he:e.size≤120) (hp:p.thin):(cB e p).thin:=dA (by omega) hp
def bl (n:Nat):Nat:=if n=0 then 0 else 1
def rX (b:Nat) (P:Pn):AV:=.agg [.int P.kind, .int P.table,gro b 5 P.exprs.length,gro (b+bl P.exprs.length) 1 P.cols.length,gro (b+bl P.exprs.length+bl P.cols.length) 5 P.kids.length]
def rS (P:Pn):StL:=vT 5 (Ex.aB P.exprs) P.exprs.length++(vT 1 (aG P.cols) P.cols.length++vT 5 (Pn.aB P.kids) P.kids.length)
@[simp] theorem AdQ (a:List AV) (st:StL):aH CQ 129 a st=aH CP 129 a st:=by rw[aN (p:=aH CP 129) rfl]
@[simp] theorem AVS (a:List AV) (st:StL):aH CQ 130 a st=qA C0 true 130 a st:=by rw[aN (p:=qA C0 true 130) rfl]
@[simp] theorem ASI (a:List AV) (st:StL):aH CQ 45 a st=aH CP 45 a st:=by rw[aN (p:=XC (aH C0) 45) rfl,aN (p:=XC (aH C0) 45) rfl]
@[simp] theorem AVT (a:List AV) (st:StL):aH CQ 128 a st=aH CP 128 a st:=by rw[aN (p:=AS7 (aH C0) 128) rfl,aN (p:=AS7 (aH C0) 128) rfl]
@[simp] theorem AdR (a:List AV) (st:StL):aH CQ 40 a st=aH C0 40 a st:=by rw[aN (p:=aH C0 40) rfl]
@[simp] theorem AeZ (a:List AV) (st:StL):aH CQ 81 a st=aH C0 81 a st:=by rw[aN (p:=aH C0 81) rfl]
@[simp] theorem AdT (a:List AV) (st:StL):aH CQ 131 a st=aH C0 131 a st:=by rw[aN (p:=aH C0 131) rfl]
@[simp] theorem AdS (a:List AV) (st:StL):aH CQ 132 a st=aH C0 132 a st:=by rw[aN (p:=aH C0 132) rfl]
theorem eF (e:Ex) (p:Pn):qA C0 true 130 [.i (.agg e.cells), .i (.agg p.cells)] []=some (.agg [.int 2, .int 0, .osl 0 5 0 1, .nils, .osl 1 5 0 1],[some (.arr 5 [e.cells]),some (.arr 5 [p.cells])]):=by
 rw[eB Tryz.func130 rfl rfl,Ex.aA,Pn.aA];simp
def ZC (l:List UInt8) (ws:List Int) (k d j c:Nat):Prop:=∀ p u:Int,0≤p→p+c<300000000→0≤u→u≤1→∃ (P:Pn) (p' u':Int) (j':Nat),
    qA CQ true 129 [.own 0 0, .int d] (PSt l ws k j u p)=some (rX 3 P,PSt l ws k j' u' p'++rS P)∧Th P j j' u u'∧p≤p'∧p'≤p+c∧j'≤j∧0≤u'∧u'≤1∧P.exprs.length≤2∧P.cols.length≤1
theorem AJ2 {l:List UInt8} {ws:List Int} {k:Nat} {d j:Nat} {p u t:Int} (hd:d<100) (ht:aH C0 40 [.own 0 0, .int k] [Rd l p]=some (.int t,[Rd l (p+1)])) (hv:aH C0 40 [.own 0 0, .int 6] [Rd l (p+1)]=some (.int 0,[Rd l (p+1+1)])) :
 qA CQ true 129 [.own 0 0, .int ((d+1:Nat):Int)] (PSt l ws k j u p)=some (rX 3 (Pn.scan t),PSt l ws k j u (p+1+1)++rS (Pn.scan t)):=by
 have wn:¬ ((d:Int)+1=0):=by omega
 rw[eB Tryz.func129 rfl rfl];simp[PSt,ht,hv,wn,rX,rS,bl,Pn.scan]
abbrev RtC (l:List UInt8) (ws:List Int) (k d j c2:Nat) (p u p1:Int) (j1:Nat):Prop:=∃ (P:Pn) (p' u':Int) (j':Nat),qA CQ true 129 [.own 0 0, .int ((d+1:Nat):Int)] (PSt l ws k j u p)=some (rX 3 P,PSt l ws k j' u' p'++rS P)∧Th P j j' u u'∧p1≤p'∧p'≤p1+400+c2∧j'≤j1∧0≤u'∧u'≤1∧P.exprs.length≤2∧P.cols.length≤1
theorem VY {l:List UInt8} (hl:l.length≤2000) {ws:List Int} {k:Nat} {d j c2:Nat} {p u t v W kk p1 u1:Int} {j1:Nat} {K:Pn} (H:PlH l ws k d j c2 p u t v W kk p1 u1 j1 K) (hq:kk=0):RtC l ws k d j c2 p u p1 j1:=by
 obtain⟨hd,h1,hp1,hu0,hu1,hW0,hW6,hKB,ht,hv,v0,hkid,hW,hkk⟩:=H;have we:IntKind.i64.wrap (d:Int)=d:=wrO;have hK:=hKB.1;have wn:¬ ((d:Int)+1=0):=by omega
 simp only[PSt]at hkid;rw[Pn.aA K]at hkid hW;obtain⟨e,p2,he,a1,a2,a3⟩:=aQ l hl W (p1+1) (by omega) (by omega);have hf:=eF e K;rw[Pn.aA K,Ex.aA e]at hf;rw[Ex.aA e]at he;refine⟨cB e K,p2,u1,j1,?_,Th.one (dA (by omega) hK) hKB,by omega,by omega,by omega,by omega,by omega,by simp[cB,Pn.scan],by simp[cB,Pn.scan]⟩;rw[eB Tryz.func129 rfl rfl];simp[PSt,ht,hv,v0,we,hkid,hW,hkk,wn,hq,rX,rS,bl,he,hf,cB,Ex.aB,aG,Pn.aB,Pn.aA K,Ex.aA e]
theorem VW {l:List UInt8} (hl:l.length≤2000) {ws:List Int} {k:Nat} {d j c2:Nat} {p u t v W kk p1 u1:Int} {j1:Nat} {K:Pn} (H:PlH l ws k d j c2 p u t v W kk p1 u1 j1 K) (hq:kk=1):RtC l ws k d j c2 p u p1 j1:=by
 obtain⟨hd,h1,hp1,hu0,hu1,hW0,hW6,hKB,ht,hv,v0,hkid,hW,hkk⟩:=H;have we:IntKind.i64.wrap (d:Int)=d:=wrO;have hK:=hKB.1;have wn:¬ ((d:Int)+1=0):=by omega
 simp only[PSt]at hkid;rw[Pn.aA K]at hkid hW;obtain⟨e,p2,he,a1,a2,a3⟩:=aQ l hl W (p1+1) (by omega) (by omega);have hf:=eF e K;rw[Pn.aA K,Ex.aA e]at hf;rw[Ex.aA e]at he;refine⟨cB e K,p2,u1,j1,?_,Th.one (dA (by omega) hK) hKB,by omega,by omega,by omega,by omega,by omega,by simp[cB,Pn.scan],by simp[cB,Pn.scan]⟩;rw[eB Tryz.func129 rfl rfl];simp[PSt,ht,hv,v0,we,hkid,hW,hkk,wn,hq,rX,rS,bl,he,hf,cB,Ex.aB,aG,Pn.aB,Pn.aA K,Ex.aA e]
theorem VV {l:List UInt8} (hl:l.length≤2000) {ws:List Int} {k:Nat} {d j c2:Nat} {p u t v W kk p1 u1:Int} {j1:Nat} {K:Pn} (H:PlH l ws k d j c2 p u t v W kk p1 u1 j1 K) (hq:kk=2):RtC l ws k d j c2 p u p1 j1:=by
 obtain⟨hd,h1,hp1,hu0,hu1,hW0,hW6,hKB,ht,hv,v0,hkid,hW,hkk⟩:=H;have we:IntKind.i64.wrap (d:Int)=d:=wrO;have hK:=hKB.1;have wn:¬ ((d:Int)+1=0):=by omega
 simp only[PSt]at hkid;rw[Pn.aA K]at hkid hW;obtain⟨e,p2,he,a1,a2,a3⟩:=aQ l hl W (p1+1) (by omega) (by omega);have hf:=eF e K;rw[Pn.aA K,Ex.aA e]at hf;rw[Ex.aA e]at he;refine⟨cB e K,p2,u1,j1,?_,Th.one (dA (by omega) hK) hKB,by omega,by omega,by omega,by omega,by omega,by simp[cB,Pn.scan],by simp[cB,Pn.scan]⟩;rw[eB Tryz.func129 rfl rfl];simp[PSt,ht,hv,v0,we,hkid,hW,hkk,wn,hq,rX,rS,bl,he,hf,cB,Ex.aB,aG,Pn.aB,Pn.aA K,Ex.aA e]
theorem RP {l:List UInt8} (hl:l.length≤2000) {ws:List Int} {k:Nat} {d j c2:Nat} {p u t v W kk p1 u1:Int} {j1:Nat} {K:Pn} (H:PlH l ws k d j c2 p u t v W kk p1 u1 j1 K) (hq:kk=8):RtC l ws k d j c2 p u p1 j1:=by
 obtain⟨hd,h1,hp1,hu0,hu1,hW0,hW6,hKB,ht,hv,v0,hkid,hW,hkk⟩:=H;have we:IntKind.i64.wrap (d:Int)=d:=wrO;have hK:=hKB.1;have wn:¬ ((d:Int)+1=0):=by omega
 simp only[PSt]at hkid;rw[Pn.aA K]at hkid hW;refine⟨.mk 7 0 [] [] [K],p1+1,u1,j1,?_,Th.one (by simp[Pn.thin,Pn.iA,hK]) hKB,by omega,by omega,by omega,by omega,by omega,by simp[cB,Pn.scan],by simp[cB,Pn.scan]⟩;rw[eB Tryz.func129 rfl rfl];simp[PSt,ht,hv,v0,we,hkid,hW,hkk,wn,hq,rX,rS,bl,Pn.cells,Ex.aB,aG,Pn.aB,Pn.aA K]
theorem VU {l:List UInt8} (hl:l.length≤2000) {ws:List Int} {k:Nat} {d j c2:Nat} {p u t v W kk p1 u1:Int} {j1:Nat} {K:Pn} (H:PlH l ws k d j c2 p u t v W kk p1 u1 j1 K) (hj:j1=0) (hq:kk=5):RtC l ws k d j c2 p u p1 j1:=by
 obtain⟨hd,h1,hp1,hu0,hu1,hW0,hW6,hKB,ht,hv,v0,hkid,hW,hkk⟩:=H;have we:IntKind.i64.wrap (d:Int)=d:=wrO;have hK:=hKB.1;have wn:¬ ((d:Int)+1=0):=by omega
 simp only[PSt]at hkid;rw[Pn.aA K]at hkid hW;obtain⟨e,p2,he,a1,a2,a3⟩:=aQ l hl W (p1+1) (by omega) (by omega);have hf:=eF e K;rw[Pn.aA K,Ex.aA e]at hf;rw[Ex.aA e]at he;refine⟨cB e K,p2,u1,j1,?_,Th.one (dA (by omega) hK) hKB,by omega,by omega,by omega,by omega,by omega,by simp[cB,Pn.scan],by simp[cB,Pn.scan]⟩;rw[eB Tryz.func129 rfl rfl];simp[PSt,ht,hv,v0,we,hkid,hW,hkk,wn,hq,rX,rS,bl,he,hf,cB,Ex.aB,aG,Pn.aB,Pn.aA K,Ex.aA e,hj]
theorem AFA {l:List UInt8} (hl:l.length≤2000) {ws:List Int} {k:Nat} {d j c2:Nat} {p u t v W kk p1 u1:Int} {j1:Nat} {K:Pn} (H:PlH l ws k d j c2 p u t v W kk p1 u1 j1 K) (hj:j1≠0) (hw4:¬ W≤4) (hq:kk=5):RtC l ws k d j c2 p u p1 j1:=by
 obtain⟨hd,h1,hp1,hu0,hu1,hW0,hW6,hKB,ht,hv,v0,hkid,hW,hkk⟩:=H;have we:IntKind.i64.wrap (d:Int)=d:=wrO;have hK:=hKB.1;have wn:¬ ((d:Int)+1=0):=by omega
 simp only[PSt]at hkid;rw[Pn.aA K]at hkid hW;have hj':0<j1:=by omega
 obtain⟨e,p2,he,a1,a2,a3⟩:=aQ l hl W (p1+1) (by omega) (by omega);have hf:=eF e K;rw[Pn.aA K,Ex.aA e]at hf;rw[Ex.aA e]at he;refine⟨cB e K,p2,u1,j1,?_,Th.one (dA (by omega) hK) hKB,by omega,by omega,by omega,by omega,by omega,by simp[cB,Pn.scan],by simp[cB,Pn.scan]⟩;rw[eB Tryz.func129 rfl rfl];simp[PSt,ht,hv,v0,we,hkid,hW,hkk,wn,hq,rX,rS,bl,he,hf,cB,Ex.aB,aG,Pn.aB,Pn.aA K,Ex.aA e,hj',hj,hw4]
theorem VT {l:List UInt8} (hl:l.length≤2000) {ws:List Int} {k:Nat} {d j c2:Nat} {p u t v W kk p1 u1:Int} {j1:Nat} {K:Pn} (H:PlH l ws k d j c2 p u t v W kk p1 u1 j1 K) (hj:j1=0) (hq:kk=6):RtC l ws k d j c2 p u p1 j1:=by
 obtain⟨hd,h1,hp1,hu0,hu1,hW0,hW6,hKB,ht,hv,v0,hkid,hW,hkk⟩:=H;have we:IntKind.i64.wrap (d:Int)=d:=wrO;have hK:=hKB.1;have wn:¬ ((d:Int)+1=0):=by omega
 simp only[PSt]at hkid;rw[Pn.aA K]at hkid hW;obtain⟨e,p2,he,a1,a2,a3⟩:=aQ l hl W (p1+1) (by omega) (by omega);have hf:=eF e K;rw[Pn.aA K,Ex.aA e]at hf;rw[Ex.aA e]at he;refine⟨cB e K,p2,u1,j1,?_,Th.one (dA (by omega) hK) hKB,by omega,by omega,by omega,by omega,by omega,by simp[cB,Pn.scan],by simp[cB,Pn.scan]⟩;rw[eB Tryz.func129 rfl rfl];simp[PSt,ht,hv,v0,we,hkid,hW,hkk,wn,hq,rX,rS,bl,he,hf,cB,Ex.aB,aG,Pn.aB,Pn.aA K,Ex.aA e,hj]
theorem AF9 {l:List UInt8} (hl:l.length≤2000) {ws:List Int} {k:Nat} {d j c2:Nat} {p u t v W kk p1 u1:Int} {j1:Nat} {K:Pn} (H:PlH l ws k d j c2 p u t v W kk p1 u1 j1 K) (hj:j1≠0) (hw4:¬ W≤4) (hq:kk=6):RtC l ws k d j c2 p u p1 j1:=by
 obtain⟨hd,h1,hp1,hu0,hu1,hW0,hW6,hKB,ht,hv,v0,hkid,hW,hkk⟩:=H;have we:IntKind.i64.wrap (d:Int)=d:=wrO;have hK:=hKB.1;have wn:¬ ((d:Int)+1=0):=by omega
 simp only[PSt]at hkid;rw[Pn.aA K]at hkid hW;have hj':0<j1:=by omega
 obtain⟨e,p2,he,a1,a2,a3⟩:=aQ l hl W (p1+1) (by omega) (by omega);have hf:=eF e K;rw[Pn.aA K,Ex.aA e]at hf;rw[Ex.aA e]at he;refine⟨cB e K,p2,u1,j1,?_,Th.one (dA (by omega) hK) hKB,by omega,by omega,by omega,by omega,by omega,by simp[cB,Pn.scan],by simp[cB,Pn.scan]⟩;rw[eB Tryz.func129 rfl rfl];simp[PSt,ht,hv,v0,we,hkid,hW,hkk,wn,hq,rX,rS,bl,he,hf,cB,Ex.aB,aG,Pn.aB,Pn.aA K,Ex.aA e,hj',hj,hw4]
theorem VS {l:List UInt8} (hl:l.length≤2000) {ws:List Int} {k:Nat} {d j c2:Nat} {p u t v W kk p1 u1:Int} {j1:Nat} {K:Pn} (H:PlH l ws k d j c2 p u t v W kk p1 u1 j1 K) (hu:¬ 0<u1) (hq:kk=7):RtC l ws k d j c2 p u p1 j1:=by
 obtain⟨hd,h1,hp1,hu0,hu1,hW0,hW6,hKB,ht,hv,v0,hkid,hW,hkk⟩:=H;have we:IntKind.i64.wrap (d:Int)=d:=wrO;have hK:=hKB.1;have wn:¬ ((d:Int)+1=0):=by omega
 simp only[PSt]at hkid;rw[Pn.aA K]at hkid hW;obtain⟨e,p2,he,a1,a2,a3⟩:=aQ l hl W (p1+1) (by omega) (by omega);have hf:=eF e K;rw[Pn.aA K,Ex.aA e]at hf;rw[Ex.aA e]at he;refine⟨cB e K,p2,u1,j1,?_,Th.one (dA (by omega) hK) hKB,by omega,by omega,by omega,by omega,by omega,by simp[cB,Pn.scan],by simp[cB,Pn.scan]⟩;rw[eB Tryz.func129 rfl rfl];simp[PSt,ht,hv,v0,we,hkid,hW,hkk,wn,hq,rX,rS,bl,he,hf,cB,Ex.aB,aG,Pn.aB,Pn.aA K,Ex.aA e,hu]
theorem AFB {l:List UInt8} (hl:l.length≤2000) {ws:List Int} {k:Nat} {d j c2:Nat} {p u t v W kk p1 u1:Int} {j1:Nat} {K:Pn} (H:PlH l ws k d j c2 p u t v W kk p1 u1 j1 K) (hu:0<u1) (hq:kk=7):RtC l ws k d j c2 p u p1 j1:=by
 obtain⟨hd,h1,hp1,hu0,hu1,hW0,hW6,hKB,ht,hv,v0,hkid,hW,hkk⟩:=H;have we:IntKind.i64.wrap (d:Int)=d:=wrO;have hK:=hKB.1;have wn:¬ ((d:Int)+1=0):=by omega
 simp only[PSt]at hkid;rw[Pn.aA K]at hkid hW;obtain⟨e,p2,he,a1,a2,a3⟩:=aQ l hl W (p1+1) (by omega) (by omega);have hf:=eF e K;have hc:=MZ K hK;have wu:IntKind.i64.wrap (u1-1)=u1-1:=wrO;rw[Pn.aA K,Ex.aA e]at hf;rw[Pn.aA K]at hc;rw[Ex.aA e]at he;refine⟨.mk 6 0 [] [] [K,cB e K],p2,u1-1,j1,?_,Th.un (by have:=dA (e:=e) (by omega) hK;unfold cB at this;simp[Pn.thin,Pn.iA,hK]at this ⊢;exact this) hKB,by omega,by omega,by omega,by omega,by omega,by simp[cB,Pn.scan],by simp[cB,Pn.scan]⟩;rw[eB Tryz.func129 rfl rfl];simp[PSt,ht,hv,v0,we,hkid,hW,hkk,wn,hq,rX,rS,bl,he,hf,cB,Ex.aB,aG,Pn.aB,Pn.aA K,Ex.aA e,hu,hc,wu,Pn.bJ,Ex.aB,aG,Pn.aB]
theorem AA3 {l:List UInt8} (hl:l.length≤2000) {ws:List Int} {k:Nat} {d j c2:Nat} {p u t v W kk p1 u1:Int} {j1:Nat} {K:Pn} (H:PlH l ws k d j c2 p u t v W kk p1 u1 j1 K) (hw1:¬ 1<W) (hq:kk=9):RtC l ws k d j c2 p u p1 j1:=by
 obtain⟨hd,h1,hp1,hu0,hu1,hW0,hW6,hKB,ht,hv,v0,hkid,hW,hkk⟩:=H;have we:IntKind.i64.wrap (d:Int)=d:=wrO;have hK:=hKB.1;have wn:¬ ((d:Int)+1=0):=by omega
 simp only[PSt]at hkid;rw[Pn.aA K]at hkid hW;refine⟨.mk 8 0 [] [] [K],p1+1,u1,j1,?_,Th.one (by simp[Pn.thin,Pn.iA,hK]) hKB,by omega,by omega,by omega,by omega,by omega,by simp[cB,Pn.scan],by simp[cB,Pn.scan]⟩;rw[eB Tryz.func129 rfl rfl];simp[PSt,ht,hv,v0,we,hkid,hW,hkk,wn,hq,rX,rS,bl,hw1,Pn.bJ,Ex.aB,aG,Pn.aB,Pn.aA K]
theorem AA2 {l:List UInt8} (hl:l.length≤2000) {ws:List Int} {k:Nat} {d j c2:Nat} {p u t v W kk p1 u1:Int} {j1:Nat} {K:Pn} (H:PlH l ws k d j c2 p u t v W kk p1 u1 j1 K) (hw1:1<W) (hq:kk=9):RtC l ws k d j c2 p u p1 j1:=by
 obtain⟨hd,h1,hp1,hu0,hu1,hW0,hW6,hKB,ht,hv,v0,hkid,hW,hkk⟩:=H;have we:IntKind.i64.wrap (d:Int)=d:=wrO;have hK:=hKB.1;have wn:¬ ((d:Int)+1=0):=by omega
 simp only[PSt]at hkid;rw[Pn.aA K]at hkid hW;obtain⟨g,hg,-,-⟩:=bE l (p1+1) W (by omega) (by omega) hl;refine⟨.mk 8 0 [] [g] [K],p1+1+1,u1,j1,?_,Th.one (by simp[Pn.thin,Pn.iA,hK]) hKB,by omega,by omega,by omega,by omega,by omega,by simp[cB,Pn.scan],by simp[cB,Pn.scan]⟩;rw[eB Tryz.func129 rfl rfl];simp[PSt,ht,hv,v0,we,hkid,hW,hkk,wn,hq,rX,rS,bl,hg,hw1,Pn.bJ,Ex.aB,aG,Pn.aB,Pn.aA K]
theorem AFF {l:List UInt8} (hl:l.length≤2000) {ws:List Int} (hw:∀ w∈ws,0≤w∧w≤6) (hwl:ws.length<1000000) {k:Nat} (hk0:0<k) (hkl:k≤ws.length) {d j c2:Nat} {p u t v W kk p1 u1:Int} {j1:Nat} {K:Pn} (H:PlH l ws k d j c2 p u t v W kk p1 u1 j1 K) (hj:j1≠0) (hjb:j1<1000) (hw4:W≤4) (hoth:∀ y:Nat,y≤1→pV l ws k y (j1-1) c2) (hq:kk=5):RtC l ws k d j c2 p u p1 j1:=by
 obtain⟨hd,h1,hp1,hu0,hu1,hW0,hW6,hKB,ht,hv,v0,hkid,hW,hkk⟩:=H;have we:IntKind.i64.wrap (d:Int)=d:=wrO;have hK:=hKB.1;have wn:¬ ((d:Int)+1=0):=by omega
 simp only[PSt]at hkid;rw[Pn.aA K]at hkid hW;have hj':0<j1:=by omega
 have wj:IntKind.i64.wrap ((j1:Int)-1)=((j1-1:Nat):Int):=by rw[wrO];omega
 obtain⟨x,hx,hx1,-⟩:=bE l (p1+1) 2 (by omega) (by omega) hl;obtain⟨x0,x1⟩:=hx1 (by omega)
 obtain⟨y,rfl⟩:∃ y:Nat,x=y:=⟨x.toNat,by omega⟩
 obtain⟨O,p2,u2,j2,hO,hOt,b1,b2,b3,b4,b5⟩:=hoth y (by omega) (p1+1+1) u1 (by omega) (by omega) hu0 hu1;have hV:=iT hw hwl hk0 hkl O hOt.1;have hVr:=Pn.kJ (ws:=ws.take k) (fun w hm=>hw w (zI hm)) O 8;generalize O.wd (ws.take k) 8=V at hV hVr;have wv:IntKind.i64.wrap (W+V)=W+V:=wrO;simp only[PSt]at hO;rw[Pn.aA O]at hO hV;by_cases hs:W+V≤6
 ·have h1:=qM l p2 (by omega) (by omega) hl [[.int 4],[.int 5]] (by simp) (by simp) (by simp);obtain⟨z,hz,hzm⟩:=h1;obtain⟨e,p3,he,a1,a2,a3⟩:=aQ l hl (W+V) (p2+1) (by omega) (by omega);rw[Ex.aA e]at he;simp only[zM,yE,zB,Nat.reduceAdd]at hz;have het:=Ex.bP e (by omega);refine⟨.mk z 0 [e] [] [K,O],p3,u2,j2,?_,Th.jn (by simp[Pn.thin,Pn.iA,hK,hOt.1,het]) hj hKB hOt,by omega,by omega,by omega,by omega,by omega,by simp[cB,Pn.scan],by simp[cB,Pn.scan]⟩;rw[eB Tryz.func129 rfl rfl];simp[PSt,ht,hv,v0,we,hkid,hW,hkk,wn,hq,hj',hj,hw4,wj,hx,hO,hV,wv,hs,hz,he,rX,rS,bl,Pn.bJ,Ex.aB,aG,Pn.aB,Pn.aA K,Pn.aA O,Ex.aA e]
 ·obtain⟨e,p3,he,a1,a2,a3⟩:=aQ l hl W p2 (by omega) (by omega);have hf:=eF e K;rw[Pn.aA K,Ex.aA e]at hf;rw[Ex.aA e]at he;refine⟨cB e K,p3,u2,j2,?_,Th.skip (dA (by omega) hK) hKB (by omega) hOt.2.1.2.1,by omega,by omega,by omega,by omega,by omega,by simp[cB,Pn.scan],by simp[cB,Pn.scan]⟩;rw[eB Tryz.func129 rfl rfl];simp[PSt,ht,hv,v0,we,hkid,hW,hkk,wn,hq,hj',hj,hw4,wj,hx,hO,hV,wv,hs,rX,rS,bl,he,hf,cB,Ex.aB,aG,Pn.aB,Pn.aA K,Ex.aA e]
theorem AFE {l:List UInt8} (hl:l.length≤2000) {ws:List Int} (hw:∀ w∈ws,0≤w∧w≤6) (hwl:ws.length<1000000) {k:Nat} (hk0:0<k) (hkl:k≤ws.length) {d j c2:Nat} {p u t v W kk p1 u1:Int} {j1:Nat} {K:Pn} (H:PlH l ws k d j c2 p u t v W kk p1 u1 j1 K) (hj:j1≠0) (hjb:j1<1000) (hw4:W≤4) (hoth:∀ y:Nat,y≤1→pV l ws k y (j1-1) c2) (hq:kk=6):RtC l ws k d j c2 p u p1 j1:=by
 obtain⟨hd,h1,hp1,hu0,hu1,hW0,hW6,hKB,ht,hv,v0,hkid,hW,hkk⟩:=H;have we:IntKind.i64.wrap (d:Int)=d:=wrO;have hK:=hKB.1;have wn:¬ ((d:Int)+1=0):=by omega
 simp only[PSt]at hkid;rw[Pn.aA K]at hkid hW;have hj':0<j1:=by omega
 have wj:IntKind.i64.wrap ((j1:Int)-1)=((j1-1:Nat):Int):=by rw[wrO];omega
 obtain⟨x,hx,hx1,-⟩:=bE l (p1+1) 2 (by omega) (by omega) hl;obtain⟨x0,x1⟩:=hx1 (by omega)
 obtain⟨y,rfl⟩:∃ y:Nat,x=y:=⟨x.toNat,by omega⟩
 obtain⟨O,p2,u2,j2,hO,hOt,b1,b2,b3,b4,b5⟩:=hoth y (by omega) (p1+1+1) u1 (by omega) (by omega) hu0 hu1;have hV:=iT hw hwl hk0 hkl O hOt.1;have hVr:=Pn.kJ (ws:=ws.take k) (fun w hm=>hw w (zI hm)) O 8;generalize O.wd (ws.take k) 8=V at hV hVr;have wv:IntKind.i64.wrap (W+V)=W+V:=wrO;simp only[PSt]at hO;rw[Pn.aA O]at hO hV;by_cases hs:W+V≤6
 ·have h1:=qM l p2 (by omega) (by omega) hl [[.int 4],[.int 5]] (by simp) (by simp) (by simp);obtain⟨z,hz,hzm⟩:=h1;obtain⟨e,p3,he,a1,a2,a3⟩:=aQ l hl (W+V) (p2+1) (by omega) (by omega);rw[Ex.aA e]at he;simp only[zM,yE,zB,Nat.reduceAdd]at hz;have het:=Ex.bP e (by omega);refine⟨.mk z 0 [e] [] [K,O],p3,u2,j2,?_,Th.jn (by simp[Pn.thin,Pn.iA,hK,hOt.1,het]) hj hKB hOt,by omega,by omega,by omega,by omega,by omega,by simp[cB,Pn.scan],by simp[cB,Pn.scan]⟩;rw[eB Tryz.func129 rfl rfl];simp[PSt,ht,hv,v0,we,hkid,hW,hkk,wn,hq,hj',hj,hw4,wj,hx,hO,hV,wv,hs,hz,he,rX,rS,bl,Pn.bJ,Ex.aB,aG,Pn.aB,Pn.aA K,Pn.aA O,Ex.aA e]
 ·obtain⟨e,p3,he,a1,a2,a3⟩:=aQ l hl W p2 (by omega) (by omega);have hf:=eF e K;rw[Pn.aA K,Ex.aA e]at hf;rw[Ex.aA e]at he;refine⟨cB e K,p3,u2,j2,?_,Th.skip (dA (by omega) hK) hKB (by omega) hOt.2.1.2.1,by omega,by omega,by omega,by omega,by omega,by simp[cB,Pn.scan],by simp[cB,Pn.scan]⟩;rw[eB Tryz.func129 rfl rfl];simp[PSt,ht,hv,v0,we,hkid,hW,hkk,wn,hq,hj',hj,hw4,wj,hx,hO,hV,wv,hs,rX,rS,bl,he,hf,cB,Ex.aB,aG,Pn.aB,Pn.aA K,Ex.aA e]
theorem AFD {l:List UInt8} (hl:l.length≤2000) {ws:List Int} {k:Nat} {d j c2:Nat} {p u t v W kk p1 u1:Int} {j1:Nat} {K:Pn} (H:PlH l ws k d j c2 p u t v W kk p1 u1 j1 K) (hq:kk=3):RtC l ws k d j c2 p u p1 j1:=by
 obtain⟨hd,h1,hp1,hu0,hu1,hW0,hW6,hKB,ht,hv,v0,hkid,hW,hkk⟩:=H;have we:IntKind.i64.wrap (d:Int)=d:=wrO;have hK:=hKB.1;have wn:¬ ((d:Int)+1=0):=by omega
 simp only[PSt]at hkid;rw[Pn.aA K]at hkid hW;obtain⟨m,hm,hm1,-⟩:=bE l (p1+1) 2 (by omega) (by omega) hl;obtain⟨m0,m1⟩:=hm1 (by omega);have w2:IntKind.i64.wrap (2:Int)=2:=wrO;have w1:=bB;have w0:IntKind.i64.wrap (0:Int)=0:=wrO;obtain⟨x1,hx1,hy1,-⟩:=bE l (p1+1+1) 2 (by omega) (by omega) hl;obtain⟨x1a,x1b⟩:=hy1 (by omega)
 obtain⟨y1,rfl⟩:∃ y:Nat,x1=y:=⟨x1.toNat,by omega⟩
 have hc1:l6 y1≤9:=by rcases(show y1=0∨y1=1 by omega)with h|h<;>simp[h,l6]
 obtain⟨e1,q1,he1,c1a,c1b,c1c⟩:=rE l hl W y1 (by omega) (by omega) ((p1+1+1)+1) (by omega) (by omega);rw[Ex.aA e1]at he1;have t1:=Ex.bP e1 (by omega)
 rcases(show m=0∨m=1 by omega)with rfl|rfl
 ·refine⟨.mk 3 0 [e1] [] [K],q1,u1,j1,?_,Th.one (by simp[Pn.thin,Pn.iA,hK,t1]) hKB,by omega,by omega,by omega,by omega,by omega,by simp[cB,Pn.scan],by simp[cB,Pn.scan]⟩;rw[eB Tryz.func129 rfl rfl];simp[PSt,ht,hv,v0,we,hkid,hW,hkk,wn,hq,hm,w1];rw[aF];simp[hx1,he1,w0];rw[aF];simp[rX,rS,bl,Pn.bJ,Ex.aB,aG,Pn.aB,Pn.aA K,Ex.aA e1,PSt]
 ·obtain⟨x2,hx2,hy2,-⟩:=bE l q1 2 (by omega) (by omega) hl;obtain⟨x2a,x2b⟩:=hy2 (by omega)
  obtain⟨y2,rfl⟩:∃ y:Nat,x2=y:=⟨x2.toNat,by omega⟩
  have hc2:l6 y2≤9:=by rcases(show y2=0∨y2=1 by omega)with h|h<;>simp[h,l6]
  obtain⟨e2,q2,he2,c2a,c2b,c2c⟩:=rE l hl W y2 (by omega) (by omega) (q1+1) (by omega) (by omega);rw[Ex.aA e2]at he2;have t2:=Ex.bP e2 (by omega);refine⟨.mk 3 0 [e1,e2] [] [K],q2,u1,j1,?_,Th.one (by simp[Pn.thin,Pn.iA,hK,t1,t2]) hKB,by omega,by omega,by omega,by omega,by omega,by simp[cB,Pn.scan],by simp[cB,Pn.scan]⟩;rw[eB Tryz.func129 rfl rfl];simp[PSt,ht,hv,v0,we,hkid,hW,hkk,wn,hq,hm,w2];rw[aF];simp[hx1,he1,w1];rw[aF];simp[hx2,he2,w0];rw[aF];simp[rX,rS,bl,Pn.bJ,Ex.aB,aG,Pn.aB,Pn.aA K,Ex.aA e1,Ex.aA e2,PSt]
theorem AFC {l:List UInt8} (hl:l.length≤2000) {ws:List Int} {k:Nat} {d j c2:Nat} {p u t v W kk p1 u1:Int} {j1:Nat} {K:Pn} (H:PlH l ws k d j c2 p u t v W kk p1 u1 j1 K) (hq:kk=4):RtC l ws k d j c2 p u p1 j1:=by
 obtain⟨hd,h1,hp1,hu0,hu1,hW0,hW6,hKB,ht,hv,v0,hkid,hW,hkk⟩:=H;have we:IntKind.i64.wrap (d:Int)=d:=wrO;have hK:=hKB.1;have wn:¬ ((d:Int)+1=0):=by omega
 simp only[PSt]at hkid;rw[Pn.aA K]at hkid hW;obtain⟨m,hm,hm1,-⟩:=bE l (p1+1) 2 (by omega) (by omega) hl;obtain⟨m0,m1⟩:=hm1 (by omega);have w2:IntKind.i64.wrap (2:Int)=2:=wrO;have w1:=bB;have w0:IntKind.i64.wrap (0:Int)=0:=wrO;obtain⟨x1,hx1,hy1,-⟩:=bE l (p1+1+1) 2 (by omega) (by omega) hl;obtain⟨x1a,x1b⟩:=hy1 (by omega)
 obtain⟨y1,rfl⟩:∃ y:Nat,x1=y:=⟨x1.toNat,by omega⟩
 have hc1:l6 y1≤9:=by rcases(show y1=0∨y1=1 by omega)with h|h<;>simp[h,l6]
 obtain⟨e1,q1,he1,c1a,c1b,c1c⟩:=rE l hl W y1 (by omega) (by omega) ((p1+1+1)+1) (by omega) (by omega);rw[Ex.aA e1]at he1;have t1:=Ex.bP e1 (by omega)
 rcases(show m=0∨m=1 by omega)with rfl|rfl
 ·refine⟨.mk 3 0 [e1] [] [K],q1,u1,j1,?_,Th.one (by simp[Pn.thin,Pn.iA,hK,t1]) hKB,by omega,by omega,by omega,by omega,by omega,by simp[cB,Pn.scan],by simp[cB,Pn.scan]⟩;rw[eB Tryz.func129 rfl rfl];simp[PSt,ht,hv,v0,we,hkid,hW,hkk,wn,hq,hm,w1];rw[aF];simp[hx1,he1,w0];rw[aF];simp[rX,rS,bl,Pn.bJ,Ex.aB,aG,Pn.aB,Pn.aA K,Ex.aA e1,PSt]
 ·obtain⟨x2,hx2,hy2,-⟩:=bE l q1 2 (by omega) (by omega) hl;obtain⟨x2a,x2b⟩:=hy2 (by omega)
  obtain⟨y2,rfl⟩:∃ y:Nat,x2=y:=⟨x2.toNat,by omega⟩
  have hc2:l6 y2≤9:=by rcases(show y2=0∨y2=1 by omega)with h|h<;>simp[h,l6]
  obtain⟨e2,q2,he2,c2a,c2b,c2c⟩:=rE l hl W y2 (by omega) (by omega) (q1+1) (by omega) (by omega);rw[Ex.aA e2]at he2;have t2:=Ex.bP e2 (by omega);refine⟨.mk 3 0 [e1,e2] [] [K],q2,u1,j1,?_,Th.one (by simp[Pn.thin,Pn.iA,hK,t1,t2]) hKB,by omega,by omega,by omega,by omega,by omega,by simp[cB,Pn.scan],by simp[cB,Pn.scan]⟩;rw[eB Tryz.func129 rfl rfl];simp[PSt,ht,hv,v0,we,hkid,hW,hkk,wn,hq,hm,w2];rw[aF];simp[hx1,he1,w1];rw[aF];simp[hx2,he2,w0];rw[aF];simp[rX,rS,bl,Pn.bJ,Ex.aB,aG,Pn.aB,Pn.aA K,Ex.aA e1,Ex.aA e2,PSt]
theorem AJ1 {l:List UInt8} (hl:l.length≤2000) {ws:List Int} (hw:∀ w∈ws,0≤w∧w≤6) (hwl:ws.length<1000000) {k:Nat} (hk0:0<k) (hkl:k≤ws.length) {d j c c2:Nat} (hd:d<100) (hjb:j<1000) (ih:pV l ws k d j c) (hoth:∀ i:Nat,i<j→∀ y:Nat,y≤1→pV l ws k y i c2):ZC l ws k (d+1) j (c+c2+500):=by
 intro p u h0 h1 hu0 hu1;obtain⟨t,ht,-,-⟩:=bE l p k h0 (by omega) hl;obtain⟨v,hv,-,-⟩:=bE l (p+1) 6 (by omega) (by omega) hl;by_cases v0:v=0
 ·subst v0;exact⟨.scan t,p+1+1,u,j,AJ2 hd ht hv,Th.scan (Pn.KD t) _ _,by omega,by omega,by omega,by omega,by omega,by simp[Pn.scan],by simp[Pn.scan]⟩
 obtain⟨K,p1,u1,j1,hkid,hK,a1,a2,a3,a4,a5⟩:=ih (p+1+1) u (by omega) (by omega) hu0 hu1;have hW:=iT hw hwl hk0 hkl K hK.1;have hWr:=Pn.kJ (ws:=ws.take k) (fun w hm=>hw w (zI hm)) K 8;generalize K.wd (ws.take k) 8=W at hW hWr;obtain⟨kk,hkk,hkk1,-⟩:=bE l p1 10 (by omega) (by omega) hl;obtain⟨kk0,kk9⟩:=hkk1 (by omega)
 suffices H:∃ (P:Pn) (p' u':Int) (j':Nat),qA CQ true 129 [.own 0 0, .int ((d+1:Nat):Int)] (PSt l ws k j u p)=some (rX 3 P,PSt l ws k j' u' p'++rS P)∧Th P j j' u u'∧p1≤p'∧p'≤p1+400+c2∧j'≤j1∧0≤u'∧u'≤1∧P.exprs.length≤2∧P.cols.length≤1 by
  obtain⟨P,p',u',j',b1,b2,b3,b4,b5,b6,b7,b8⟩:=H;exact⟨P,p',u',j',b1,b2,by omega,by omega,by omega,b6,b7,b8⟩
 have hb:p1+400+c2<300000000:=by omega
 have hp1:0≤p1:=by omega
 have H:PlH _ _ _ _ _ _ _ _ _ _ _ _ _ _ _ _:=⟨hd,hb,hp1,a4,a5,hWr.1,hWr.2,hK,ht,hv,v0,hkid,hW,hkk⟩
 by_cases q0:kk=0
 ·exact VY hl H q0
 by_cases q1:kk=1
 ·exact VW hl H q1
 by_cases q2:kk=2
 ·exact VV hl H q2
 by_cases q3:kk=3
 ·exact AFD hl H q3
 by_cases q4:kk=4
 ·exact AFC hl H q4
 by_cases q5:kk=5
 ·by_cases hj:j1=0
  ·exact VU hl H hj q5
  by_cases hw4:W≤4
  ·exact AFF hl hw hwl hk0 hkl H hj (by omega) hw4 (fun y hy=>hoth (j1-1) (by omega) y hy) q5
  ·exact AFA hl H hj hw4 q5
 by_cases q6:kk=6
 ·by_cases hj:j1=0
  ·exact VT hl H hj q6
  by_cases hw4:W≤4
  ·exact AFE hl hw hwl hk0 hkl H hj (by omega) hw4 (fun y hy=>hoth (j1-1) (by omega) y hy) q6
  ·exact AF9 hl H hj hw4 q6
 by_cases q7:kk=7
 ·by_cases hu:0<u1
  ·exact AFB hl H hu q7
  ·exact VS hl H hu q7
 by_cases q8:kk=8
 ·exact RP hl H q8
 have q9:kk=9:=by omega
 by_cases hw1:1<W
 ·exact AA2 hl H hw1 q9
 ·exact AA3 hl H hw1 q9
theorem ZC.le {l:List UInt8} {ws:List Int} {k:Nat} {d j c c':Nat} (h:ZC l ws k d j c) (hc:c≤c'):ZC l ws k d j c':=by
 intro p u h0 h1 hu0 hu1;obtain⟨P,p',u',j',b1,b2,b3,b4,b5,b6,b7,b8⟩:=h p u h0 (by omega) hu0 hu1;exact⟨P,p',u',j',b1,b2,b3,by omega,b5,b6,b7,b8⟩
theorem AOL {l:List UInt8} (hl:l.length≤2000) {ws:List Int} (hw:∀ w∈ws,0≤w∧w≤6) (hwl:ws.length<1000000) {k:Nat} (hk0:0<k) (hkl:k≤ws.length) (d:Nat) (h:d+1<50):ZC l ws k (d+1) 1 (2000*(d+1)+1) :=
 (AJ1 hl hw hwl hk0 hkl (c2:=501) (by omega) (by omega) (ACI hl hw hwl hk0 hkl d (by omega)) (fun i hi y hy=>by
  obtain rfl:i=0:=by omega
  exact(KT hl hw hwl hk0 hkl y (by omega)).le (by omega))).le (by omega)
@[simp] theorem AdN (a:List AV) (st:StL):aH CR 129 a st=qA CQ true 129 a st:=by rw[aN (p:=qA CQ true 129) rfl]
@[simp] theorem AVR (a:List AV) (st:StL):aH CR 130 a st=qA C0 true 130 a st:=by rw[aN (p:=qA C0 true 130) rfl]
@[simp] theorem ASH (a:List AV) (st:StL):aH CR 45 a st=AFY (aH C0) 45 a st:=by rw[aN (p:=AFY (aH C0) 45) rfl]
@[simp] theorem AdO (a:List AV) (st:StL):aH CR 40 a st=aH C0 40 a st:=by rw[aN (p:=aH C0 40) rfl]
@[simp] theorem AeY (a:List AV) (st:StL):aH CR 81 a st=aH C0 81 a st:=by rw[aN (p:=aH C0 81) rfl]
@[simp] theorem AdP (a:List AV) (st:StL):aH CR 131 a st=aH C0 131 a st:=by rw[aN (p:=aH C0 131) rfl]
@[simp] theorem AXL (a:List AV) (st:StL):aH CR 82 a st=aH C0 82 a st:=by rw[aN (p:=aH C0 82) rfl]
theorem dI {α:Type} (l:List α):l=[]∨(l.length≠0∧l≠[]∧0<l.length):=by cases l<;>simp
theorem KP {l:List UInt8} (hl:l.length≤2000) {ws:List Int} (hw:∀ w∈ws,0≤w∧w≤6) (hwl:ws.length<1000000) (hk0:0<ws.length) (p:Int) (h0:0≤p) (h1:p+20000<200000000):∃ (P:Pn) (p':Int),
 aH CR 80 [.own 0 0, .osl 1 1 0 ws.length] [Rd l p,some (.arr 1 (aG ws))]=some (rX 2 P,[Rd l p',some (.arr 1 (aG ws))]++rS P)∧Rt P∧p≤p'∧p'≤p+20000∧P.exprs.length≤2∧P.cols.length≤1:=by
 obtain⟨v,hv,hv1,-⟩:=bE l p 4 h0 (by omega) hl;obtain⟨v0,v1⟩:=hv1 (by omega)
 obtain⟨y,rfl⟩:∃ y:Nat,v=y:=⟨v.toNat,by omega⟩
 have w1:IntKind.i64.wrap (1+(y:Int))=((y+1:Nat):Int):=by rw[wrO];omega
 obtain⟨P,p1,u',j',hP,hPt,b1,b2,b3,b4,b5,b6,b7⟩:=AOL hl hw hwl hk0 (zJ _) y (by omega) (p+1) 1 (by omega) (by omega) (by omega) (by omega);simp only[PSt,Int.natCast_one,y7]at hP;obtain⟨z,hz,-,-⟩:=bE l p1 2 (by omega) (by omega) hl;have te:P.exprs.take P.exprs.length=P.exprs:=zZ (by simp);have tc:P.cols.take P.cols.length=P.cols:=zZ (by simp);have tk:P.kids.take P.kids.length=P.kids:=zZ (by simp);by_cases hz0:z=0
 ·have hW:=nW hw (by omega) P (Pn.wP P hPt.1) 8 (by omega);have twd:ws.take ws.length=ws:=zZ (by simp);obtain⟨e,p2,he,a1,a2,a3⟩:=aQ l hl (P.wd ws 8) (p1+1) (by omega) (by omega);have hf:=eF e P;refine⟨cB e P,p2,?_,Rt.one (ALC a3 hPt.1) (hPt.rt b4),by omega,by omega,by simp[cB],by simp[cB]⟩;rw[aD rfl Tryz.func80 rfl rfl];rw[Pn.aA P,Ex.aA e]at hf;rw[Ex.aA e]at he;rw[Pn.aA P]at hW
  rcases dI P.exprs with ce|⟨ce,ce',ce''⟩<;>rcases dI P.cols with cc|⟨cc,cc',cc''⟩<;>rcases dI P.kids with ck|⟨ck,ck',ck''⟩ <;>
   (simp[rX,rS,bl, *,aL,aI,Ex.aB,aG,Pn.aB]at hP hW hf
    simp[hv,w1,hP,hz,hz0,hW,he,hf,rX,rS,bl,cB,AFY,D5,ZK,JN,ZL,UU,pO, *,Ex.aB,aG,Pn.aB,Pn.aA P,Ex.aA e])
 ·refine⟨P,p1+1,?_,hPt.rt b4,by omega,by omega,b6,b7⟩;rw[aD rfl Tryz.func80 rfl rfl]
  rcases dI P.exprs with ce|⟨ce,ce',ce''⟩<;>rcases dI P.cols with cc|⟨cc,cc',cc''⟩<;>rcases dI P.kids with ck|⟨ck,ck',ck''⟩ <;>
   (simp[rX,rS,bl, *,aL,aI,Ex.aB,aG,Pn.aB]at hP
    simp[hv,w1,hP,hz,hz0,rX,rS,bl, *,aL,aI])
theorem IY (l:List UInt8) (hl:l.length≤2000) (p:Int) (h0:0≤p) (h1:p<900000000):∃ (a b:Int) (r:List Int) (p':Int),aH C0 37 [.own 0 0] [Rd l p]=some (.osl 1 1 0 (r.length+2),[Rd l p',some (.arr 1 (aG (a::b::r)))])∧p≤p'∧p'≤p+4∧1≤a∧a≤2∧1≤b∧b≤2∧r.length≤1∧∀ w∈r,1≤w∧w≤2:=by
 obtain⟨n,hn,hn1,-⟩:=bE l p 2 h0 (by omega) hl;obtain⟨a,ha,ha1,-⟩:=bE l (p+1) 2 (by omega) (by omega) hl;obtain⟨b,hb,hb1,-⟩:=bE l (p+1+1) 2 (by omega) (by omega) hl;have wa:IntKind.i64.wrap (1+a)=1+a:=wrO;have wb:IntKind.i64.wrap (1+b)=1+b:=wrO;have w2:IntKind.i64.wrap (2:Int)=2:=wrO;have w3:IntKind.i64.wrap (3:Int)=3:=wrO;have w1:=bB;have w0:IntKind.i64.wrap (0:Int)=0:=wrO;obtain⟨n0,n1⟩:=hn1 (by omega);have hn2:n=0∨n=1:=by omega
 rcases hn2 with rfl|rfl
 ·refine⟨1+a,1+b,[],p+1+1+1,?_,by omega,by omega,by omega,by omega,by omega,by omega,by simp,by simp⟩;rw[aD rfl Tryz.func37 rfl rfl];simp[hn,w2];rw[aF];simp[ha,wa,w1];rw[aF];simp[hb,wb,w0];rw[aF];simp[aG]
 ·obtain⟨c,hc,hc1,-⟩:=bE l (p+1+1+1) 2 (by omega) (by omega) hl;have wc:IntKind.i64.wrap (1+c)=1+c:=wrO;refine⟨1+a,1+b,[1+c],p+1+1+1+1,?_,by omega,by omega,by omega,by omega,by omega,by omega,by simp,by simp;omega⟩;rw[aD rfl Tryz.func37 rfl rfl];simp[hn,w3];rw[aF];simp[ha,wa,w2];rw[aF];simp[hb,wb,w1];rw[aF];simp[hc,wc,w0];rw[aF];simp[aG]
theorem Pn.V8 {P:Pn} (h:P.thin) (k t:Int):(Pn.mk k t P.exprs P.cols P.kids).thin:=by
 rw[Pn.bT]at h ⊢;exact h
theorem Pn.AI8 {P:Pn} (h:P.thin) (c:List Int) (hc:c.length<1000000000):(Pn.mk P.kind P.table P.exprs c P.kids).thin:=by
 rw[Pn.bT]at h ⊢;exact⟨h.1,h.2.1,hc,h.2.2.2⟩
theorem Pn.AEK {P:Pn} (h:P.thin) {e:Ex} (he:e.thin) (hl:P.exprs.length+1<1000000000):(Pn.mk P.kind P.table (P.exprs++[e]) P.cols P.kids).thin:=by
 rw[Pn.bT]at h ⊢;refine⟨by simpa [Pn.exprs]using hl,fun x hx=>?_,h.2.2⟩;simp only[Pn.exprs,zT,y9]at hx
 rcases hx with hx|rfl
 ·exact h.2.1 x hx
 ·exact he
theorem Z0 {l:List UInt8} (hl:l.length≤2000) {ws:List Int} (hw:∀ w∈ws,0≤w∧w≤6) (hwl:ws.length<1000000) (hk0:0<ws.length) (p:Int) (h0:0≤p) (h1:p+30000<200000000):∃ (P:Pn) (p':Int),
 aH CR 38 [.own 0 0, .osl 1 1 0 ws.length] [Rd l p,some (.arr 1 (aG ws))]=some (rX 2 P,[Rd l p',some (.arr 1 (aG ws))]++rS P)∧(P.thin∧BdV P)∧p≤p'∧p'≤p+30000:=by
 obtain⟨P,p1,hP,hPt,b1,b2,b6,b7⟩:=KP hl hw hwl hk0 p h0 (by omega);obtain⟨k,hk,-,-⟩:=bE l p1 18 (by omega) (by omega) hl;have te:P.exprs.take P.exprs.length=P.exprs:=zZ (by simp);have tc:P.cols.take P.cols.length=P.cols:=zZ (by simp);have hthin:=(Pn.bT P).1 hPt.1;by_cases k0:k=0
 ·obtain⟨x,hx,-⟩:=qM l (p1+1) (by omega) (by omega) hl [[.int 0],[.int 9],[.int 1],[.int 4]] (by simp) (by simp) (by simp);simp only[zM,yE,zB,Nat.reduceAdd]at hx;refine⟨.mk x P.table P.exprs P.cols P.kids,p1+1+1,?_,⟨Pn.V8 hPt.1 _ _,hPt.head⟩,by omega,by omega⟩;rw[aD rfl Tryz.func38 rfl rfl]
  rcases dI P.exprs with ce|⟨ce,ce',ce''⟩<;>rcases dI P.cols with cc|⟨cc,cc',cc''⟩<;>rcases dI P.kids with ck|⟨ck,ck',ck''⟩ <;>
   (simp[rX,rS,bl,ce,cc,ck,aL,aI]at hP
    simp[hP,hk,k0,hx,rX,rS,bl,ce,cc,ck,aL,aI])
 by_cases k1:k=1
 ·obtain⟨x,hx,-⟩:=qM l (p1+1) (by omega) (by omega) hl [[.int (-1)],[.int 4],[.int 1]] (by simp) (by simp) (by simp);simp only[zM,yE,zB,Nat.reduceAdd]at hx;refine⟨.mk P.kind x P.exprs P.cols P.kids,p1+1+1,?_,⟨Pn.V8 hPt.1 _ _,hPt.head⟩,by omega,by omega⟩;rw[aD rfl Tryz.func38 rfl rfl]
  rcases dI P.exprs with ce|⟨ce,ce',ce''⟩<;>rcases dI P.cols with cc|⟨cc,cc',cc''⟩<;>rcases dI P.kids with ck|⟨ck,ck',ck''⟩ <;>
   (simp[rX,rS,bl,ce,cc,ck,aL,aI]at hP
    simp[hP,hk,k0,k1,hx,rX,rS,bl,ce,cc,ck,aL,aI])
 by_cases k2:k=2
 ·obtain⟨x,hx,-⟩:=qM l (p1+1) (by omega) (by omega) hl [[.int 0],[.int 9]] (by simp) (by simp) (by simp);simp only[zM,yE,zB,Nat.reduceAdd]at hx;refine⟨.mk P.kind P.table P.exprs (P.cols++[x]) P.kids,p1+1+1,?_,⟨Pn.AI8 hPt.1 _ (by simp;omega),hPt.head⟩,by omega,by omega⟩;have hl1:(P.cols.length+1)*8≤140737488355328:=by omega
  rw[aD rfl Tryz.func38 rfl rfl]
  rcases dI P.exprs with ce|⟨ce,ce',ce''⟩<;>rcases dI P.cols with cc|⟨cc,cc',cc''⟩<;>rcases dI P.kids with ck|⟨ck,ck',ck''⟩ <;>
   (simp[rX,rS,bl,ce,cc,ck,aL,aI]at hP
    simp[hP,hk,k0,k1,k2,hx,rX,rS,bl,ce,cc,ck,aL,aI,aG,gP,hl1,tc])
 by_cases k3:k=3
 ·obtain⟨e,p2,he,a1,a2,a3⟩:=AHA l hl 2 (p1+1) (by omega) (by omega);refine⟨.mk P.kind P.table (P.exprs++[e]) P.cols P.kids,p2,?_,⟨Pn.AEK hPt.1 (Ex.bP _ (by omega)) (by omega),AQM hPt.2.1 hPt.2.2⟩,by omega,by omega⟩;have hl1:(P.exprs.length+1)*56≤140737488355328:=by omega
  rw[aD rfl Tryz.func38 rfl rfl];rw[Ex.aA e]at he
  rcases dI P.exprs with ce|⟨ce,ce',ce''⟩<;>rcases dI P.cols with cc|⟨cc,cc',cc''⟩<;>rcases dI P.kids with ck|⟨ck,ck',ck''⟩ <;>
   (simp[rX,rS,bl,ce,cc,ck,aL,aI]at hP
    simp[hP,hk,k0,k1,k2,k3,he,rX,rS,bl,ce,cc,ck,aL,aI,Ex.aB,Ex.jS,hl1,te,Ex.aA e])
 ·refine⟨P,p1+1,?_,⟨hPt.1,hPt.all⟩,by omega,by omega⟩;rw[aD rfl Tryz.func38 rfl rfl]
  rcases dI P.exprs with ce|⟨ce,ce',ce''⟩<;>rcases dI P.cols with cc|⟨cc,cc',cc''⟩<;>rcases dI P.kids with ck|⟨ck,ck',ck''⟩ <;>
   (simp[rX,rS,bl,ce,cc,ck,aL,aI]at hP
    simp[hP,hk,k0,k1,k2,k3,rX,rS,bl,ce,cc,ck,aL,aI])
end Go.Proofs.YtnmimmaahhlgeaaGreat.P
namespace Go.Av
def SA (l:List (List Int)):List (List IV):=l.map fun p=>[.isl (aG p)]
@[simp] theorem AUD (l:List (List Int)):(SA l).length=l.length:=by simp[SA]
theorem AA9 (a b:List (List Int)):SA (a++b)=SA a++SA b:=by simp[SA]
@[simp] theorem AZ9 (n:Nat) (l:List (List Int)):(SA l).take n=SA (l.take n):=by simp[SA,xE]
theorem AOR (p:List Int):SA [p]=[[.isl (aG p)]]:=rfl
theorem AOS {l:List (List Int)} {i:Nat} {p:List Int} (h:l[i]?=some p):fH (SA l) i=some [.isl (aG p)]:=by
 rw[dL];simp[SA,h]
theorem AU (path:List Int):∀ (l m:List Pn) (i:Nat),fI path i (l++m)=fI path i l++fI path (i+l.length) m
 | [],m,i=>by simp[fI]
 | a::l,m,i=>by simp only[yR,fI,AU path l m (i+1),zK,zM];congr 3;omega
theorem WU (path:List Int) {l:List Pn} {i:Nat} {a:Pn} (h:l[i]?=some a):fI path 0 (l.take (i+1))=fI path 0 (l.take i)++qL (path++[(i:Int)]) a:=by
 have hl:(l.take i).length=i:=by have:=(zY.1 h).1;simp;omega
 rw[aO h,AU,hl];simp[fI]
mutual
theorem PQ:∀ (p:Pn) (path:List Int),(qL path p).length=p.size
 | .mk _ _ _ _ ks,path=>by simp only[qL,Pn.size,zM,BH ks path 0];omega
theorem BH:∀ (l:List Pn) (path:List Int) (i:Nat),(fI path i l).length=Pn.cZ l
 | [],_,_=>by simp[fI,Pn.cZ]
 | a::l,path,i=>by simp only[fI,Pn.cZ,zQ,PQ a,BH l]
end
end Go.Av
namespace Go.Proofs.YtnmimmaahhlgeaaGreat.P
open Go Go.Av
set_option maxRecDepth 4000
set_option maxHeartbeats 4000000
def ADX (p:Pn) (path:List Int) (L:List (List Int)) (i:Nat):AS :=
 { env:=[(0, .osl 2 1 0 (L++path::fI path 0 (p.kids.take i)).length),(1, .i (.agg [.int p.kind, .int p.table, .isl (Ex.aB p.exprs), .isl (aG p.cols), .isl (Pn.aB p.kids)])),(2, .osl 1 1 0 path.length),(4, .own 3 0),(6, .nils),(7, .int i),(18,jk i (.bool true))],
   st:=[none,some (.arr 1 (aG path)),some (.arr 1 (SA (L++path::fI path 0 (p.kids.take i)))),EU p] }
theorem ABQ:∀ (p:Pn) (path:List Int) (L:List (List Int)),p.thin→path.length+p.size<1000000→L.length+p.size<1000000→aH C0 168 [.osl 0 1 0 L.length, .i (.agg p.cells), .osl 1 1 0 path.length] [some (.arr 1 (SA L)),some (.arr 1 (aG path))]=some (.osl 2 1 0 (L++qL path p).length,[none,some (.arr 1 (aG path)),some (.arr 1 (SA (L++qL path p)))]):=by
 intro p
 induction p using Pn.ind with
 | h k t es cs ks ih =>
  intro path L ht hp hL;generalize hpe:Pn.mk k t es cs ks=p at *
  have hks:ks=p.kids:=by rw[← hpe];rfl
  subst hks;have hkt:=((Pn.bT p).1 ht).2.2.2.2;have hsz:=Pn.size_eq p;have hkl:=Pn.dR p.kids;have htp:path.take path.length=path:=zZ (by simp);have htL:L.take L.length=L:=zZ (by simp);have hl1:path.length*8≤140737488355328:=by omega
  have hl2:(L.length+1)*24≤140737488355328:=by omega
  have hl3:(L.length+1)*32≤140737488355328:=by omega
  rw[aD rfl Tryz.func168 rfl rfl,KW];simp only[Pn.aA p];simp[htp,htL,hl1,hl2,hl3];rw[aT (ADX p path L) p.kids.length (by simp[ADX,EU,fI,AA9,AOR])]
  ·rw[aF];simp[ADX,EU]
  ·intro i hi;have h3:=zX hi;have hm:=zV h3;have r2:=Pn.aR h3;have hsn:=WU path h3;have htk:=aO h3;generalize p.kids[i]=a at h3 hm r2 hsn htk
   have hle:Pn.cZ (p.kids.take i)+a.size≤Pn.cZ p.kids:=by
    have h:=Pn.uY (p.kids.take (i+1)) (p.kids.drop (i+1));rw[zC,htk,Pn.uY]at h;simp only[Pn.cZ]at h;omega
   have hpn:=BH (p.kids.take i) path 0;have w2:IntKind.i64.wrap ((i:Int)+1)=i+1:=wrO;have hk:=ih a hm (path++[(i:Int)]) (L++path::fI path 0 (p.kids.take i)) (hkt a hm) (by simp;omega) (by simp;omega);rw[Pn.aA a]at r2 hk;have hpi:aG (path++[(i:Int)])=aG path++[[.int i]]:=sF path i;have ht1:List.take (path.length+1) (aG path++[[.int (i:Int)]])=aG path++[[.int i]]:=zZ (by simp);have hl4:(path.length+1)*8≤140737488355328:=by omega
   rw[hpi]at hk;generalize qL (path++[(i:Int)]) a=S at hk hsn;simp only[zK,yR]at hk;simp at hk;simp[ADX,EU,hi,r2,w2,hk,hsn,aG,htp,hl1,hl4,ht1]
def okA (ws:List Int) (p:Pn) (path:List Int) (r:Int):Bool:=(apS ws r path p).isSome
def OH (ws:List Int) (p:Pn) (path:List Int) (i:Nat):List Stp:=((rules.take i).filter (okA ws p path)).map fun r=>(r,path)
theorem ZA {ws path:List Int} {p:Pn} {i:Nat} (h:i<11):OH ws p path (i+1)=OH ws p path i++if okA ws p path ((i:Int)+1)=true then [((i:Int)+1,path)]else []:=by
 have h1:rules[i]?=some ((i:Int)+1):=by
  have:i=0∨i=1∨i=2∨i=3∨i=4∨i=5∨i=6∨i=7∨i=8∨i=9∨i=10:=by omega
  rcases this with rfl|rfl|rfl|rfl|rfl|rfl|rfl|rfl|rfl|rfl|rfl<;>rfl
 unfold OH;rw[aO h1,xN,yH];congr 1;simp only[List.filter];split<;>rename_i h2<;>simp[h2]
theorem UE (ws path:List Int) (p:Pn) (i:Nat):(OH ws p path i).length≤11:=by
 unfold OH;rw[y5];refine zA0 (yG _ _) ?_;simp[rules];omega
theorem AMM (ws path:List Int) (p:Pn):atS ws p path=OH ws p path 11:=rfl
def SB (r:Int) (path:List Int):StL:=[some (.box [.int r, .osl 4 1 0 path.length]),some (.frz 1 (aG path))]
def XE (P:List (List Int)) (i:Nat):List Int:=(P[i-1]?).getD []
def uE (ws:List Int) (p:Pn) (P:List (List Int)) (i:Nat):List Stp:=(P.take i).flatMap (atS ws p)
theorem Z8 (ws:List Int) (p:Pn) (P:List (List Int)):uE ws p P 0=[]:=rfl
theorem AQU (ws:List Int) (p:Pn) (P:List (List Int)):uE ws p P P.length=P.flatMap (atS ws p):=by unfold uE;rw[zZ (zJ _)]
def SOX (p:Pn) (ws:List Int) (P:List (List Int)) (i:Nat):AS :=
 { env:=[(0, .i (.agg [.int p.kind, .int p.table, .isl (Ex.aB p.exprs), .isl (aG p.cols), .isl (Pn.aB p.kids)])),(1, .i (.isl (aG ws))),(2, .own 0 0),(4, .nils),(5, .osl 1 2 0 (uE ws p P i).length),(6, .osl 2 1 0 P.length),(7, .int i),(8,jk i (.int 12)),(9,if i=0 then .junk else .own 3 0),(11,jk i (.bool (okA ws p (XE P i) 11))),(20,jk i (.bool true)),(24,jk i (.bool false)),(42,jk i (.bool (okA ws p (XE P i) 11)))],
   st:=EU p::some (.arr 2 (mY (uE ws p P i)))::some (.arr 1 (SA P))::(if i=0 then []else SB 11 (XE P i)) }
def SIX (p:Pn) (ws:List Int) (P:List (List Int)) (path:List Int) (i j:Nat):AS :=
 { env:=[(0, .i (.agg [.int p.kind, .int p.table, .isl (Ex.aB p.exprs), .isl (aG p.cols), .isl (Pn.aB p.kids)])),(1, .i (.isl (aG ws))),(2, .own 0 0),(4, .nils),(5, .osl 1 2 0 (uE ws p P i++OH ws p path j).length),(6, .osl 2 1 0 P.length),(7, .int i),(8, .int ((j:Int)+1)),(9,if i+j=0 then .junk else .own 3 0),(11,if j=0 then jk i (.bool (okA ws p (XE P i) 11))else .bool (okA ws p path j)),(20, .bool true),(24,if j=0 then jk i (.bool false)else .bool true),(42,if j=0 then jk i (.bool (okA ws p (XE P i) 11))else .bool (okA ws p path j))],
   st:=EU p::some (.arr 2 (mY (uE ws p P i++OH ws p path j)))::some (.arr 1 (SA P))::(if j=0 then(if i=0 then []else SB 11 (XE P i))else SB j path) }
theorem VF {ws:List Int} (hw:lZ ws=true) {p:Pn} (hp:p.wd ws 8≠0):aH C0 124 [.i (.agg p.cells), .i (.isl (aG ws))] []=some (.i (.isl (mY (stS ws p))),[]):=by
 have ht:=eH p 8 hp;have hsz:=(Pn.JK p 8 hp).2;have c1:=ABQ p [] [] ht (by simp;omega) (by simp;omega);have hpl:=PQ p []
 have hP:∀ path∈qL [] p,path.length≤8:=by
  intro path hm;obtain⟨r,hr,hs⟩:=(PO p [] path).1 hm;rw[xW]at hr;subst hr
  cases ha:Pn.at path p with
  | none=>rw[ha]at hs;cases hs
  | some a=>exact(NG path p 8 a hp ha).1
 unfold stS;generalize qL [] p=P at *
 have hlen:∀ l:List (List Int),(l.flatMap (atS ws p)).length≤11*l.length:=by
  intro l
  induction l with
  | nil=>simp
  | cons x l ih=>have:=UE ws x p 11;rw[← AMM]at this;simp only[yB,zQ,zM];omega
 rw[aD rfl Tryz.func124 rfl rfl];simp only[Pn.aA p]at c1 ⊢;simp[SA,aG]at c1;simp[c1];rw[aT (SOX p ws P) P.length (by simp[SOX,EU,mY,SA,Z8])]
 ·rw[aF];have ht1:(uE ws p P P.length).take (uE ws p P P.length).length=uE ws p P P.length:=zZ (zJ _);rw[← AQU ws p P];by_cases h0:P.length=0
  ·simp[SOX,EU,h0,Z8,mY]
  ·simp[SOX,EU,SB,h0,dK h0,ht1]
 ·intro i hi;have q1:=zX hi;have hm:=zV q1;generalize P[i]=path at q1 hm;have r1:=AOS q1;have htk:=aO q1;have hp8:=hP path hm;have hac:(uE ws p P i).length≤11*i:=by have:=hlen (P.take i);unfold uE;have:(P.take i).length≤i:=(by simp;omega);omega
  have w2:IntKind.i64.wrap ((i:Int)+1)=i+1:=wrO;have hlast:XE P (i+1)=path:=by simp[XE,q1]
  have hfl:uE ws p P (i+1)=uE ws p P i++OH ws p path 11:=by unfold uE;rw[htk];simp[AMM]
  by_cases h0:i=0
  ·subst h0;have hi0:0<P.length:=hi;simp at w2 hlast hfl;simp[SOX,EU,SB,hi0];rw[aT (SIX p ws P path 0) 11 (by simp[SIX,EU,SB,OH])]
   ·rw[aF];simp[SIX,EU,SB,w2,hlast,hfl]
   ·intro j hj;have hs:=ZA (ws:=ws) (path:=path) (p:=p) hj;have hlj:=UE ws path p j;have w3:IntKind.i64.wrap ((j:Int)+1+1)=j+1+1:=wrO;have hj11:(j:Int)+1≤11:=by omega
    have c2:=wL hw hp ((j:Int)+1) (path:=path) (by omega);have htp:path.take path.length=path:=zZ (by simp);have hl1:path.length*8≤140737488355328:=by omega
    rw[Pn.aA p]at c2;have hok:okA ws p path ((j:Int)+1)=(apS ws ((j:Int)+1) path p).isSome:=rfl;rw[← hok]at c2
    cases hb:okA ws p path ((j:Int)+1)with
    | false =>
     rw[hb]at hs c2;simp at hs;by_cases j0:j=0
     ·subst j0;simp at c2 hb hs;simp[SIX,EU,SB,hi0,r1,hs,hj11,c2,hb,htp,hl1]
     ·simp[SIX,EU,SB,j0,hi0,r1,w3,hs,hj11,c2,hb,htp,hl1]
    | true =>
     rw[hb]at hs c2;simp at hs;have hl2:((uE ws p P 0).length+(OH ws p path j).length+1)*32≤140737488355328:=by omega
     have ht3:(uE ws p P 0).take ((uE ws p P 0).length+(OH ws p path j).length)=uE ws p P 0:=zZ (by omega);have ht4:(OH ws p path j).take (OH ws p path j).length=OH ws p path j:=zZ (by omega);by_cases j0:j=0
     ·subst j0;simp at c2 hb hs hl2;simp[SIX,EU,SB,hi0,r1,hs,hj11,c2,hb,htp,hl1,hl2];exact⟨by omega,by rw[zZ (by simp)];simp[mY,ATE]⟩
     ·simp[SIX,EU,SB,j0,hi0,r1,w3,hs,hj11,c2,hb,htp,hl1,hl2];exact⟨by omega,by rw[zZ (by simp)];simp[mY,ATE]⟩
  ·simp[SOX,EU,SB,h0,dK h0,hi];rw[aT (SIX p ws P path i) 11 (by simp[SIX,EU,SB,h0,dK h0,OH])]
   ·rw[aF];simp[SIX,EU,SB,h0,dK h0,w2,hlast,hfl]
   ·intro j hj;have hs:=ZA (ws:=ws) (path:=path) (p:=p) hj;have hlj:=UE ws path p j;have w3:IntKind.i64.wrap ((j:Int)+1+1)=j+1+1:=wrO;have hj11:(j:Int)+1≤11:=by omega
    have c2:=wL hw hp ((j:Int)+1) (path:=path) (by omega);have htp:path.take path.length=path:=zZ (by simp);have hl1:path.length*8≤140737488355328:=by omega
    rw[Pn.aA p]at c2;have hok:okA ws p path ((j:Int)+1)=(apS ws ((j:Int)+1) path p).isSome:=rfl;rw[← hok]at c2
    cases hb:okA ws p path ((j:Int)+1)with
    | false =>
     rw[hb]at hs c2;simp at hs;by_cases j0:j=0
     ·subst j0;simp at c2 hb hs;simp[SIX,EU,SB,h0,dK h0,hi,r1,hs,hj11,c2,hb,htp,hl1]
     ·simp[SIX,EU,SB,h0,dK h0,j0,hi,r1,w3,hs,hj11,c2,hb,htp,hl1]
    | true =>
     rw[hb]at hs c2;simp at hs;have hl2:((uE ws p P i).length+(OH ws p path j).length+1)*32≤140737488355328:=by omega
     have ht3:(uE ws p P i).take ((uE ws p P i).length+(OH ws p path j).length)=uE ws p P i:=zZ (by omega);have ht4:(OH ws p path j).take (OH ws p path j).length=OH ws p path j:=zZ (by omega);by_cases j0:j=0
     ·subst j0;simp at c2 hb hs hl2;simp[SIX,EU,SB,h0,dK h0,hi,r1,hs,hj11,c2,hb,htp,hl1,hl2];exact⟨by omega,by rw[zZ (by simp)];simp[mY,ATE]⟩
     ·simp[SIX,EU,SB,h0,dK h0,j0,hi,r1,w3,hs,hj11,c2,hb,htp,hl1,hl2];exact⟨by omega,by rw[zZ (by simp)];simp[mY,ATE]⟩
end Go.Proofs.YtnmimmaahhlgeaaGreat.P
namespace Go.Av
theorem EA {ws:List Int} (h:lZ ws=true):∀ w∈ws,0≤w∧w≤6:=by
 intro w hw;unfold lZ at h;simp only[zU]at h;have:=zR.1 h.2 w hw;unfold bG at this;simp at this;omega
theorem AEQ {p:Pn} {ws:List Int}:∀ s∈JZ p ws,s.2.length≤8:=by
 intro s hs;unfold JZ at hs;split at hs
 ·simp at hs
 ·rename_i h0;obtain⟨hw,hp,_⟩:=oJ h0;rw[P5 (EA hw) hp]at hs
  have:=(ASU (ws:=ws) (rule:=s.1) (path:=s.2) (p:=p) (q:=((apS ws s.1 s.2 p).getD p)) (by
   have:=ATJ.1 hs
   cases h:apS ws s.1 s.2 p with
   | none=>rw[h]at this;cases this
   | some q=>rfl)).2
  cases ha:Pn.at s.2 p with
  | none=>rw[ha]at this;cases this
  | some a=>exact(NG s.2 p 8 a hp ha).1
end Go.Av
namespace Go.Proofs.YtnmimmaahhlgeaaGreat.P
open Go Go.Av
set_option maxRecDepth 4000
set_option maxHeartbeats 8000000
theorem VL (p:Pn) (hp:p.thin) (ws:List Int) (hl:ws.length<1000000):aH C0 74 [.i (.agg p.cells), .i (.isl (aG ws))] []=some (.i (.isl (mY (JZ p ws))),[]):=by
 have c1:=EY p (Pn.wP p hp) ws (by omega);unfold JZ;by_cases h0:p.width ws=0
 ·rw[aD rfl Tryz.func74 rfl rfl];simp only[Pn.aA p]at c1 ⊢;simp[c1,h0,mY]
 ·obtain⟨hw,hp8,hv⟩:=oJ h0;have c2:=VF hw hp8;rw[← P5 (EA hw) hp8]at c2;rw[aD rfl Tryz.func74 rfl rfl];simp only[Pn.aA p]at c1 c2 ⊢;simp[c1,h0,c2]
theorem VC (p:Pn) (ws:List Int):(JZ p ws).length<10000:=by
 unfold JZ;split
 ·simp
 ·rename_i h0;have:=(Pn.AHT h0).2;have:=ATL ws p [];omega
@[simp] theorem ASG (a:List AV) (st:StL):aH CR 74 a st=aH C0 74 a st:=by rw[aN (p:=aH C0 74) rfl]
set_option maxHeartbeats 4000000
def six:List (List IV):=[[.int 0],[.int 0],[.int 0],[.int 1],[.int 2],[.int (-1)]]
theorem AK0 (l:List UInt8) (hl:l.length≤2000) (p:Int) (h0:0≤p) (h1:p<900000000):∃ x:Int,aH C0 81 [.own 0 0, .osl 1 1 0 6] [Rd l p,some (.arr 1 [[.int 0],[.int 0],[.int 0],[.int 1],[.int 2],[.int (-1)]])]=some (.int x,[Rd l (p+1),some (.arr 1 [[.int 0],[.int 0],[.int 0],[.int 1],[.int 2],[.int (-1)]])]):=by
 obtain⟨x,hx,-⟩:=qM l p h0 (by omega) hl six (by simp[six]) (by simp[six]) (by simp[six]);exact⟨x,hx⟩
theorem K9 (l:List UInt8) (hl:l.length≤2000) (p:Int) (h0:0≤p) (h1:p<800000000):∃ (path:List Int) (p':Int),aH CR 75 [.own 0 0] [Rd l p]=some (.i (.isl (aG path)),[Rd l p'])∧path.length≤3∧p≤p'∧p'≤p+4:=by
 obtain⟨n,hn,hn1,-⟩:=bE l p 4 h0 (by omega) hl;obtain⟨n0,n1⟩:=hn1 (by omega);obtain⟨a,ha⟩:=AK0 l hl (p+1) (by omega) (by omega);obtain⟨b,hb⟩:=AK0 l hl (p+1+1) (by omega) (by omega);obtain⟨c,hc⟩:=AK0 l hl (p+1+1+1) (by omega) (by omega);have w3:IntKind.i64.wrap (3:Int)=3:=wrO;have w2:IntKind.i64.wrap (2:Int)=2:=wrO;have w1:=bB;have w0:IntKind.i64.wrap (0:Int)=0:=wrO;have hcase:n=0∨n=1∨n=2∨n=3:=by omega
 rcases hcase with rfl|rfl|rfl|rfl
 ·refine⟨[],p+1,?_,by simp,by omega,by omega⟩;rw[aD rfl Tryz.func75 rfl rfl];simp[hn];rw[aF];simp[aG]
 ·refine⟨[a],p+1+1,?_,by simp,by omega,by omega⟩;rw[aD rfl Tryz.func75 rfl rfl];simp[hn];rw[aF];simp[ha,w0];rw[aF];simp[aG]
 ·refine⟨[a,b],p+1+1+1,?_,by simp,by omega,by omega⟩;rw[aD rfl Tryz.func75 rfl rfl];simp[hn];rw[aF];simp[ha,w1];rw[aF];simp[hb,w0];rw[aF];simp[aG]
 ·refine⟨[a,b,c],p+1+1+1+1,?_,by simp,by omega,by omega⟩;rw[aD rfl Tryz.func75 rfl rfl];simp[hn];rw[aF];simp[ha,w2];rw[aF];simp[hb,w1];rw[aF];simp[hc,w0];rw[aF];simp[aG]
theorem ZZ {l:List UInt8} (hl:l.length≤2000) {P:Pn} (hP:P.thin) {ws:List Int} (hw:ws.length≤1000) (p:Int) (h0:0≤p) (h1:p<700000000):∃ (r:Int) (path:List Int) (p':Int),aH CR 33 [.own 0 0, .i (.agg P.cells), .i (.isl (aG ws))] [Rd l p]=some (.i (.agg [.int r, .isl (aG path)]),[Rd l p'])∧path.length≤8∧p≤p'∧p'≤p+8:=by
 have e1:=VL P hP ws (by omega);have hsm:=VC P ws;have hs8:=AEQ (p:=P) (ws:=ws);rw[Pn.aA P]at *
 generalize JZ P ws=S at *
 obtain⟨k,hk,hk1,-⟩:=bE l p 5 h0 (by omega) hl;obtain⟨k0,k1⟩:=hk1 (by omega);by_cases hS:S=[]
 ·subst hS;obtain⟨n,hn,-,-⟩:=bE l p 13 h0 (by omega) hl;obtain⟨path,p2,hp,q1,q2,q3⟩:=K9 l hl (p+1) (by omega) (by omega);refine⟨n,path,p2,?_,by omega,by omega,by omega⟩;rw[aD rfl Tryz.func33 rfl rfl];simp[mY]at e1;simp[e1,hn,hp]
 ·have hS0:S.length≠0:=fun h=>hS (zW.1 h)
  by_cases hk0:k=0
  ·obtain⟨n,hn,-,-⟩:=bE l (p+1) 13 (by omega) (by omega) hl;obtain⟨path,p2,hp,q1,q2,q3⟩:=K9 l hl (p+1+1) (by omega) (by omega);refine⟨n,path,p2,?_,by omega,by omega,by omega⟩;rw[aD rfl Tryz.func33 rfl rfl];have hlt:0<S.length:=by omega
   simp[e1,hk,hk0,hn,hp,hlt]
  ·obtain⟨j,hj,hj1,-⟩:=bE l (p+1) S.length (by omega) (by omega) hl;obtain⟨j0,j1⟩:=hj1 (by omega);obtain⟨i,rfl⟩:=yZ j0;have hi:i<S.length:=by omega
   have q1:=zX hi;have hm:=zV q1;generalize S[i]=s at q1 hm;have r1:=AIF q1;have h8:=hs8 s hm;refine⟨s.1,s.2,p+1+1,?_,by omega,by omega,by omega⟩;rw[aD rfl Tryz.func33 rfl rfl];have hlt:0<S.length:=by omega
   have hkk:(0:Int)<k:=by omega
   simp only[ATE,Int.ofNat_eq_natCast]at r1 hj;have hb:s.2.length*8≤140737488355328:=by omega
   by_cases hs:s.2=[]
   ·simp[hs,aG]at r1;simp[e1,hk,hkk,hlt,hj,hi,r1,hs,aG]
   ·have ht:List.take s.2.length (aG s.2)=aG s.2:=zZ (by simp);simp[e1,hk,hkk,hlt,hj,hi,r1,hb,ht]
end Go.Proofs.YtnmimmaahhlgeaaGreat.P
namespace Go.Av
def AT1 (st:Store):AV→Option IV
 | .own id 0=>match st id with
  | some (.box cs)=>bnd (JN st cs) fun l=>some (.iref l)
  | _=>none
 | v=>ZK st v
def UV (st:Store):List AV→Option (List AV)
 | []=>some []
 | c::r=>bnd (AT1 st c) fun v=>bnd (UV st r) fun l=>some (.i v::l)
theorem ZM {w:World} {m:Mem} {φ:Pl} {st:Store} {c:AV} {x:Value} {iv:IV} (hi:Inv w m φ st) (hr:Rep m φ c x) (h:AT1 st c=some iv):IRep (jP w) iv x:=by
 unfold AT1 at h;split at h
 ·rename_i id;split at h
  ·rename_i cs hs;obtain⟨l,h1,h2⟩:=aJ.1 h;injection h2 with h2;subst h2
   cases hr with
   | @own _ _ b n e =>
    obtain⟨hb,hok⟩:=eO hi e hs
    cases hok with
    | @box T _ vs hh hl hrc hm =>
     refine .iref (IAt.mk 0 (uQ hi hrc h1) fun j v hj=>?_);show w.cell? ⟨b,0+j,none⟩=some v;rw[bU hh,zB];exact hj
  ·cases h
 ·exact JL hi hr h
theorem GJ {w:World} {m:Mem} {φ:Pl} {st:Store} (hi:Inv w m φ st):∀ {cs us:List AV} {xs:List Value},RepL m φ cs xs→UV st cs=some us→RepL (jP w) (fun _=>none) us xs
 | [],us,_, .nil,h=>by simp[UV]at h;subst h;exact .nil
 | c::cs,us,_, .cons a b,h=>by
  simp only[UV]at h;obtain⟨v,h1,h2⟩:=aJ.1 h;obtain⟨l',h3,h4⟩:=aJ.1 h2;injection h4 with h4;subst h4;exact .cons (.i (ZM hi a h1)) (GJ hi b h3)
def kvK (stl:StL):AV→Option IV
 | .i (.lit v)=>some (.lit v)
 | .nils=>some (.isl [])
 | .osl id k off len=>match bK stl id with
  | some (.frz k' es)=>tst (decide (k'=k∧off=0∧len≤es.length∧0<len)) (tst (es.all IZ) (some (.isl (es.take len))))
  | _=>none
 | _=>none
def AZP (stl:StL):List AV→Option (List IV)
 | []=>some []
 | c::r=>bnd (kvK stl c) fun v=>bnd (AZP stl r) fun l=>some (v::l)
def kvA (stl:StL):AV→Option IV
 | .agg cs=>bnd (AZP stl cs) fun l=>some (.agg l)
 | v=>kvK stl v
def AZQ (stl:StL):List AV→Option (List AV)
 | []=>some []
 | c::r=>bnd (kvA stl c) fun v=>bnd (AZQ stl r) fun l=>some (.i v::l)
def kvT (stl:StL):AV→Option AV
 | .tup cs=>bnd (AZQ stl cs) fun l=>some (.tup l)
 | v=>bnd (kvA stl v) fun l=>some (.i l)
section
variable {w w':World} {m m':Mem} {φ':Pl} {stl:StL}
def ZE (w:World) (m m':Mem):Mem:=fun b o=>if b<w.heap.size then m b o else m' b o
theorem ACQ {b:Nat} (h:w.heap.size≤b) (o:Nat):ZE w m m' b o=m' b o:=by unfold ZE;rw[if_neg (by omega)]
theorem SQ {b:Nat} (h:b<w.heap.size) (o:Nat):ZE w m m' b o=m b o:=by unfold ZE;rw[if_pos h]
theorem AML {b:Nat} (hb:∀ o,ZE w m m' b o=m' b o):∀ {cs:List IV} {o:Nat},IZ cs=true→IAt m' b o cs→IAt (ZE w m m') b o cs
 | [],o,_,_=>.nil b o
 | c::cs,o,hl, .cons e a q r=>by
  simp only[IZ,zU]at hl;refine .cons ((hb o).trans e) ?_ q (AML hb hl.2 r)
  cases c with
  | lit v=>rw[pE a];exact .lit _
  | isl es=>simp[AN5]at hl
  | agg cs=>simp[AN5]at hl
  | iref cs=>simp[AN5]at hl
theorem QM {b:Nat} (hb:∀ o,ZE w m m' b o=m' b o) {k:Nat}:∀ {es:List (List IV)} {o:Nat},es.all IZ=true→IElems m' b o k es→IElems (ZE w m m') b o k es
 | [],o,_,_=>.nil b o k
 | e::es,o,hl, .cons a hk r=>by
  simp only[zE0,zU]at hl;exact .cons (AML hb hl.1 a) hk (QM hb hl.2 r)
theorem XF (hi:Inv w' m' φ' (bK stl)) (hadv:Adv w (jP w) (fun _=>none) w' m' φ') {c:AV} {x:Value} {iv:IV} (hr:Rep m' φ' c x) (h:kvK stl c=some iv):IRep (ZE w m m') iv x:=by
 unfold kvK at h;split at h
 ·injection h with h;subst h;rw[hr.dJ];exact .lit _
 ·injection h with h;subst h
  cases hr;exact .isl0 _ _ fun _=>rfl
 ·rename_i id k off len;split at h
  ·rename_i k' es hs;obtain⟨h1,h2⟩:=aU.1 h;obtain⟨h3,h4⟩:=aU.1 h2;simp only[zS]at h1;obtain⟨rfl,rfl,hle,hpos⟩:=h1;injection h4 with h4;subst h4
   cases hr with
   | @osl _ _ _ _ cap b n ao e hlc hkl hao hao2 =>
    obtain⟨hb,hok⟩:=eO hi e hs
    cases hok with
    | frz hk0 he =>
     have hnew:w.heap.size≤b:=by
      rcases hadv.pnew id b n b e hb.1 with h|h
      ·exact h
      ·exact absurd (fun _ _ _ e=>by cases e) h
     have hcap:cap≠0:=by omega
     have:=hao hcap;subst this;have he2:=QM (m:=m) (fun o=>ACQ hnew o) h3 he;have hlen:(es.take len).length=len:=by simp;omega
     have hne:es.take len≠[]:=fun h=>by rw[h]at hlen;simp at hlen;omega
     have he3:=wW len he2;have:=IRep.isl (cap:=cap) hne he3 (by omega);rw[hlen]at this;simpa using this
  ·cases h
 ·cases h
theorem PZ (hi:Inv w' m' φ' (bK stl)) (hadv:Adv w (jP w) (fun _=>none) w' m' φ'):∀ {cs:List AV} {xs:List Value} {l:List IV},RepC m' φ' cs xs→AZP stl cs=some l→ICells (ZE w m m') l xs
 | [],_,l, .nil,h=>by simp[AZP]at h;subst h;exact .nil
 | c::cs,_,l, .cons a o b,h=>by
  simp only[AZP]at h;obtain⟨v,h1,h2⟩:=aJ.1 h;obtain⟨l',h3,h4⟩:=aJ.1 h2;injection h4 with h4;subst h4;exact .cons (XF hi hadv a h1) o (PZ hi hadv b h3)
theorem XG (hi:Inv w' m' φ' (bK stl)) (hadv:Adv w (jP w) (fun _=>none) w' m' φ') {c:AV} {x:Value} {iv:IV} (hr:Rep m' φ' c x) (h:kvA stl c=some iv):IRep (ZE w m m') iv x:=by
 unfold kvA at h;split at h
 ·obtain⟨l,h1,h2⟩:=aJ.1 h;injection h2 with h2;subst h2
  cases hr with|agg r=>exact .agg (PZ hi hadv r h1)
 ·exact XF hi hadv hr h
theorem Q3 {φ:Pl} (hi:Inv w' m' φ' (bK stl)) (hadv:Adv w (jP w) (fun _=>none) w' m' φ'):∀ {cs us:List AV} {xs:List Value},RepL m' φ' cs xs→AZQ stl cs=some us→RepL (ZE w m m') φ us xs
 | [],us,_, .nil,h=>by simp[AZQ]at h;subst h;exact .nil
 | c::cs,us,_, .cons a b,h=>by
  simp only[AZQ]at h;obtain⟨v,h1,h2⟩:=aJ.1 h;obtain⟨l',h3,h4⟩:=aJ.1 h2;injection h4 with h4;subst h4;exact .cons (.i (XG hi hadv a h1)) (Q3 hi hadv b h3)
theorem AKM {φ:Pl} (hi:Inv w' m' φ' (bK stl)) (hadv:Adv w (jP w) (fun _=>none) w' m' φ') {c r:AV} {x:Value} (hr:Rep m' φ' c x) (h:kvT stl c=some r):Rep (ZE w m m') φ r x:=by
 unfold kvT at h;split at h
 ·obtain⟨l,h1,h2⟩:=aJ.1 h;injection h2 with h2;subst h2
  cases hr with|tup r=>exact .tup (Q3 hi hadv r h1)
 ·obtain⟨l,h1,h2⟩:=aJ.1 h;injection h2 with h2;subst h2;exact .i (XG hi hadv hr h1)
end
def AUQ (f:List AV→StL→Option (AV×StL)) (args:List AV) (st:StL):Option (AV×StL) :=
 bnd (UV (bK st) args) fun us=>match f us []with
  | some (r,stl)=>bnd (kvT stl r) fun v=>some (v,st)
  | none=>none
theorem LV {C:Ctx} {g:FuncId} {f:List AV→StL→Option (AV×StL)} (hf:∀ args stl r stl',f args stl=some (r,stl')→(∃ fn,C.P.funcs[g]?=some fn∧fn.name≠ "runtime.NumGoroutine"∧fn.body.isSome=true)∧∀ (w:World) (m:Mem) (φ:Pl) (vs:List Value),Inv w m φ (bK stl)→RepL m φ args vs→(∀ id,φ id≠none→id<stl.length)→Calls C.P g vs.toArray w (bY w m φ r stl'))
 {args:List AV} {stl stl':StL} {r:AV} (h:AUQ f args stl=some (r,stl')) :
 (∃ fn,C.P.funcs[g]?=some fn∧fn.name≠ "runtime.NumGoroutine"∧fn.body.isSome=true)∧∀ (w:World) (m:Mem) (φ:Pl) (vs:List Value),Inv w m φ (bK stl)→RepL m φ args vs→(∀ id,φ id≠none→id<stl.length) →
  Calls C.P g vs.toArray w (bY w m φ r stl'):=by
 unfold AUQ at h;obtain⟨us,h1,h2⟩:=aJ.1 h;split at h2
 ·rename_i r0 stl0 h3;obtain⟨v0,h4,h5⟩:=aJ.1 h2;injection h5 with h5;injection h5 with h5 h6;subst h5;subst h6;obtain⟨q1,q2⟩:=hf _ _ _ _ h3;refine⟨q1,fun w m φ vs hi hr h0=>?_⟩;refine(q2 w (jP w) (fun _=>none) vs (inv0 w) (GJ hi hr h1) (fun id h=>absurd rfl h)).mono ?_;rintro e w' ⟨v,m',φ',rfl,j1,j2,j3,j4⟩;have hlt:∀ b o u,m b o=some u→b<w.heap.size:=fun b o u e=>hi.mem.lt e
  have hsame:∀ f,f<w.heap.size→w'.heap[f]?=w.heap[f]?:=fun f hf=>j3.block f hf fun id b n e=>by cases e
  have hle:MLe m (ZE w m m'):=fun b o u e=>by rw[SQ (hlt b o u e)];exact e
  have hmem:oI w' (ZE w m m'):=fun b o u e=>by
   by_cases hb:b<w.heap.size
   ·rw[SQ hb]at e;rw[cell_of_heap (hsame b hb)];exact hi.mem b o u e
   ·rw[ACQ (by omega)]at e;exact j2.mem b o u e
  have ha:Adv w m (fun _=>none) w' (ZE w m m') (fun _=>none):=⟨j3.size,j3.os,j3.tape,j3.output,fun b hb _=>hsame b hb,hle,fun b hb _ o=>SQ hb o, .refl _,fun _ _ _ _ e=>by cases e⟩
  obtain⟨i2,a2⟩:=hi.AZZ ha hmem;exact⟨v,_,φ,rfl,AKM j2 j3 j1 h4,i2,a2,h0⟩
 ·cases h2
noncomputable def AWF (C:Ctx) (g:FuncId) (args:List AV) (st:StL):Option (AV×StL) :=
 match C.P.funcs[g]? with
 | none=>none
 | some fn =>
  match fn.body with
  | none=>none
  | some c=>AGN { C with tree:=true } true fn.results.toList st.length (dD C (C.G g) st.length c (enter (C.G g) args st))
theorem ND {C:Ctx} (hS:SoundOk C) {g:FuncId} {args:List AV} {stl stl':StL} {r:AV} (h:AWF C g args stl=some (r,stl')) :
 (∃ fn,C.P.funcs[g]?=some fn∧fn.name≠ "runtime.NumGoroutine"∧fn.body.isSome=true)∧∀ (w:World) (m:Mem) (φ:Pl) (vs:List Value),Inv w m φ (bK stl)→RepL m φ args vs→(∀ id,φ id≠none→id<stl.length) →
  Calls C.P g vs.toArray w (bY w m φ r stl'):=by
 unfold AWF at h;split at h
 ·cases h
 rename_i fn hf;split at h
 ·cases h
 rename_i c hb;have hst:=(hS.fns g fn c hf hb).2;refine⟨⟨fn,hf,(hS.fns g fn c hf hb).1,by rw[hb];rfl⟩,fun w m φ vs hi hargs hid=>?_⟩;have ih:=bH hS
 have hrel:R8 [] w m φ fn.ntmps stl.length (enter (C.G g) args stl) { tmps:=vs.toArray++Array.replicate (fn.ntmps-vs.toArray.size) undef,defers:=[] } w:=by
  refine⟨⟨⟨m,φ,hi,?_, .refl _ _ _,hid, .nil _ _ _⟩,by simp;omega,rfl⟩,zJ _⟩;intro t;unfold enter;simp only;generalize C.G g=G
  induction G with
  | nil=>exact .junk _
  | cons u G ihG =>
   simp only[MV,aV];by_cases e:t=u
   ·subst e;simp only[if_true];exact nH _ hargs t
   ·simp only[e,if_false];exact ihG
 refine callsIn_wide.1 (callsIn_of_wp_marks (n:=0) hf hb trivial ?_)
 have done:∀ S e,dD C (C.G g) stl.length c (enter (C.G g) args stl)=some (e,S)→finish { C with tree:=true } true fn.results.toList stl.length S=some (r,stl')→(e=.normal∨e=.ret) →
  c.wpIn Fence.wide 0 C.P (bodyPostM Fence.wide 0 C.P fn (bY w m φ r stl')) { tmps:=vs.toArray++Array.replicate (fn.ntmps-vs.toArray.size) undef,defers:=[] } w:=by
  intro S e hS' hfin he;obtain⟨n,hS'⟩:=(dW _).1 hS';refine wpIn_mono (dP (ρ:=none) hS.ctx ih (hS.draw _ ih) hid n c _ S e [] _ w hst (.inl rfl) hS' hrel) ?_;rintro e' a' w' ⟨rfl,ds,k,_⟩
  have hl:LeavesInM Fence.wide 0 C.P fn a'.tmps (bY w m φ r stl') a'.defers .returning w':=by
   rw[k.1.defers];refine tN k fun a2 w2 _ k2=>?_
   obtain⟨v,k3,k4⟩:=iH (C:={ C with tree:=true }) hid k2 hfin;exact⟨v,k3,k4⟩
  rcases he with rfl|rfl
  ·exact hl
  ·exact hl
 unfold AGN at h;split at h
 ·rename_i S hS';exact done S .normal hS' h (.inl rfl)
 ·rename_i S hS';exact done S .ret hS' h (.inr rfl)
 ·cases h
 ·cases h
def AbS (r:Int):Bool:=decide (r≠2∧r≠5∧r≠6)
def NS0 (R:Rng) (cs:List AV):StL:=[some (.loop R cs .ready),some (.box [.int 0, .nils]),some (.box [.bool false])]
def NS1 (R:Rng) (cs:List AV) (s:Stp):StL:=some (.loop R cs (.over .ret))::some (.box [.int s.1,if s.2=[]then .nils else .osl 3 1 0 s.2.length])::some (.box [.bool true])::(if s.2=[]then []else [some (.frz 1 (aG s.2))])
end Go.Av
namespace Go.Proofs.YtnmimmaahhlgeaaGreat.P
open Go Go.Av
set_option maxRecDepth 4000
set_option maxHeartbeats 8000000
structure Yn (R:Rng) (cs:List AV):Prop where
 ids:cs=[.own 1 0, .own 2 0, .junk, .junk, .junk]
 n0:∀ r:Int,AbS r=false→aH C0 uF [.fn (.yield 0) [.own 0 0], .agg [.int r, .nils]] (NS0 R cs)=some (.bool true,NS0 R cs)
 n1:∀ (r:Int) (path:List Int),path≠[]→AbS r=false→aH C0 uF [.fn (.yield 0) [.own 0 0], .agg [.int r, .osl 3 1 0 path.length]] (NS0 R cs++[some (.arr 1 (aG path))])=some (.bool true,NS0 R cs++[some (.frz 1 (aG path))])
 y0:∀ r:Int,AbS r=true→aH C0 uF [.fn (.yield 0) [.own 0 0], .agg [.int r, .nils]] (NS0 R cs)=some (.bool false,NS1 R cs (r,[]))
 y1:∀ (r:Int) (path:List Int),path≠[]→AbS r=true→aH C0 uF [.fn (.yield 0) [.own 0 0], .agg [.int r, .osl 3 1 0 path.length]] (NS0 R cs++[some (.arr 1 (aG path))])=some (.bool false,NS1 R cs (r,path))
set_option maxHeartbeats 4000000
theorem NI {args:List AV} {st:StL} {q:AV×StL} (h:EQ args st=some q):∃ fn,Tryz.prog.funcs[9]?=some fn∧fn.name≠ "runtime.NumGoroutine"∧fn.body.isSome=true:=⟨Tryz.f9,Tryz.func9,by decide,rfl⟩
theorem IR {args:List AV} {st st':StL} {r:AV} (h:EQ args st=some (r,st')):∀ (w:World) (m:Mem) (φ:Pl) (vs:List Value),Inv w m φ (bK st)→RepL m φ args vs→(∀ id,φ id≠none→id<st.length)→Calls Tryz.prog 9 vs.toArray w (bY w m φ r st'):=by
 intro w m φ vs hi hr h0;obtain⟨p,ws,k,path,rfl,rfl,hq⟩:=ABO h
 cases ho:apO p ws k path with
 | none =>
  rw[ho]at hq;injection hq with h1 h2;subst h1;subst h2
  have hn:p.width ws=0∨apI ws k path p=none:=by
   unfold apO at ho;by_cases hw:p.width ws=0
   ·exact .inl hw
   ·rw[if_neg hw]at ho;exact .inr ho
  exact(bH dE).calls _ _ _ _ _ (by decide) (AH9 hn) w m φ vs hi hr h0
 | some q =>
  rw[ho]at hq;injection hq with h1 h2;subst h1;subst h2;unfold apO at ho;by_cases hw:p.width ws=0
  ·rw[if_pos hw]at ho;cases ho
  ·rw[if_neg hw]at ho
   obtain rfl:φ=fun _=>none:=by
    funext id
    cases h:φ id with
    | none=>rfl
    | some p=>exact absurd (h0 id (by rw[h];simp)) (zB5 _)
   exact AH8 hw ho hi hr
def AeB:FuncId→Bool
 | 32=>true
 | g=>AJY g
noncomputable def AJT:FuncId→Option (List AV→StL→Option (AV×StL))
 | 5=>none
 | 16=>none
 | 9=>some EQ
 | 32=>some (AUQ (AWF C0 32))
 | 33=>some (aH CR 33)
 | g=>AFJ g
noncomputable def CA:Ctx:={ P:=Tryz.prog,G:=GS,ownArgs:=AeB,keepRes:=APC,eqT:=MU,prim:=AJT }
@[simp] theorem BA8:CA.P=Tryz.prog:=(rfl)
@[simp] theorem BA9 (f):CA.G f=GS f:=(rfl)
@[simp] theorem BA5 (f):CA.ownArgs f=AeB f:=(rfl)
@[simp] theorem BA6 (f):CA.keepRes f=(keepR f || decide (f=80)):=(rfl)
@[simp] theorem BA7 (f):CA.eqT f=MU f:=(rfl)
@[simp] theorem BA4:CA.tree=false:=(rfl)
theorem AZF:PrimOk CA:=by
 constructor
 ·intro g args st p h;unfold dH at h
  cases hq:CA.prim g with
  | none=>rw[hq]at h;cases h
  | some q =>
   rw[hq]at h;have hq:AJT g=some q:=hq;unfold AJT at hq;split at hq
   all_goals first
    | (cases hq;done)
    | (injection hq with hq;subst hq;exact NI h)
    | (injection hq with hq;subst hq;exact(LV (C:=CA) (fun args stl r stl' h=>ND dE h) (r:=p.1) (stl':=p.2) h).1)
    | (injection hq with hq;subst hq;exact(bH AIN).name _ _ _ _ (by decide) h)
    | exact AJP.name g args st p (by unfold dH;rw[show CR.prim g=some q from hq];exact h)
 ·intro g args st r st' h w m φ vs hi hr hb;unfold dH at h
  cases hq:CA.prim g with
  | none=>rw[hq]at h;cases h
  | some q =>
   rw[hq]at h;have hq:AJT g=some q:=hq;unfold AJT at hq;split at hq
   all_goals first
    | (cases hq;done)
    | (injection hq with hq;subst hq;exact IR h w m φ vs hi hr hb)
    | (injection hq with hq;subst hq;exact(LV (C:=CA) (fun args stl r stl' h=>ND dE h) h).2 w m φ vs hi hr hb)
    | (injection hq with hq;subst hq;exact(bH AIN).calls _ _ _ _ _ (by decide) h w m φ vs hi hr hb)
    | exact AJP.calls g args st r st' (by unfold dH;rw[show CR.prim g=some q from hq];exact h) w m φ vs hi hr hb
theorem ATV:SoundOk CA:=mO (C:=CA) ft nt eqS mo AZF
theorem AQQ {p q:Pn} {ws:List Int} {r:Int} {path:List Int} (h:apO p ws r path=some q):q.thin∧p.width ws≠0∧q.width ws=p.width ws:=by
 unfold apO at h;by_cases h0:p.width ws=0
 ·rw[if_pos h0]at h;cases h
 ·rw[if_neg h0]at h;obtain⟨hw,hp8,hv⟩:=oJ h0;rw[AMP (EA hw) hp8]at h;have:=AST (EA hw) hp8 h;exact⟨eH q 8 (by rw[this];exact hp8),h0,by unfold Pn.width;rw[if_pos hw,if_pos hw];exact this⟩
theorem RN (p:Pn) (hp:p.thin) (ws:List Int) (hl:ws.length<1000000000) (r:Int) (path:List Int) (hpl:path.length<1000000000):aH C0 18 [.i (.agg p.cells), .i (.isl (aG ws)), .i (.agg [.int r, .isl (aG path)])] []=some (apR (apO p ws r path)):=by
 have c1:=EY p (Pn.wP p hp) ws (by omega);rw[aD rfl Tryz.func18 rfl rfl];unfold apO;by_cases h0:p.width ws=0
 ·simp only[Pn.aA p]at c1 ⊢;simp[c1,h0,apR,Pn.zero,Pn.cells,Ex.aB,aG,Pn.aB]
 ·obtain⟨hw,hp8,hv⟩:=oJ h0;by_cases h8:path.length≤8
  ·have c2:=wL hw hp8 r (path:=path) (by omega);rw[← AMP (EA hw) hp8]at c2;have n8:¬ (8:Int)<path.length:=by omega
   cases hq:apI ws r path p with
   | none =>
    rw[hq]at c2;simp only[Pn.aA p]at c1 c2 ⊢;simp[AGF,Pn.zero,Pn.cells,Ex.aB,aG,Pn.aB]at c2;simp[c1,h0,c2,n8,apR,Pn.zero,Pn.cells,Ex.aB,aG,Pn.aB]
   | some q =>
    rw[hq]at c2;simp only[Pn.aA p,Pn.aA q,AGF,zA]at c1 c2 ⊢;simp at c2;simp[c1,h0,c2,n8,apR,Pn.aA q]
  ·have n8:(8:Int)<path.length:=by omega
   have hq:apI ws r path p=none:=by unfold apI;rw[if_neg h8]
   simp only[Pn.aA p]at c1 ⊢;simp[c1,h0,n8,hq,apR,Pn.zero,Pn.cells,Ex.aB,aG,Pn.aB]
end Go.Proofs.YtnmimmaahhlgeaaGreat.P
namespace Go.Av
def jkL (i:Nat) (l:StL):StL:=if i=0 then []else l
@[simp] theorem AkP (l:StL):jkL 0 l=[]:=(rfl)
@[simp] theorem AbU (i:Nat) (l:StL):jkL (i+1) l=l:=(rfl)
def jA (i:Nat) (v:AV):AV:=if i=0 then .junk else v
@[simp] theorem At1 (v:AV):jA 0 v=.junk:=(rfl)
@[simp] theorem Ad2 (i:Nat) (v:AV):jA (i+1) v=v:=(rfl)
end Go.Av
namespace Go.Proofs.YtnmimmaahhlgeaaGreat.P
open Go Go.Av
set_option maxRecDepth 4000
set_option maxHeartbeats 1000000
set_option maxHeartbeats 4000000
end Go.Proofs.YtnmimmaahhlgeaaGreat.P
namespace Go.Av
end Go.Av
namespace Go.Proofs.YtnmimmaahhlgeaaGreat.P
open Go Go.Av
set_option maxRecDepth 4000
set_option maxHeartbeats 4000000
structure SSt where
 q:Pn
 L:List Stp
 p:Int
 b:Bool
theorem AEM (l:List Stp) (k:Nat):mY (l.take k)=(mY l).take k:=by simp[mY,xE]
set_option maxHeartbeats 8000000
set_option maxHeartbeats 2000000
end Go.Proofs.YtnmimmaahhlgeaaGreat.P
namespace Go.Av
end Go.Av
namespace Go.Proofs.YtnmimmaahhlgeaaGreat.P
open Go Go.Av
set_option maxRecDepth 4000
set_option maxHeartbeats 2000000
end Go.Proofs.YtnmimmaahhlgeaaGreat.P
namespace Go.Av
end Go.Av
namespace Go.Proofs.YtnmimmaahhlgeaaGreat.P
open Go Go.Av
set_option maxRecDepth 4000
set_option maxHeartbeats 4000000
def jB (i k:Nat):AV:=if k=0 then jk i (.bool false)else .bool true
@[simp] theorem At0 (i:Nat):jB i 0=jk i (.bool false):=(rfl)
@[simp] theorem Ad1 (i k:Nat):jB i (k+1)=.bool true:=(rfl)
end Go.Proofs.YtnmimmaahhlgeaaGreat.P
namespace Go.Proofs.YtnmimmaahhlgeaaGreat
open Go Go.Av
set_option maxRecDepth 4000
theorem rV (a b:Val) (ha:a.ok=true) (hb:b.ok=true):aH C0 154 [.i (.agg [.bool a.null, .int a.n]), .i (.agg [.bool b.null, .int b.n])] []=some (.int (Val.cmp a b),[]):=by
 rw[aD rfl Tryz.func154 rfl rfl];obtain⟨an,a⟩:=a;obtain⟨bn,b⟩:=b
 cases an<;>cases bn<;>simp[Val.ok]at ha hb
 ·by_cases h1:a=b
  ·subst h1;simp[Val.cmp]
  ·by_cases h2:a<b
   ·simp[Val.cmp,h1,h2]
   ·have:b<a:=by omega
    simp[Val.cmp,h1,h2,this]
 ·subst hb;by_cases h1:a=0<;>simp[Val.cmp,h1]
 ·subst ha;simp[Val.cmp]
 ·subst ha;subst hb;simp[Val.cmp]
end Go.Proofs.YtnmimmaahhlgeaaGreat
namespace Go.Av
abbrev LeK (cs:List Int) (a b:List Val):Prop:=fA (aZ cs a) (aZ cs b)=true
abbrev jX (cs:List Int) (l:List (List Val)):Prop:=l.Pairwise (LeK cs)
theorem LeK.refl (cs:List Int) (a:List Val):LeK cs a a:=oL _
theorem LeK.trans {cs:List Int} {a b c:List Val} (h1:LeK cs a b) (h2:LeK cs b c):LeK cs a c:=oZ h1 h2
theorem AO5 {cs:List Int} {l:List (List Val)} (h:jX cs l):(l.map (aZ cs)).Pairwise (fun a b=>fA a b=true):=List.pairwise_map.2 h
def swp {α:Type} (l:List α) (i j:Nat) (x y:α):List α:=(l.set i y).set j x
theorem set_mid {α:Type} (P:List α) (a b:α) (S:List α) {i:Nat} (hi:i=P.length):(P++a::S).set i b=P++b::S:=by
 subst hi;rw[zD6 _ _ (zJ _),zG6];rfl
theorem ATC {α:Type} (P M S:List α) (a b:α) {i j:Nat} (hi:i=P.length) (hj:j=P.length+1+M.length):swp (P++a::(M++b::S)) i j a b=P++b::(M++a::S):=by
 unfold swp;rw[set_mid P a b _ hi];have:P++b::(M++b::S)=(P++b::M)++b::S:=by simp
 rw[this,set_mid _ b a S (by simp;omega)];simp
theorem kC {α:Type} (P:List α) (a:α) (S:List α) {i:Nat} (hi:i=P.length):(P++a::S)[i]?=some a:=by
 subst hi;rw[zN (zJ _),zG6];rfl
theorem jE (l:List (List Val)) (i:Nat) (r:List Val):(aM l).set i [.isl (aP r)]=aM (l.set i r):=by
 unfold aM;rw[List.map_set]
theorem MG {cs:List Int} {u1 u2 v1 v2:List (List Val)} (hu:jX cs (u1++u2)) (hv:jX cs (v1++v2))
 (h1:u1=[]∨v2=[]∨∃ x y,u1.getLast?=some x∧v2.head?=some y∧LeK cs x y) (h2:v1=[]∨u2=[]∨∃ x y,v1.getLast?=some x∧u2.head?=some y∧LeK cs x y) :
 ∀ x∈u1++v1,∀ y∈u2++v2,LeK cs x y:=by
 have last:∀ {u:List (List Val)} {x z},jX cs u→u.getLast?=some z→x∈u→LeK cs x z:=by
  intro u x z hs hz hx
  have hd:u=u.dropLast++[z]:=by
   have hne:u≠[]:=fun e=>by subst e;simp at hz
   have h3:=yF hne;rw[zA7 hne]at hz;injection hz with hz;rw[hz]at h3;exact h3.symm
  rw[hd]at hs hx;rw[jX,yC]at hs
  rcases zT.1 hx with hx|hx
  ·exact hs.2.2 x hx z (by simp)
  ·simp at hx;subst hx;exact .refl _ _
 have first:∀ {u:List (List Val)} {y z},jX cs u→u.head?=some z→y∈u→LeK cs z y:=by
  intro u y z hs hz hy
  cases u with
  | nil=>simp at hz
  | cons a u =>
   simp at hz;subst hz
   rcases zP.1 hy with rfl|hy
   ·exact .refl _ _
   ·exact(y8.1 hs).1 y hy
 have hu':=yC.1 hu;have hv':=yC.1 hv;intro x hx y hy
 rcases zT.1 hx with hx|hx<;>rcases zT.1 hy with hy|hy
 ·exact hu'.2.2 x hx y hy
 ·rcases h1 with rfl|rfl|⟨a,b,ha,hb,hab⟩
  ·simp at hx
  ·simp at hy
  ·exact((last hu'.1 ha hx).trans hab).trans (first hv'.2.1 hb hy)
 ·rcases h2 with rfl|rfl|⟨a,b,ha,hb,hab⟩
  ·simp at hx
  ·simp at hy
  ·exact((last hv'.1 ha hx).trans hab).trans (first hu'.2.1 hb hy)
 ·exact hv'.2.2 x hx y hy
theorem ZV {cs:List Int} {l m:List (List Val)} (h1:jX cs l) (h2:jX cs m) (h:∀ x∈l,∀ y∈m,LeK cs x y):jX cs (l++m) :=
 yC.2 ⟨h1,h2,h⟩
theorem sD {cs:List Int} {a b:List Val} (h:¬ bR (aZ cs b) (aZ cs a)<0):LeK cs a b:=by
 have:=iU (aZ cs b) (aZ cs a);unfold LeK fA;simp;omega
theorem EE {cs:List Int} {a b:List Val} (h:bR (aZ cs a) (aZ cs b)<0):LeK cs a b:=by
 unfold LeK fA;simp;omega
theorem TA {cs:List Int} {A B:List (List Val)} {x:List Val} (h:jX cs (A++B)) (h1:A=[]∨∃ y,A.getLast?=some y∧LeK cs y x) (h2:B=[]∨∃ y,B.head?=some y∧LeK cs x y):jX cs (A++x::B):=by
 have h':=yC.1 h;have hx:jX cs ([x]++([]:List (List Val))):=by simp[jX]
 have k:=MG (u1:=A) (u2:=B) (v1:=[x]) (v2:=[]) h (by simp) (.inr (.inl rfl)) (by
  rcases h2 with h2|⟨y,h2,h3⟩
  ·exact .inr (.inl h2)
  ·exact .inr (.inr ⟨x,y,rfl,h2,h3⟩))
 have k2:=MG (u1:=A) (u2:=B) (v1:=[]) (v2:=[x]) h (by simp) (by
  rcases h1 with h1|⟨y,h1,h3⟩
  ·exact .inl h1
  ·exact .inr (.inr ⟨y,x,h1,rfl,h3⟩)) (.inl rfl)
 rw[jX,yC,y8];refine⟨h'.1,⟨fun b hb=>k x (by simp) b (by simp[hb]),h'.2.1⟩,fun a ha b hb=>?_⟩
 rcases zP.1 hb with rfl|hb
 ·exact k2 a (by simp[ha]) b (by simp)
 ·exact h'.2.2 a ha b hb
theorem lH {C:Ctx} {G:List Nat} {na:Nat} {b:Code} {Q:AExit×AS→Prop} (I:Nat→AS→Prop) (hs:∀ k S,I k S→(∃ S1 k',dD C G na b S=some (.normal,S1)∧k'<k∧I k' S1)∨(∃ e T,dD C G na b S=some (e,T)∧e≠.normal∧Q (e,T))) :
 ∀ k S,I k S→∃ r,dD C G na (.loop b) S=some r∧Q r:=by
 intro k
 induction k using Nat.strongRecOn with
 | ind k ih =>
  intro S h
  rcases hs k S h with ⟨S1,k',h1,h2,h3⟩|⟨e,T,h1,h2,h3⟩
  ·obtain⟨r,h4,h5⟩:=ih k' h2 S1 h3;exact⟨r,AKE h1 h4,h5⟩
  ·exact⟨_,AKF h1 h2,h3⟩
end Go.Av
namespace Go.Proofs.YtnmimmaahhlgeaaGreat
open Go Go.Av
set_option maxRecDepth 4000
set_option maxHeartbeats 2000000
@[simp] theorem AbV (n:Int):aH C0 214 [.int n] []=some (.bool false,[]):=by
  rw[aD rfl Tryz.func214 rfl rfl];simp
theorem U2 (a b:Int):aH C0 196 [.int a, .int b] []=some (.int (if a<b then -1 else if b<a then 1 else 0),[]):=by
 rw[aD rfl Tryz.func196 rfl rfl];by_cases h1:a<b
 ·simp[h1]
 ·by_cases h2:b<a<;>simp[h1,h2]
theorem JP (a b:Val):aH C0 179 [.i (.agg [.bool a.null, .int a.n]), .i (.agg [.bool b.null, .int b.n])] []=some (.int (Val.cmp a b),[]):=by
 have h:=U2 a.n b.n;rw[aD rfl Tryz.func179 rfl rfl];obtain⟨an,a⟩:=a;obtain⟨bn,b⟩:=b
 cases an<;>cases bn<;>simp[Val.cmp,h]
theorem vF:∀ a b:List Val,∃ j,(∀ i,i<j→∃ x y,a[i]?=some x∧b[i]?=some y∧Val.cmp x y=0)∧((a.length=j∧b.length=j∧bR a b=0)∨(a.length=j∧j<b.length∧bR a b=-1)∨(j<a.length∧b.length=j∧bR a b=1)∨(∃ x y,a[j]?=some x∧b[j]?=some y∧Val.cmp x y≠0∧bR a b=Val.cmp x y))
 | [],[]=>⟨0,by omega, .inl ⟨rfl,rfl,rfl⟩⟩
 | [],_::_=>⟨0,by omega, .inr (.inl ⟨rfl,by simp,rfl⟩)⟩
 | _::_,[]=>⟨0,by omega, .inr (.inr (.inl ⟨by simp,rfl,rfl⟩))⟩
 | x::a,y::b=>by
  by_cases h:Val.cmp x y=0
  ·obtain⟨j,h1,h2⟩:=vF a b;refine⟨j+1,?_,?_⟩
   ·intro i hi
    cases i with
    | zero=>exact⟨x,y,rfl,rfl,h⟩
    | succ i=>exact h1 i (by omega)
   ·simp only[bR,h,if_true,zM,zC9]
    rcases h2 with ⟨e1,e2,e3⟩|⟨e1,e2,e3⟩|⟨e1,e2,e3⟩|h2
    ·exact .inl ⟨by omega,by omega,e3⟩
    ·exact .inr (.inl ⟨by omega,by omega,e3⟩)
    ·exact .inr (.inr (.inl ⟨by omega,by omega,e3⟩))
    ·exact .inr (.inr (.inr h2))
  ·exact⟨0,by omega, .inr (.inr (.inr ⟨x,y,rfl,rfl,h,by simp[bR,h]⟩))⟩
def AR1 (l:List Val) (i:Nat):Option Blk:=some (.box [.bool ((l[i-1]?).getD Val.zero).null, .int ((l[i-1]?).getD Val.zero).n])
def CFX (a b:List Val) (i:Nat):AS :=
 { env:=[(0, .i (.isl (aP a))),(1, .i (.isl (aP b))),(2, .fn (.func 179) []),(6, .int 0),(7,jk i (.int ((i:Int)-1))),(8,if i=0 then .junk else .own 0 0),(9,if i=0 then .junk else .own 1 0),(10,jk i (.int 0)),(11, .i (.isl (aP a))),(12, .int a.length),(13, .int i),(14,jk i (.bool true)),(21,jk i (.bool false)),(31,jk i (.bool false)),(38, .junk)],
   st:=if i=0 then []else [AR1 a i,AR1 b i] }
theorem OI (a b:List Val) (ha:a.length<1000000) (hb:b.length<1000000):aH C0 178 [.i (.isl (aP a)), .i (.isl (aP b)), .fn (.func 179) []] []=some (.int (bR a b),[]):=by
 rw[aD rfl Tryz.func178 rfl rfl];obtain⟨j,h1,h2⟩:=vF a b;simp;rw[aT (CFX a b) j (by simp[CFX])]
 ·rw[aF]
  rcases h2 with ⟨e1,e2,e3⟩|⟨e1,e2,e3⟩|⟨e1,e2,e3⟩|⟨x,y,e1,e2,e3,e4⟩
  ·by_cases h0:j=0
   ·subst h0;simp[CFX,e1,e2,e3]
   ·simp[CFX,AR1,h0,e1,e2,e3]
  ·by_cases h0:j=0
   ·subst h0;simp[CFX,e1,e2,e3]
   ·simp[CFX,AR1,h0,e1,e2,e3]
  ·obtain⟨x,hx⟩:∃ x,a[j]?=some x:=⟨_,zX e1⟩
   have r1:=bZ hx;have w1:=bB;by_cases h0:j=0
   ·subst h0;simp[CFX,e1,e2,e3,r1]
   ·simp[CFX,AR1,h0,e1,e2,e3,r1]
  ·have r1:=bZ e1;have r2:=bZ e2;have l1:=(zY.1 e1).1;have l2:=(zY.1 e2).1;have hc:=JP x y;have hz:¬ (b.length:Int)≤j:=by omega
   have hz':¬ b.length≤j:=by omega
   by_cases h0:j=0
   ·subst h0;simp at hz;simp[CFX,e3,e4,r1,r2,l1,l2,hc,hz]
   ·simp[CFX,AR1,h0,e3,e4,r1,r2,l1,l2,hc,hz,hz']
 ·intro i hi;obtain⟨x,y,e1,e2,e3⟩:=h1 i hi;have r1:=bZ e1;have r2:=bZ e2;obtain⟨l1,g1⟩:=zY.1 e1;obtain⟨l2,g2⟩:=zY.1 e2;have hc:=JP x y;have hz:¬ (b.length:Int)≤i:=by omega
  have hz':¬ b.length≤i:=by omega
  have w2:IntKind.i64.wrap ((i:Int)+1)=i+1:=wrO;by_cases h0:i=0
  ·subst h0;simp at hz;simp[CFX,AR1,e1,e2,e3,r1,r2,l1,l2,hc,hz,bB,g1,g2]
  ·simp[CFX,AR1,h0,e1,e2,e3,r1,r2,l1,l2,hc,hz,hz',w2,g1,g2]
theorem kH (a b:List Val) (ha:a.length<1000000) (hb:b.length<1000000):aH C0 136 [.i (.isl (aP a)), .i (.isl (aP b))] []=some (.int (bR a b),[]):=by
 have h:=OI a b ha hb;rw[aD rfl Tryz.func136 rfl rfl];simp[h]
def SCX (a b:List Val) (i:Nat):AS :=
 { env:=[(0, .i (.isl (aP a))),(1, .i (.isl (aP b))),(4, .int 0),(5, .int i),(6,jk i (.int 0)),(16,jk i (.bool true)),(29,jk i (.bool false))],st:=[] }
theorem oW (a b:List Val) (hl:a.length=b.length) (ha:a.length<1000000) (oa:a.all Val.ok=true) (ob:b.all Val.ok=true):aH C0 101 [.i (.isl (aP a)), .i (.isl (aP b))] []=some (.int (bR a b),[]):=by
 rw[aD rfl Tryz.func101 rfl rfl];obtain⟨j,h1,h2⟩:=vF a b;have hoa:=zR.1 oa;have hob:=zR.1 ob;have w0:=AY0;simp;rw[aT (SCX a b) j (by simp[SCX])]
 ·rw[aF]
  rcases h2 with ⟨e1,e2,e3⟩|⟨e1,e2,e3⟩|⟨e1,e2,e3⟩|⟨x,y,e1,e2,e3,e4⟩
  ·simp[SCX,e1,e2,e3,w0]
  ·omega
  ·omega
  ·have r1:=bZ e1;have r2:=bZ e2;have l1:=(zY.1 e1).1;have l2:=(zY.1 e2).1;have hc:=rV x y (hoa _ (zV e1)) (hob _ (zV e2));simp[SCX,e3,e4,r1,r2,l1,l2,hc]
 ·intro i hi;obtain⟨x,y,e1,e2,e3⟩:=h1 i hi;have r1:=bZ e1;have r2:=bZ e2;obtain⟨l1,g1⟩:=zY.1 e1;obtain⟨l2,g2⟩:=zY.1 e2;have hc:=rV x y (hoa _ (zV e1)) (hob _ (zV e2));have w2:IntKind.i64.wrap ((i:Int)+1)=i+1:=wrO;simp[SCX,e3,r1,r2,l1,l2,hc,w2]
def SVX (a:List Val) (i:Nat):AS :=
 { env:=[(0, .i (.isl (aP a))),(2, .bool false),(3, .int i),(7,jk i (.bool true)),(15,jk i (.bool false))],st:=[] }
theorem GU (a:List Val) (ha:a.length<1000000):aH C0 100 [.i (.isl (aP a))] []=some (.bool (vN a),[]):=by
 rw[aD rfl Tryz.func100 rfl rfl];obtain⟨j,h1,h2⟩:=fZ Val.ok a;simp;rw[aT (SVX a) j (by simp[SVX])]
 ·rw[aF]
  rcases h2 with ⟨hj,ha⟩|⟨v,h3,h4,h5,ha⟩
  ·simp[SVX,hj,ha,vN,bG]
  ·have r1:=(zY.1 h3).1;have r2:=bZ h3;have r3:Val.ok ⟨v.null,v.n⟩=false:=h5;simp[SVX,r1,r2,r3,ha,vN]
 ·intro i hi;obtain⟨v,h3,h4,h5⟩:=h1 i hi;have r1:=(zY.1 h3).1;have r2:=bZ h3;have r3:Val.ok ⟨v.null,v.n⟩=true:=h5;have w2:IntKind.i64.wrap ((i:Int)+1)=i+1:=wrO;simp[SVX,r1,r2,r3,w2]
theorem QP (a:List Val) (ha:a.length<1000000) (hn:a≠[]):aH C0 84 [.i (.isl (aP a))] []=some (.osl 0 2 0 a.length,[some (.arr 2 (aP a))]):=by
 rw[aD rfl Tryz.func84 rfl rfl];have hb:a.length*16≤140737488355328:=by omega
 simp[hn,hb]
theorem AVE {l:List (List Val)} {r:List Val}:∀ (k:Nat),k≤l.length→(∀ i x,i<k→l[i]?=some x→fA x r=true)→(∀ x,l[k]?=some x→fA x r=false)→AHP l r=l.take k++r::l.drop k:=by
 intro k hk h1 h2;unfold AHP
 suffices H:l.takeWhile (fun x=>fA x r)=l.take k∧l.dropWhile (fun x=>fA x r)=l.drop k by rw[H.1,H.2]
 induction k generalizing l with
 | zero =>
  cases l with
  | nil=>simp
  | cons a l=>have:=h2 a rfl;simp[this]
 | succ k ih =>
  cases l with
  | nil=>simp at hk
  | cons a l =>
   have ha:=h1 0 a (by omega) rfl;obtain⟨i1,i2⟩:=ih (l:=l) (by simpa using hk) (fun i x hi hx=>h1 (i+1) x (by omega) (by simpa using hx)) (fun x hx=>h2 x (by simpa using hx));simp[ha,i1,i2]
def ISX (l:List (List Val)) (r:List Val) (n lo hi:Nat) (m:Int) (c:Bool) (g:AV):AS :=
 { env:=[(0, .i (.isl (aM l))),(1, .i (.isl (aP r))),(4, .nils),(5, .int lo),(6, .int hi),(7,jk n (.int m)),(8, .junk),(13,g),(24,jk n (.bool c))],st:=[] }
theorem ATU {l:List (List Val)} (hs:Srt l) {i j:Nat} {x y:List Val} (hi:l[i]?=some x) (hj:l[j]?=some y) (h:i≤j):fA x y=true:=by
 obtain⟨h1,rfl⟩:=zY.1 hi;obtain⟨h2,rfl⟩:=zY.1 hj;by_cases e:i=j
 ·subst e;exact oL _
 ·exact zE6.1 hs i j h1 h2 (by omega)
theorem IC (l:List (List Val)) (r:List Val) (hl:l.length<1000000) (hr:r.all Val.ok=true) (hrl:r.length<1000000) (hr0:r≠[]) (hrows:∀ x∈l,x.all Val.ok=true∧x.length=r.length) (hs:Srt l):aH C0 116 [.i (.isl (aM l)), .i (.isl (aP r))] []=some (.osl 0 1 0 (l.length+1),[some (.arr 1 (aM (AHP l r)))]):=by
 rw[aD rfl Tryz.func116 rfl rfl];simp;generalize hX:dD C0 _ _ (Code.loop _) _=X
 have key:∃ rr,X=some rr∧∃ (n k:Nat) (m:Int) (c:Bool),rr=(.exit 0,ISX l r n k k m c (.bool false))∧k≤l.length∧(∀ i x,i<k→l[i]?=some x→fA x r=true)∧(∀ x,l[k]?=some x→fA x r=false):=by
  rw[← hX];refine lH (fun d S=>∃ (n lo hi:Nat) (m:Int) (c:Bool),S=ISX l r n lo hi m c (jk n (.bool true))∧lo≤hi∧hi≤l.length∧d=hi-lo∧(∀ i x,i<lo→l[i]?=some x→fA x r=true)∧(∀ x,hi<l.length→l[hi]?=some x→fA x r=false)) ?_ l.length _ ⟨0,0,l.length,0,true,by simp[ISX],by omega,by omega,by omega,by omega,by omega⟩;rintro d S ⟨n,lo,hi,m,c,rfl,a1,a2,a3,a4,a5⟩;by_cases hlt:lo<hi
  ·left
   obtain⟨x,hx⟩:∃ x,l[(lo+hi) / 2]?=some x:=⟨_,zX (by omega)⟩
   have hxm:=hrows x (zV hx);have r1:=bW hx;have hc:=oW x r hxm.2 (by omega) hxm.1 hr;have w1:IntKind.i64.wrap ((lo:Int)+hi)=lo+hi:=wrO
   have w2:IntKind.i64.wrap (((lo:Int)+hi).tdiv 2)=(((lo+hi) / 2:Nat):Int):=by
    have e:((lo:Int)+hi).tdiv 2=(((lo+hi) / 2:Nat):Int):=by
     rw[Int.tdiv_eq_ediv_of_nonneg (by omega)];omega
    rw[e];exact wrO
   have w3:IntKind.i64.wrap ((((lo+hi) / 2:Nat):Int)+1)=(((lo+hi) / 2+1:Nat):Int):=by rw[wrO];omega
   have hmid:(lo+hi) / 2<l.length:=by omega
   have hlo:lo≤(lo+hi) / 2:=by omega
   have hhi:(lo+hi) / 2<hi:=by omega
   generalize (lo+hi) / 2=mid at *
   by_cases hle:bR x r≤0
   ·refine⟨ISX l r 1 (mid+1) hi mid true (.bool true),hi-(mid+1),?_,by omega,1,mid+1,hi,mid,true,rfl,by omega,a2,rfl,fun i y hi' hy=>?_,a5⟩
    ·simp[ISX,hlt,w1,w2,w3,hmid,r1,hc,hle]
    ·exact oZ (ATU hs hy hx (by omega)) (by unfold fA;simpa using hle)
   ·refine⟨ISX l r 1 lo mid mid false (.bool true),mid-lo,?_,by omega,1,lo,mid,mid,false,rfl,by omega,by omega,rfl,a4,fun y _ hy=>?_⟩
    ·simp[ISX,hlt,w1,w2,w3,hmid,r1,hc,hle]
    ·rw[hx]at hy;injection hy with hy;subst hy;unfold fA;simpa using hle
  ·right;obtain rfl:lo=hi:=by omega
   refine⟨.exit 0,ISX l r n lo lo m c (.bool false),?_,by simp,n,lo,m,c,rfl,a2,a4,fun x hx=>a5 x (zY.1 hx).1 hx⟩;simp[ISX]
 obtain⟨rr,rfl,n,k,m,c,rfl,k1,k2,k3⟩:=key;have hcp:=QP r hrl hr0;have hb1:k*24≤140737488355328:=by omega
 have hb2:(k+1)*24≤140737488355328:=by omega
 have hb3:(k+1+(l.length-k))*24≤140737488355328:=by omega
 have hkl:(k:Int)≤l.length:=by omega
 have hmin:min k l.length=k:=by omega
 have hT:(l.take k).length=k:=by simp;omega
 rw[AVE k k1 k2 k3];have e1:(l.take k).take k=l.take k:=by rw[zF,zB1]
 have e2:List.take (k+1) (aM (l.take k)++[[.isl (aP r)]])=aM (l.take k)++[[.isl (aP r)]]:=zZ (by simp;omega);have e3:List.take (l.length-k) (l.drop k)=l.drop k:=zZ (by simp);have e4:k+1+(l.length-k)=l.length+1:=by omega
 have hb4:(l.length+1)*24≤140737488355328:=by omega
 simp[ISX,hcp,hkl,k1,hmin,hb1,hb2,hb3,bV,bO,e1,e2,e3,e4,hb4]
end Go.Proofs.YtnmimmaahhlgeaaGreat
namespace Go.Av
def qP (t:Tbl) (i:Nat):Bool:=vN ((t.rows[i]?).getD []) && (decide ((((t.rows[i]?).getD []).length:Int)=t.w) && (decide (i=0) || fA ((t.rows[i-1]?).getD []) ((t.rows[i]?).getD [])))
theorem G5:∀ l:List (List Val),chainB l=true↔∀ i,0<i→i<l.length→fA ((l[i-1]?).getD []) ((l[i]?).getD [])=true
 | []=>by simp[chainB]
 | [a]=>by simp[chainB];omega
 | a::b::l=>by
  rw[chainB,zU,G5 (b::l)];constructor
  ·rintro⟨h1,h2⟩ i h0 hi
   match i,h0 with
   | 1,_=>simpa using h1
   | i+2,_=>have:=h2 (i+1) (by omega) (by simpa using hi);simpa using this
  ·intro h;refine⟨by simpa using h 1 (by omega) (by simp),fun i h0 hi=>?_⟩;have:=h (i+1) (by omega) (by simpa using hi)
   obtain⟨k,rfl⟩:∃ k,i=k+1:=⟨i-1,by omega⟩
   simpa using this
theorem AUG {t:Tbl} (h:∀ i,i<t.rows.length→qP t i=true):t.ok=(bG t.w && decide (t.rows.length≤400)):=by
 have h1:t.rows.all (rowOk t.w)=true:=by
  rw[zR];intro r hr;obtain⟨i,hi,rfl⟩:=List.getElem_of_mem hr;have:=h i hi;unfold qP at this;rw[zX hi]at this;simp only[zA,zU,vN]at this;unfold rowOk;rw[zU];exact⟨this.2.1,this.1.2⟩
 have h2:chainB t.rows=true:=(G5 _).2 fun i h0 hi=>by
  have:=h i hi;unfold qP at this;simp only[zU,zA2,zS]at this
  rcases this.2.2 with e|e
  ·omega
  ·exact e
 unfold Tbl.ok;rw[h1,h2];simp
theorem AZJ {t:Tbl} {i:Nat} (hi:i<t.rows.length) (h:qP t i=false):t.ok=false:=by
 cases ho:t.ok with
 | false=>rfl
 | true =>
  obtain⟨h1,h2,h3,h4⟩:=(Tbl.dN t).1 ho;have hr:=h3 _ (xY hi);have hc:=(G5 t.rows).1 (FZ.2 h4)
  have:qP t i=true:=by
   unfold qP;rw[zX hi];simp only[zA,zU,zA2,zS];have hl:=lD hr;refine⟨by unfold vN;rw[zU];exact⟨by rw[hl];exact h1,mP hr⟩,hl,?_⟩;by_cases e:i=0
   ·exact .inl e
   ·right;have:=hc i (by omega) hi;rw[zX hi]at this;simpa using this
  rw[this]at h;cases h
theorem XX (t:Tbl):∃ j,(∀ i,i<j→i<t.rows.length∧qP t i=true)∧((j=t.rows.length∧t.ok=(bG t.w && decide (t.rows.length≤400)))∨(j<t.rows.length∧qP t j=false∧t.ok=false)):=by
 obtain⟨j,h1,h2⟩:=fZ (qP t) (List.range t.rows.length)
 have h1':∀ i,i<j→i<t.rows.length∧qP t i=true:=by
  intro i hi;obtain⟨k,e,_,hp⟩:=h1 i hi;obtain⟨hl,e'⟩:=zY.1 e;simp at hl e';subst e';exact⟨hl,hp⟩
 refine⟨j,h1',?_⟩
 rcases h2 with ⟨e,_⟩|⟨k,e,_,hp,_⟩
 ·simp at e;exact .inl ⟨e,AUG fun i hi=>(h1' i (by omega)).2⟩
 ·obtain⟨hl,e'⟩:=zY.1 e;simp at hl e';subst e';exact .inr ⟨hl,hp,AZJ hl hp⟩
theorem vY {l:List (List Val)} {i:Nat} {r:List Val} (h:l[i]?=some r):dF (l.take (i+1))=AHP (dF (l.take i)) r:=by
 rw[aO h];unfold dF;rw[zA4];rfl
theorem ALQ:∀ (p:List Val) (l:List (List Val)) (x:List Val),dd p (l++[x])=dd p l++(if bR (((p::l).getLast?).getD []) x=0 then []else [x])
 | p,[],x=>by by_cases h:bR p x=0<;>simp[dd,h]
 | p,a::l,x=>by
  simp only[yR,dd,ALQ a l x,List.getLast?_cons_cons];split<;>simp
theorem AGO (l:List (List Val)) (x:List Val):iQ (l++[x])=iQ l++(if l≠[]∧bR ((l.getLast?).getD []) x=0 then []else [x]):=by
 cases l with
 | nil=>simp[iQ,dd]
 | cons a l=>simp only[yR,iQ,ALQ];simp
theorem AI9 {α:Type} {l:List α} {i:Nat} {a:α} (h:l[i]?=some a):(l.take (i+1)).getLast?=some a:=by rw[aO h];simp
end Go.Av
namespace Go.Proofs.YtnmimmaahhlgeaaGreat
open Go Go.Av
set_option maxRecDepth 4000
set_option maxHeartbeats 4000000
def TOX (w:Int) (l:List (List Val)) (i:Nat):AS :=
 { env:=[(0, .int w),(1, .i (.isl (aM l))),(4, .own 0 0),(5, .own 1 0),(6, .int i),(11, .bool false),(16,jk i (.bool true))],st:=[some (.box [.int 0, .nils]),some (.box [.int w,gro 2 1 i])]++vT 1 (aM (dF (l.take i))) i }
theorem ZR (w:Int) (l:List (List Val)) (n:Nat) (hn:n<1000000) (hn0:n≠0) (hl0:l.length<1000000) (hl:∀ x∈l,x.all Val.ok=true∧x.length=n):aH C0 64 [.int w, .i (.isl (aM l))] []=some (.i (.agg [.int w, .isl (aM (tab w l).rows)]),[]):=by
 rw[aD rfl Tryz.func64 rfl rfl];by_cases h:(400:Int)<l.length
 ·have:400<l.length:=by omega
  simp[h,tab,this,aM]
 ·have h':¬ 400<l.length:=by omega
  simp[h,tab,h'];rw[aT (TOX w l) l.length (by simp[TOX])]
  ·rw[aF];by_cases h0:l.length=0
   ·have:l=[]:=zW.1 h0;subst this;simp[TOX,dF,aM]
   ·have hT:(dF l).length=l.length:=bA l;have e1:List.take l.length (dF l)=dF l:=zZ (by omega);simp[TOX,aL h0,aI h0,hT,e1]
  ·intro i hi;have h3:=zX hi;have hm:=zV h3;have hsn:=vY h3;generalize l[i]=x at h3 hm hsn;have r1:=bW h3;have w2:IntKind.i64.wrap ((i:Int)+1)=i+1:=wrO;have hlen:(dF (l.take i)).length=i:=by rw[bA];simp;omega
   have e1:List.take i (dF (l.take i))=dF (l.take i):=zZ (by omega);have hx0:x≠[]:=fun e=>by have:=(hl x hm).2;subst e;simp at this;omega
   have hc:=IC (dF (l.take i)) x (by omega) (hl x hm).1 (by rw[(hl x hm).2];exact hn) hx0 (fun y hy=>by
    have:=hl y (zI (iB.1 hy));exact⟨this.1,by rw[this.2,(hl x hm).2]⟩) (rU _)
   rw[hlen]at hc;by_cases h0:i=0
   ·subst h0;have hs0:dF ([]:List (List Val))=[]:=rfl;simp[hs0,bI]at hc hsn;simp[TOX,hi,r1,hc,hsn,bB]
   ·simp[TOX,aL h0,aI h0,hi,r1,hc,hsn,w2,hlen,e1]
def VTX (t:Tbl) (i:Nat):AS :=
 { env:=[(0, .i (.agg [.int t.w, .isl (aM t.rows)])),(1, .own 0 0),(2, .bool false),(3, .int i),(8,jk i (.bool true)),(47,jk i (.bool false))],st:=[some (.box [.i (.int t.w), .i (.isl (aM t.rows))])] }
theorem AO (t:Tbl) (hl0:t.rows.length<1000000) (hl:∀ r∈t.rows,r.length<1000000):aH C0 46 [.i (.agg [.int t.w, .isl (aM t.rows)])] []=some (.bool t.ok,[]):=by
 rw[aD rfl Tryz.func46 rfl rfl];obtain⟨j,h1,h2⟩:=XX t
 have good:∀ i,i<j→∃ r,t.rows[i]?=some r∧vN r=true∧(r.length:Int)=t.w∧(i≠0→∃ q,t.rows[i-1]?=some q∧fA q r=true):=by
  intro i hi;obtain⟨k1,k2⟩:=h1 i hi;have e1:=zX k1;refine⟨_,e1,?_⟩;unfold qP at k2;rw[e1]at k2;simp only[zA,zU,zA2,zS]at k2;refine⟨k2.1,k2.2.1,fun h0=>?_⟩;have e2:=zX (show i-1<t.rows.length by omega);rw[e2]at k2;exact⟨_,e2,by rcases k2.2.2 with e|e;omega;simpa using e⟩
 simp;rw[aT (VTX t) j (by simp[VTX])]
 ·rw[aF]
  rcases h2 with ⟨e,ho⟩|⟨e,hb,ho⟩
  ·by_cases hw:1≤t.w∧t.w≤6
   ·by_cases h4:t.rows.length≤400
    ·have h4i:(t.rows.length:Int)≤400:=by omega
     simp[VTX,e,ho,bG,hw,h4,h4i]
    ·have h4i:¬ (t.rows.length:Int)≤400:=by omega
     have h4j:(400:Int)<t.rows.length:=by omega
     simp[VTX,e,ho,bG,hw,h4,h4i,h4j]
   ·simp[VTX,e,ho,bG,hw]
  ·have e1:=zX e;have hm:=zV e1;unfold qP at hb;rw[e1]at hb;generalize t.rows[j]=r at e1 hm hb;have r1:=bW e1;have c1:=GU r (hl r hm);by_cases v1:vN r=true
   ·by_cases v2:(r.length:Int)=t.w
    ·simp only[zA,v1,v2,zF8,zB8,Bool.or_eq_false_iff,zA8]at hb;obtain⟨hj0,hlt⟩:=hb;obtain⟨q,g1,g2,g3,_⟩:=good (j-1) (by omega);rw[g1]at hlt;have hgt:0<bR q r:=by simp[fA]at hlt;omega
     have q1:=bW g1;have w3:IntKind.i64.wrap ((j:Int)-1)=((j-1:Nat):Int):=by rw[wrO];omega
     have oq:q.all Val.ok=true:=by simp[vN]at g2;simpa using g2.2
     have or':r.all Val.ok=true:=by simp[vN]at v1;simpa using v1.2
     have hc:=oW q r (by omega) (hl q (zV g1)) oq or';have hjl:j-1<t.rows.length:=by omega
     have hjp:(0:Int)<j:=by omega
     have hjp':0<j:=by omega
     simp[VTX,e,ho,r1,c1,v1,v2,q1,w3,hc,hgt,hjl,hjp,hjp']
    ·simp[VTX,e,ho,r1,c1,v1,v2]
   ·simp[VTX,e,ho,r1,c1,v1]
 ·intro i hi;obtain⟨r,e1,v1,v2,v3⟩:=good i hi;have hm:=zV e1;have r1:=bW e1;have hil:=(h1 i hi).1;have c1:=GU r (hl r hm);have w2:IntKind.i64.wrap ((i:Int)+1)=i+1:=wrO;by_cases h0:i=0
  ·subst h0;simp[VTX,hil,r1,c1,v1,v2,bB]
  ·obtain⟨q,g1,g4⟩:=v3 h0;obtain⟨q',g1',g2,g3,_⟩:=good (i-1) (by omega);rw[g1]at g1';injection g1' with g1';subst g1'
   have hle:¬ 0<bR q r:=by simp[fA]at g4;omega
   have q1:=bW g1;have w3:IntKind.i64.wrap ((i:Int)-1)=((i-1:Nat):Int):=by rw[wrO];omega
   have oq:q.all Val.ok=true:=by simp[vN]at g2;simpa using g2.2
   have or':r.all Val.ok=true:=by simp[vN]at v1;simpa using v1.2
   have hc:=oW q r (by omega) (hl q (zV g1)) oq or';have hjl:i-1<t.rows.length:=by omega
   have hjp:(0:Int)<i:=by omega
   have hjp':0<i:=by omega
   simp[VTX,hil,r1,c1,v1,v2,q1,w3,hc,hle,hjl,hjp,hjp',w2]
end Go.Proofs.YtnmimmaahhlgeaaGreat
namespace Go.Av
theorem Tbl.AZI {t:Tbl} (h:t.ok=true):1≤t.w∧t.w≤6∧t.rows.length≤400∧∀ r∈t.rows,r.all Val.ok=true∧r.length=t.w.toNat∧(r.length:Int)=t.w:=by
 obtain⟨h1,h2,h3,h4⟩:=(Tbl.dN t).1 h;have hw:=(d9 _).1 h1;refine⟨hw.1,hw.2,h2,fun r hr=>?_⟩;have h5:=lD (h3 r hr);exact⟨mP (h3 r hr),by omega,h5⟩
theorem AQ0 {l:List (List Val)} {i:Nat} {r:List Val} (h:l[i]?=some r):iQ (l.take (i+1))=iQ (l.take i)++if i≠0∧bR ((l[i-1]?).getD []) r=0 then []else [r]:=by
 rw[aO h,AGO];have hi:=(zY.1 h).1
 cases i with
 | zero=>simp
 | succ i =>
  have e:=zX (show i<l.length by omega);rw[AI9 e]
  have hne:l.take (i+1)≠[]:=by
   intro e';have h5:(l.take (i+1)).length=i+1:=by rw[yK];omega
   rw[e']at h5;simp at h5
  simp[hne,e]
end Go.Av
namespace Go.Proofs.YtnmimmaahhlgeaaGreat
open Go Go.Av
set_option maxRecDepth 4000
set_option maxHeartbeats 4000000
end Go.Proofs.YtnmimmaahhlgeaaGreat
namespace Go.Av
theorem F7 {C:Ctx} {G:List Nat} {na:Nat} {b:Code} {S:AS} {d:Nat} {I:Nat→AS→Prop} (P:AS→Prop) (h:∃ S1,dD C G na b S=some (.normal,S1)∧P S1) (hP:∀ S1,P S1→∃ k',k'<d∧I k' S1):∃ S1 k',dD C G na b S=some (.normal,S1)∧k'<d∧I k' S1:=by
 obtain⟨S1,h1,h2⟩:=h;obtain⟨k',h3,h4⟩:=hP S1 h2;exact⟨S1,k',h1,h3,h4⟩
end Go.Av
namespace Go.Proofs.YtnmimmaahhlgeaaGreat
open Go Go.Av
set_option maxRecDepth 4000
set_option maxHeartbeats 8000000
theorem AG3 {e:Ex} {l:List (List Val)} {k:Nat} {y:List Val} (h:l[k]?=some y) (x:List Val):jH e (l.take (k+1)) x=jH e (l.take k) x++if isT e (x++y)=true then [x++y]else []:=by
 unfold jH;rw[aO h,yH,xN]
 cases hf:isT e (x++y)<;>simp[hf]
end Go.Proofs.YtnmimmaahhlgeaaGreat
namespace Go.Av
theorem AUV {ws:List Int} {p:Pn} {lv:Nat} (h:p.wd ws lv≠0) (hk:p.kids≠[]):∀ a∈p.kids,a.wd ws (lv-1)≠0:=by
 rw[Pn.AA]at h;obtain⟨h1,h2⟩:=gF h;split at h2
 ·rename_i hk1;exact absurd (Pn.tQ h1.1 hk1) hk
 ·obtain⟨h3,_⟩:=gF h2;exact fun a ha=>by simpa using zR.1 h3 a ha
theorem AVX {ws:List Int} {db:List Tbl} (hws:ws=db.map Tbl.w) (hdb:∀ t∈db,t.ok=true):∀ (p:Pn) (lv:Nat),p.wd ws lv≠0→p.cost db≤400*p.size:=by
 intro p
 induction p using Pn.ind with
 | h k t es cs ks ih =>
  intro lv h;have hg:=gW hws hdb _ lv h;have h400:=((Tbl.dN _).1 hg.1).2.1
  have hkids:∀ a∈ks,a.cost db≤400*a.size:=by
   intro a ha;by_cases hk:ks=[]
   ·subst hk;simp at ha
   ·have:=AUV (p:=.mk k t es cs ks) h hk a ha;exact ih a ha _ this
  have hsum:Pn.FW db ks≤400*Pn.cZ ks:=by
   clear ih hg h400 h
   induction ks with
   | nil=>simp[Pn.FW]
   | cons a l ihl =>
    have h1:=hkids a (by simp);have h2:=ihl fun x hx=>hkids x (by simp[hx])
    simp only[Pn.FW,Pn.cZ];omega
  rw[Pn.wE,Pn.size_eq];simp only[Pn.fU];omega
end Go.Av
namespace Go.Proofs.YtnmimmaahhlgeaaGreat
open Go Go.Av
set_option maxRecDepth 4000
set_option maxHeartbeats 8000000
end Go.Proofs.YtnmimmaahhlgeaaGreat
namespace Go.Av
theorem TR {α:Type} [DecidableEq α]:∀ {a b:List α},a.length=b.length→∃ j,(∀ i,i<j→∃ x,a[i]?=some x∧b[i]?=some x)∧((j=a.length∧a=b)∨(∃ x y,a[j]?=some x∧b[j]?=some y∧x≠y∧a≠b))
 | [],[],_=>⟨0,by omega, .inl ⟨rfl,rfl⟩⟩
 | [],_::_,h=>by simp at h
 | _::_,[],h=>by simp at h
 | x::a,y::b,h=>by
  by_cases e:x=y
  ·subst e;obtain⟨j,h1,h2⟩:=TR (a:=a) (b:=b) (by simpa using h);refine⟨j+1,?_,?_⟩
   ·intro i hi
    cases i with
    | zero=>exact⟨x,rfl,rfl⟩
    | succ i=>simpa using h1 i (by omega)
   ·rcases h2 with ⟨e1,e2⟩|⟨u,v,e1,e2,e3,e4⟩
    ·exact .inl ⟨by simp[e1],by rw[e2]⟩
    ·exact .inr ⟨u,v,by simpa using e1,by simpa using e2,e3,by simpa using e4⟩
  ·exact⟨0,by omega, .inr ⟨x,y,rfl,rfl,e,by simp[e]⟩⟩
def Tbl.small (t:Tbl):Prop:=t.rows.length<1000000∧∀ r∈t.rows,r.length<1000000
theorem Tbl.ACM {t:Tbl} (h:t.ok=true):t.small:=by
 obtain⟨w1,w2,l1,r1⟩:=Tbl.AZI h;exact⟨by omega,fun r hr=>by have:=(r1 r hr).2.1;omega⟩
def J3 (p:Pn) (db:List Tbl):Bool:=db.all Tbl.ok && decide (p.width (db.map Tbl.w)≠0)
end Go.Av
namespace Go.Proofs.YtnmimmaahhlgeaaGreat
open Go Go.Av
set_option maxRecDepth 4000
set_option maxHeartbeats 8000000
def SWX (db:List Tbl) (i:Nat):AS :=
 { env:=[(0, .i (.isl (jL db))),(2, .nils),(3, .osl 0 1 0 i),(4, .int i),(9,jk i (.bool true)),(17,jk i (.bool false))],st:=[some (.arr 1 (aG ((db.take i).map Tbl.w)))] }
theorem GQ (db:List Tbl) (hl:db.length<1000000) (hs:∀ t∈db,t.small):aH C0 24 [.i (.isl (jL db))] []=some (.i (.isl (aG (if db.all Tbl.ok=true then db.map Tbl.w else []))),[]):=by
 rw[aD rfl Tryz.func24 rfl rfl];obtain⟨j,h1,h2⟩:=fZ Tbl.ok db;simp;rw[aT (SWX db) j (by simp[SWX,aG])]
 ·rw[aF]
  rcases h2 with ⟨hj,ha⟩|⟨t,h3,h4,h5,ha⟩
  ·subst hj;have e1:List.take db.length (db.map Tbl.w)=db.map Tbl.w:=zZ (by simp);have ha':∀ x∈db,x.ok=true:=zR.1 ha;simp[SWX,e1];rw[if_pos ha']
  ·have hil:=(zY.1 h3).1;have q:=oU h3;have hv:=AO t (hs t h4).1 (hs t h4).2;rw[h5]at hv;have hna:¬ ∀ x∈db,x.ok=true:=fun h=>by rw[h t h4]at h5;cases h5
   simp[SWX,hil,q,hv,hna,aG]
 ·intro i hi;obtain⟨t,h3,h4,h5⟩:=h1 i hi;have hil:=(zY.1 h3).1;have q:=oU h3;have hv:=AO t (hs t h4).1 (hs t h4).2;rw[h5]at hv;have w3:IntKind.i64.wrap ((i:Int)+1)=i+1:=wrO;have hb:(i+1)*8≤140737488355328:=by omega
  have hT:(db.map Tbl.w).take (i+1)=(db.map Tbl.w).take i++[t.w]:=aO (by rw[zH,h3];rfl);have e1:List.take i (List.take i (db.map Tbl.w))=List.take i (db.map Tbl.w):=by rw[zF,zB1]
  have hmin:min i db.length=i:=by omega
  simp[SWX,hil,q,hv,w3,hb,hT,e1,hmin,gP,aG]
def ERX (a b:List Val) (i:Nat):AS :=
 { env:=[(0, .i (.isl (aP a))),(1, .i (.isl (aP b))),(4, .bool false),(5, .int i),(10, .bool false),(14,jk i (.bool true)),(25,jk i (.bool false))],st:=[] }
theorem IJ (a b:List Val) (hl:a.length<1000000):aH C0 71 [.i (.isl (aP a)), .i (.isl (aP b))] []=some (.bool (decide (a=b)),[]):=by
 rw[aD rfl Tryz.func71 rfl rfl];by_cases h:a.length=b.length
 ·obtain⟨j,h1,h2⟩:=TR h;simp[h];rw[aT (ERX a b) j (by simp[ERX])]
  ·rw[aF]
   rcases h2 with ⟨hj,he⟩|⟨x,y,e1,e2,e3,e4⟩
   ·subst he;subst hj;simp[ERX]
   ·have l1:=(zY.1 e1).1;have l2:=(zY.1 e2).1;have r1:=bZ e1;have r2:=bZ e2;have hne:¬ (x.null=y.null∧x.n=y.n):=fun⟨h1,h2⟩=>e3 (by cases x;cases y;simp_all)
    by_cases hq:x.null=y.null
    ·have:¬ x.n=y.n:=fun h=>hne ⟨hq,h⟩
     simp[ERX,l1,l2,r1,r2,e4,hq,this]
    ·simp[ERX,l1,l2,r1,r2,e4,hq]
  ·intro i hi;obtain⟨x,e1,e2⟩:=h1 i hi;have l1:=(zY.1 e1).1;have l2:=(zY.1 e2).1;have r1:=bZ e1;have r2:=bZ e2;have w3:IntKind.i64.wrap ((i:Int)+1)=i+1:=wrO;simp[ERX,l1,l2,r1,r2,w3]
 ·have hne:¬ a=b:=fun e=>h (by rw[e])
  have hI:¬ (a.length:Int)=b.length:=by omega
  simp[h,hne,hI]
def EBX (a b:List (List Val)) (i:Nat):AS :=
 { env:=[(0, .i (.isl (aM a))),(1, .i (.isl (aM b))),(4, .bool false),(5, .int i),(10, .bool false),(14,jk i (.bool true)),(26,jk i (.bool false))],st:=[] }
theorem Y8 (a b:List (List Val)) (hl:a.length<1000000) (hr:∀ r∈a,r.length<1000000):aH C0 31 [.i (.isl (aM a)), .i (.isl (aM b))] []=some (.bool (decide (a=b)),[]):=by
 rw[aD rfl Tryz.func31 rfl rfl];by_cases h:a.length=b.length
 ·obtain⟨j,h1,h2⟩:=TR h;simp[h];rw[aT (EBX a b) j (by simp[EBX])]
  ·rw[aF]
   rcases h2 with ⟨hj,he⟩|⟨x,y,e1,e2,e3,e4⟩
   ·subst he;subst hj;simp[EBX]
   ·have l1:=(zY.1 e1).1;have l2:=(zY.1 e2).1;have r1:=bW e1;have r2:=bW e2;have hc:=IJ x y (hr x (zV e1));simp[EBX,l1,l2,r1,r2,e4,hc,e3]
  ·intro i hi;obtain⟨x,e1,e2⟩:=h1 i hi;have l1:=(zY.1 e1).1;have l2:=(zY.1 e2).1;have r1:=bW e1;have r2:=bW e2;have hc:=IJ x x (hr x (zV e1));have w3:IntKind.i64.wrap ((i:Int)+1)=i+1:=wrO;simp[EBX,l1,l2,r1,r2,w3,hc]
 ·have hne:¬ a=b:=fun e=>h (by rw[e])
  have hI:¬ (a.length:Int)=b.length:=by omega
  simp[h,hne,hI]
theorem OA (a b:Tbl) (hs:a.small):aH C0 15 [.i (.agg [.int a.w, .isl (aM a.rows)]), .i (.agg [.int b.w, .isl (aM b.rows)])] []=some (.bool (decide (a.w=b.w) && decide (a.rows=b.rows)),[]):=by
 have hc:=Y8 a.rows b.rows hs.1 hs.2;rw[aD rfl Tryz.func15 rfl rfl];by_cases hw:a.w=b.w
 ·simp[hw,hc]
 ·simp[hw]
def LWX (db:List Tbl) (i:Nat):AS :=
 { env:=[(0, .i (.isl (jL db))),(2, .nils),(3, .osl 0 1 0 i),(4, .int i),(9,jk i (.bool true))],st:=[some (.arr 1 (aG ((db.take i).map Tbl.w)))] }
theorem XA (db:List Tbl) (hl:db.length<1000000):aH C0 10 [.i (.isl (jL db))] []=some (.i (.isl (aG (db.map Tbl.w))),[]):=by
 rw[aD rfl Tryz.func10 rfl rfl];simp;rw[aT (LWX db) db.length (by simp[LWX,aG])]
 ·rw[aF];have e1:List.take db.length (db.map Tbl.w)=db.map Tbl.w:=zZ (by simp);simp[LWX,e1]
 ·intro i hi
  obtain⟨t,h3⟩:∃ t,db[i]?=some t:=⟨_,zX hi⟩
  have q:=oU h3;have w3:IntKind.i64.wrap ((i:Int)+1)=i+1:=wrO;have hb:(i+1)*8≤140737488355328:=by omega
  have hT:(db.map Tbl.w).take (i+1)=(db.map Tbl.w).take i++[t.w]:=aO (by rw[zH,h3];rfl);have e1:List.take i (List.take i (db.map Tbl.w))=List.take i (db.map Tbl.w):=by rw[zF,zB1]
  have hmin:min i db.length=i:=by omega
  simp[LWX,hi,q,w3,hb,hT,e1,hmin,gP,aG]
def IVX (t:Tbl) (i:Nat):AS :=
 { env:=[(0, .i (.agg [.int t.w, .isl (aM t.rows)])),(1, .own 0 0),(2, .bool false),(3,jk i (.int ((i:Int)-1))),(4,jk i (.isl (aP ((t.rows[i-1]?).getD [])))),(14, .bool false),(16, .i (.isl (aM t.rows))),(17, .int t.rows.length),(18, .int i),(19,jk i (.bool true)),(32,jk i (.bool false)),(45,jk i (.bool false))],st:=[some (.box [.i (.int t.w), .i (.isl (aM t.rows))])] }
theorem ET (t:Tbl) (hl:∀ r∈t.rows,r.length<1000000):aH C0 86 [.i (.agg [.int t.w, .isl (aM t.rows)])] []=some (.bool t.ok,[]):=by
 rw[aD rfl Tryz.func86 rfl rfl];by_cases hw:bG t.w=true
 case neg =>
  have ho:t.ok=false:=by unfold Tbl.ok;simp[hw]
  simp[hw,ho]
 by_cases h4:(400:Int)<t.rows.length
 ·have ho:t.ok=false:=by unfold Tbl.ok;have:¬ t.rows.length≤400:=by omega
                         simp[this]
  simp[hw,h4,ho]
 have h4':t.rows.length≤400:=by omega
 obtain⟨j,h1,h2⟩:=XX t
 have good:∀ i,i<j→∃ r,t.rows[i]?=some r∧vN r=true∧(r.length:Int)=t.w∧(i≠0→∃ q,t.rows[i-1]?=some q∧fA q r=true):=by
  intro i hi;obtain⟨k1,k2⟩:=h1 i hi;have e1:=zX k1;refine⟨_,e1,?_⟩;unfold qP at k2;rw[e1]at k2;simp only[zA,zU,zA2,zS]at k2;refine⟨k2.1,k2.2.1,fun h0=>?_⟩;have e2:=zX (show i-1<t.rows.length by omega);rw[e2]at k2;exact⟨_,e2,by rcases k2.2.2 with e|e;omega;simpa using e⟩
 simp[hw,h4];rw[aT (IVX t) j (by simp[IVX])]
 ·rw[aF]
  rcases h2 with ⟨e,ho⟩|⟨e,hb,ho⟩
  ·simp[IVX,e,ho,hw,h4']
  ·have e1:=zX e;have hm:=zV e1;unfold qP at hb;rw[e1]at hb;generalize t.rows[j]=r at e1 hm hb;have r1:=bW e1;have c1:=JQ r (by have:=hl r hm;omega);by_cases v2:(r.length:Int)=t.w
   ·by_cases v1:vN r=true
    ·simp only[zA,v1,v2,zF8,zB8,Bool.or_eq_false_iff,zA8]at hb;obtain⟨hj0,hlt⟩:=hb;obtain⟨q,g1,g2,g3,_⟩:=good (j-1) (by omega);rw[g1]at hlt;have hgt:0<bR q r:=by simp[fA]at hlt;omega
     have q1:=bW g1;have w3:IntKind.i64.wrap ((j:Int)-1)=((j-1:Nat):Int):=by rw[wrO];omega
     have hc:=kH q r (hl q (zV g1)) (hl r hm);have hjl:j-1<t.rows.length:=by omega
     have hjp:(0:Int)<j:=by omega
     have hjp':0<j:=by omega
     simp[IVX,e,ho,r1,c1,v1,v2,q1,w3,hc,hgt,hjl,hjp,hjp']
    ·simp[IVX,e,ho,r1,c1,v1,v2]
   ·simp[IVX,e,ho,r1,v2]
 ·intro i hi;obtain⟨r,e1,v1,v2,v3⟩:=good i hi;have hm:=zV e1;obtain⟨_,hg⟩:=zY.1 e1;have r1:=bW e1;have hil:=(h1 i hi).1;have c1:=JQ r (by have:=hl r hm;omega);have w2:IntKind.i64.wrap ((i:Int)+1)=i+1:=wrO;by_cases h0:i=0
  ·subst h0;simp[IVX,hil,r1,c1,v1,v2,bB,hg]
  ·obtain⟨q,g1,g4⟩:=v3 h0;have hle:¬ 0<bR q r:=by simp[fA]at g4;omega
   have q1:=bW g1;have w3:IntKind.i64.wrap ((i:Int)-1)=((i-1:Nat):Int):=by rw[wrO];omega
   have hc:=kH q r (hl q (zV g1)) (hl r hm);have hjl:i-1<t.rows.length:=by omega
   have hjp:(0:Int)<i:=by omega
   have hjp':0<i:=by omega
   simp[IVX,hil,r1,c1,v1,v2,q1,w3,hc,hle,hjl,hjp,hjp',w2,hg]
def PKX (a:List Val) (l:List Int) (i:Nat):AS :=
 { env:=[(0, .i (.isl (aP a))),(1, .i (.isl (aG l))),(4, .nils),(5,gro 0 2 i),(7,jk i (.int ((l[i-1]?).getD 0))),(8, .i (.isl (aG l))),(9, .int l.length),(10, .int i),(11,jk i (.bool true))],st:=vT 2 (aP (aZ (l.take i) a)) i }
theorem KV (a:List Val) (l:List Int) (hl:l.length<1000000) (h:∀ c∈l,0≤c∧c<a.length):aH C0 148 [.i (.isl (aP a)), .i (.isl (aG l))] []=some (gro 0 2 l.length,vT 2 (aP (aZ l a)) l.length):=by
 rw[aD rfl Tryz.func148 rfl rfl];have hlen:∀ k,k≤l.length→(aZ (l.take k) a).length=k:=by intro k hk;simp[aZ];omega
 simp;rw[aT (PKX a l) l.length (by simp[PKX])]
 ·rw[aF];have e0:l.take l.length=l:=zZ (by simp);by_cases hz:l.length=0
  ·simp[PKX,hz]
  ·simp[PKX,hz,aL hz,aI hz,e0]
 ·intro i hi
  obtain⟨c,hc⟩:∃ c,l[i]?=some c:=⟨_,zX hi⟩
  obtain⟨_,hg⟩:=zY.1 hc;obtain⟨c0,c1⟩:=h c (zV hc);have k1:=bL hc;have k2:=bZ (zX (show c.toNat<a.length by omega));have w3:IntKind.i64.wrap ((i:Int)+1)=i+1:=wrO;have hb:(i+1)*16≤140737488355328:=by omega
  have e1:(aZ (l.take i) a).take i=aZ (l.take i) a:=zZ (by rw[hlen i (by omega)];omega);have e2:=hlen i (by omega);have e3:aZ (l.take (i+1)) a=aZ (l.take i) a++[(a[c.toNat]?).getD Val.zero]:=by rw[aO hc];simp[aZ]
  rw[zX (show c.toNat<a.length by omega)]at e3;by_cases h0:i=0
  ·subst h0;simp[aZ]at e3;simp[PKX,hi,k1,k2,c0,c1,bB,aZ,e3,aP,hg]
  ·simp[PKX,hi,k1,k2,c0,c1,w3,hb,e1,e2,e3,aL h0,aI h0,mW,aP,hg]
def IWX (db:List Tbl) (i:Nat):AS :=
 { env:=[(0, .i (.isl (jL db))),(2, .nils),(3, .bool false),(4,gro 0 1 i),(6,if i=0 then .junk else .own 1 0),(14, .bool false),(15, .i (.isl (jL db))),(16, .int db.length),(17, .int i),(18,jk i (.bool true)),(23,jk i (.bool false))],
   st:=if i=0 then []else [some (.arr 1 (aG ((db.take i).map Tbl.w))),some (.box [.i (.int ((db[i-1]?).getD ABX).w), .i (.isl (aM ((db[i-1]?).getD ABX).rows))])] }
theorem ZI (db:List Tbl) (hs:∀ t∈db,t.small):aH C0 42 [.i (.isl (jL db))] []=some (if(decide (1≤db.length∧db.length≤4) && db.all Tbl.ok)=true then .tup [.i (.isl (aG (db.map Tbl.w))), .bool true]else .tup [.i (.isl []), .bool false],[]):=by
 rw[aD rfl Tryz.func42 rfl rfl];by_cases hz:(db.length:Int)<1
 ·have:¬ 1≤db.length:=by omega
  simp[hz,this]
 by_cases h4:(4:Int)<db.length
 ·have:¬ db.length≤4:=by omega
  simp[hz,h4,this]
 have hb1:1≤db.length:=by omega
 have hb4:db.length≤4:=by omega
 obtain⟨j,h1,h2⟩:=fZ Tbl.ok db;simp[hz,h4];rw[aT (IWX db) j (by simp[IWX])]
 ·rw[aF]
  rcases h2 with ⟨hj,ha⟩|⟨t,h3,h4',h5,ha⟩
  ·subst hj;have hn:db.length≠0:=by omega
   have e1:List.take db.length (db.map Tbl.w)=db.map Tbl.w:=zZ (by simp);simp[IWX,hn,aL hn,e1,hb1,hb4];exact zR.1 ha
  ·have hil:=(zY.1 h3).1;have q:=oU h3;have hv:=ET t (hs t h4').2;rw[h5]at hv;by_cases h0:j=0
   ·subst h0;simp[IWX,hil,q,hv]
    exact fun _ _=>⟨t,h4',h5⟩
   ·simp[IWX,h0,aL h0,hil,q,hv]
    exact fun _ _=>⟨t,h4',h5⟩
 ·intro i hi;obtain⟨t,h3,h4',h5⟩:=h1 i hi;obtain⟨hil,hg⟩:=zY.1 h3;have q:=oU h3;have hv:=ET t (hs t h4').2;rw[h5]at hv;have w3:IntKind.i64.wrap ((i:Int)+1)=i+1:=wrO;have hb:(i+1)*8≤140737488355328:=by omega
  have hT:(db.map Tbl.w).take (i+1)=(db.map Tbl.w).take i++[t.w]:=aO (by rw[zH,h3];rfl);have e1:List.take i (List.take i (db.map Tbl.w))=List.take i (db.map Tbl.w):=by rw[zF,zB1]
  have hmin:min i db.length=i:=by omega
  by_cases h0:i=0
  ·subst h0;simp at hT;simp[IWX,hil,q,hv,bB,hT,hg,aG]
  ·simp[IWX,h0,aL h0,hil,q,hv,w3,hb,hT,e1,hmin,hg,gP,aG]
theorem kW (a:List Val) (h0:a≠[]) (hl:a.length<1000000):aH C0 150 [.i (.isl (aP a))] []=some (.i (.isl (aP a)),[]):=by
 have hb:16*(a.length:Int)≤281474976710656:=by omega
 have hb2:16*a.length≤281474976710656:=by omega
 have e1:List.take a.length (aP a)=aP a:=zZ (by simp);rw[aD rfl Tryz.func150 rfl rfl];simp[h0,hb,hb2,e1,over]
 done
theorem O0 (l:List UInt8) (p:Int) (h0:0≤p) (h1:p<900000000) (hl:l.length≤2000) :
 ∃ (v:Val) (p':Int),aH C0 175 [.own 0 0] [Rd l p]=some (.i (.agg [.bool v.null, .int v.n]),[Rd l p'])∧p≤p'∧p'≤p+2∧v.ok=true:=by
 obtain⟨v,hv,hv1,hv2⟩:=bE l p 5 h0 (by omega) hl;by_cases h:v=0
 ·refine⟨⟨true,0⟩,p+1,?_,by omega,by omega,rfl⟩;rw[aD rfl Tryz.func175 rfl rfl];simp[hv,h]
 ·obtain⟨x,hx,hm⟩:=qM l (p+1) (by omega) (by omega) hl [[.int 0],[.int 1],[.int 2],[.int 3],[.int (-1)]] (by simp) (by simp) (by simp);refine⟨⟨false,x⟩,p+1+1,?_,by omega,by omega,?_⟩
  ·rw[aD rfl Tryz.func175 rfl rfl];simp at hx;simp[hv,h,hx]
  ·simp at hm
   rcases hm with rfl|rfl|rfl|rfl|rfl<;>rfl
theorem ADI (l:List UInt8) (hl:l.length≤2000):∀ (n:Nat) (p:Int),0≤p→p+2*n<800000000→∃ (vs:List Val) (ps:Nat→Int),vs.length=n∧vs.all Val.ok=true∧ps 0=p∧(∀ i,i≤n→p≤ps i∧ps i≤p+2*i)∧∀ i v,vs[i]?=some v→aH C0 175 [.own 0 0] [Rd l (ps i)]=some (.i (.agg [.bool v.null, .int v.n]),[Rd l (ps (i+1))])
 | 0,p,h0,h1=>⟨[],fun _=>p,rfl,rfl,rfl,fun i hi=>by show p≤p∧p≤p+2*(i:Int);omega,fun i v h=>by simp at h⟩
 | n+1,p,h0,h1=>by
  obtain⟨v,p1,hv,q1,q2,q3⟩:=O0 l p h0 (by omega) hl;obtain⟨vs,ps,a1,a5,a2,a3,a4⟩:=ADI l hl n p1 (by omega) (by omega);refine⟨v::vs,fun i=>match i with|0=>p|i+1=>ps i,by simp[a1],by simp[q3];simpa using a5,rfl,?_,?_⟩
  ·intro i hi
   cases i with
   | zero=>simp
   | succ i=>have:=a3 i (by omega);simp;omega
  ·intro i u hu
   cases i with
   | zero=>simp at hu;subst hu;simp only;rw[a2];exact hv
   | succ i=>exact a4 i u (by simpa using hu)
def RWX (l:List UInt8) (vs:List Val) (ps:Nat→Int) (n:Nat) (i:Nat):AS :=
 { env:=[(0, .own 0 0),(1, .int n),(4, .nils),(5, .osl 1 2 0 i),(6, .int i),(10,jk i (.bool true))],st:=[Rd l (ps i),some (.arr 2 (aP (vs.take i)))] }
theorem vI (l:List UInt8) (hl:l.length≤2000) (n:Nat) (hn:n≤10) (p:Int) (h0:0≤p) (h1:p<700000000):∃ (x:List Val) (p':Int),aH C0 134 [.own 0 0, .int n] [Rd l p]=some (.osl 1 2 0 x.length,[Rd l p',some (.arr 2 (aP x))])∧x.length=n∧x.all Val.ok=true∧p≤p'∧p'≤p+20:=by
 obtain⟨vs,ps,a1,a5,a2,a3,a4⟩:=ADI l hl n p h0 (by omega);have b1:=a3 n (by omega);refine⟨vs,ps n,?_,a1,a5,by omega,by omega⟩;rw[aD rfl Tryz.func134 rfl rfl];simp;rw[aT (RWX l vs ps n) n (by simp[RWX,a2,aP])]
 ·rw[aF];have e1:vs.take n=vs:=zZ (by omega);simp[RWX,e1,a1]
 ·intro i hi
  obtain⟨v,hv⟩:∃ v,vs[i]?=some v:=⟨_,zX (by omega)⟩
  have hd:=a4 i v hv;have hT:=aO hv;have w3:IntKind.i64.wrap ((i:Int)+1)=i+1:=wrO;have hb:(i+1)*16≤140737488355328:=by omega
  have e1:List.take i (List.take i vs)=List.take i vs:=by rw[zF,zB1]
  have hmin:min i vs.length=i:=by omega
  simp[RWX,hi,hd,hT,w3,hb,e1,hmin,mW,aP]
theorem rows_ok (l:List UInt8) (hl:l.length≤2000) (w:Nat) (hw:w≤10):∀ (n:Nat) (p:Int),0≤p→p+20*n<600000000→∃ (rs:List (List Val)) (ps:Nat→Int),rs.length=n∧(∀ r∈rs,r.all Val.ok=true∧r.length=w)∧ps 0=p∧(∀ i,i≤n→p≤ps i∧ps i≤p+20*i)∧∀ i x,rs[i]?=some x→aH C0 134 [.own 0 0, .int w] [Rd l (ps i)]=some (.osl 1 2 0 x.length,[Rd l (ps (i+1)),some (.arr 2 (aP x))])
 | 0,p,h0,h1=>⟨[],fun _=>p,rfl,by simp,rfl,fun i hi=>by show p≤p∧p≤p+20*(i:Int);omega,fun i v h=>by simp at h⟩
 | n+1,p,h0,h1=>by
  obtain⟨x,p1,hv,q3,q4,q1,q2⟩:=vI l hl w hw p h0 (by omega);obtain⟨rs,ps,a1,a5,a2,a3,a4⟩:=rows_ok l hl w hw n p1 (by omega) (by omega);refine⟨x::rs,fun i=>match i with|0=>p|i+1=>ps i,by simp[a1],?_,rfl,?_,?_⟩
  ·intro r hr
   rcases zP.1 hr with rfl|hr
   ·exact⟨q4,q3⟩
   ·exact a5 r hr
  ·intro i hi
   cases i with
   | zero=>simp
   | succ i=>have:=a3 i (by omega);simp;omega
  ·intro i u hu
   cases i with
   | zero=>simp at hu;subst hu;simp only;rw[a2];exact hv
   | succ i=>exact a4 i u (by simpa using hu)
def AQX (l:List UInt8) (w:Nat) (m:Int) (rs:List (List Val)) (ps:Nat→Int) (n:Nat) (i:Nat):AS :=
 { env:=[(0, .own 0 0),(1, .int w),(2, .int m),(6, .own 1 0),(7, .osl 2 1 0 i),(8, .int ((n:Int)-i)),(15,jk i (.bool true))],st:=[Rd l (ps i),some (.box [.int 0, .nils]),some (.arr 1 (aM (rs.take i)))] }
theorem O3 (l:List UInt8) (hl:l.length≤2000) (w:Nat) (hw0:w≠0) (hw:w≤10) (m:Nat) (hm:m≤20) (p:Int) (h0:0≤p) (h1:p<500000000):∃ (rs:List (List Val)) (p':Int),aH C0 83 [.own 0 0, .int w, .int m] [Rd l p]=some (.i (.agg [.int w, .isl (aM (dF rs))]),[Rd l p'])∧rs.length≤m∧(∀ r∈rs,r.all Val.ok=true∧r.length=w)∧p≤p'∧p'≤p+500:=by
 have wm:IntKind.i64.wrap ((m:Int)+1)=((m+1:Nat):Int):=by rw[wrO];omega
 obtain⟨k,hk,hk1,-⟩:=bE l p ((m+1:Nat):Int) h0 (by omega) hl;obtain⟨k0,k1⟩:=hk1 (by omega)
 obtain⟨n,rfl⟩:∃ n:Nat,k=n:=⟨k.toNat,by omega⟩
 obtain⟨rs,ps,a1,a5,a2,a3,a4⟩:=rows_ok l hl w hw n (p+1) (by omega) (by omega);have b1:=a3 n (by omega);have hc:=ZR w rs w (by omega) hw0 (by omega) a5;rw[dZ (by omega)]at hc;refine⟨rs,ps n,?_,by omega,a5,by omega,by omega⟩;rw[aD rfl Tryz.func83 rfl rfl];simp[wm];simp at hk;simp[hk];rw[aT (AQX l w m rs ps n) n (by simp[AQX,a2,bI])]
 ·rw[aF];have e1:rs.take n=rs:=zZ (by omega);simp[AQX,e1,a1,hc]
 ·intro i hi
  obtain⟨x,hx⟩:∃ x,rs[i]?=some x:=⟨_,zX (by omega)⟩
  have hd:=a4 i x hx;have hT:=aO hx;have hpos:(0:Int)<(n:Int)-i:=by omega
  have w3:IntKind.i64.wrap ((n:Int)-i-1)=(n:Int)-(i+1):=by rw[wrO];omega
  have hb:(i+1)*24≤140737488355328:=by omega
  have e1:List.take i (List.take i rs)=List.take i rs:=by rw[zF,zB1]
  have e2:x.take x.length=x:=zZ (by simp);have hmin:min i rs.length=i:=by omega
  have hlt:(i:Int)<n:=by omega
  simp[AQX,hpos,hlt,hi,hd,hT,w3,hb,e1,e2,hmin,bV,bO,bI]
end Go.Proofs.YtnmimmaahhlgeaaGreat
namespace Go.Av
def swR (P X M Y S:List (List Val)) (i:Nat):List (List Val):=(P++Y.take i)++X.drop i++M++X.take i++Y.drop i++S
theorem AYA {P X M Y S:List (List Val)} {i:Nat} {x y:List Val} (hx:X[i]?=some x) (hy:Y[i]?=some y):swR P X M Y S i=(P++Y.take i)++x::((X.drop (i+1)++M++X.take i)++y::(Y.drop (i+1)++S)):=by
 obtain⟨h1,rfl⟩:=zY.1 hx;obtain⟨h2,rfl⟩:=zY.1 hy;unfold swR;rw[yA h1,yA h2];simp only[zK,yR]
theorem ANT {P X M Y S:List (List Val)} {i:Nat} {x y:List Val} (hx:X[i]?=some x) (hy:Y[i]?=some y):swR P X M Y S (i+1)=(P++Y.take i)++y::((X.drop (i+1)++M++X.take i)++x::(Y.drop (i+1)++S)):=by
 unfold swR;rw[aO hx,aO hy];simp
theorem ATD (P X M Y S:List (List Val)) (i:Nat):(swR P X M Y S i).length=P.length+X.length+M.length+Y.length+S.length:=by
 unfold swR;simp;omega
end Go.Av
namespace Go.Proofs.YtnmimmaahhlgeaaGreat
open Go Go.Av
set_option maxRecDepth 4000
set_option maxHeartbeats 8000000
def SRX (P X M Y S:List (List Val)) (kb:Option Blk) (N a b n:Nat) (i:Nat):AS :=
 { env:=[(0, .osl 0 1 0 N),(1, .int a),(2, .int b),(3, .int n),(10, .int i),(13,jk i (.bool true))],st:=[some (.arr 1 (aM (swR P X M Y S i))),kb] }
theorem uV (P X M Y S:List (List Val)) (c:List Int) (f:FuncId) (N a b n:Nat) (hP:P.length=a) (hX:X.length=n) (hY:Y.length=n) (hb:b=a+n+M.length) (hN:N=P.length+X.length+M.length+Y.length+S.length) (hs:N<1000000) :
 aH C0 224 [.osl 0 1 0 N, .int a, .int b, .int n, .fn (.func f) [.own 1 0]] [some (.arr 1 (aM (P++X++M++Y++S))),some (.box [.i (.isl (aG c))])]=some (.tup [],[some (.arr 1 (aM (P++Y++M++X++S))),some (.box [.i (.isl (aG c))])]):=by
 rw[aD rfl Tryz.func224 rfl rfl];have e0:swR P X M Y S 0=P++(X++(M++(Y++S))):=by simp[swR]
 have en:swR P X M Y S n=P++(Y++(M++(X++S))):=by unfold swR;rw[zZ (by omega),zZ (by omega),zF5 (by omega),zF5 (by omega)];simp
 simp;rw[aT (SRX P X M Y S (some (.box [.i (.isl (aG c))])) N a b n) n (by simp[SRX,e0])]
 ·rw[aF];simp[SRX,en]
 ·intro i hi
  obtain⟨x,hx⟩:∃ x,X[i]?=some x:=⟨_,zX (by omega)⟩
  obtain⟨y,hy⟩:∃ y,Y[i]?=some y:=⟨_,zX (by omega)⟩
  have h1:=AYA (P:=P) (M:=M) (S:=S) hx hy;have h2:=ANT (P:=P) (M:=M) (S:=S) hx hy;have hl:=ATD P X M Y S i;have hPl:(P++Y.take i).length=a+i:=by simp;omega
  have hMl:(X.drop (i+1)++M++X.take i).length=n+M.length-1:=by simp;omega
  have hsw:=ATC (P++Y.take i) (X.drop (i+1)++M++X.take i) (Y.drop (i+1)++S) x y (i:=a+i) (j:=b+i) hPl.symm (by rw[hPl,hMl];omega);rw[← h1,← h2]at hsw;have q1:(swR P X M Y S i)[a+i]?=some x:=by rw[h1];exact kC _ _ _ hPl.symm
  have q2:(swR P X M Y S i)[b+i]?=some y:=by
   rw[h1];have:∀ (A B:List (List Val)) (u:List Val),A++u::(B++y::(Y.drop (i+1)++S))=(A++u::B)++y::(Y.drop (i+1)++S):=by intros;simp
   rw[this];refine kC _ _ _ ?_;rw[zQ,zM,hPl,hMl];omega
  have r1:=bW q1;have r2:=bW q2;have w1:IntKind.i64.wrap ((a:Int)+i)=((a+i:Nat):Int):=by rw[wrO];omega
  have w2:IntKind.i64.wrap ((b:Int)+i)=((b+i:Nat):Int):=by rw[wrO];omega
  have w3:IntKind.i64.wrap ((i:Int)+1)=i+1:=wrO;have l1:a+i<N:=by omega
  have l2:b+i<N:=by omega
  have l3:a+i<(swR P X M Y S i).length:=by omega
  have l4:b+i<(swR P X M Y S i).length:=by omega
  have hlN:N≤(swR P X M Y S i).length:=by omega
  have hset:((aM (swR P X M Y S i)).set (a+i) [.isl (aP y)]).set (b+i) [.isl (aP x)]=aM (swR P X M Y S (i+1)):=by rw[jE,jE,← hsw];rfl
  have hset':((aM (swR P X M Y S i)).set (b+i) [.isl (aP x)]).set (a+i) [.isl (aP y)]=aM (swR P X M Y S (i+1)):=by rw[List.set_comm _ _ (by omega),hset]
  have l1i:(a:Int)+i<N:=by omega
  have l2i:(b:Int)+i<N:=by omega
  have z1:(0:Int)≤(a:Int)+i:=by omega
  have z2:(0:Int)≤(b:Int)+i:=by omega
  have t1:((a:Int)+i).toNat=a+i:=by omega
  have t2:((b:Int)+i).toNat=b+i:=by omega
  have n1:fH ((aM (swR P X M Y S i)).set (a+i) [.isl (aP y)]) (b+i)=some [.isl (aP y)]:=by
   rw[dL,List.getElem?_set_ne (by omega),← dL];exact r2
  simp[SRX,hi,w1,w2,w3,l1,l2,l3,l4,l1i,l2i,z1,z2,t1,t2,r1,r2,n1,hset,hset',hlN]
def ROX (l:List (List Val)) (kb:Option Blk) (f:FuncId) (N a m b i j n:Nat) (c:Bool) (g:AV):AS :=
 { env:=[(0, .osl 0 1 0 N),(1, .int a),(2, .int m),(3, .int b),(4, .fn (.func f) [.own 1 0]),(10, .int i),(11, .int j),(20,g),(23,jk n (.bool c))],st:=[some (.arr 1 (aM l)),kb] }
theorem AJ0 (P U V S:List (List Val)) (cs:List Int) (f:FuncId) (N a m b:Nat) (hU:U≠[]) (hV:V≠[]) (hP:P.length=a) (hm:m=a+U.length) (hb:b=m+V.length) (hN:N=P.length+U.length+V.length+S.length) (hs:N<1000000) :
 aH C0 222 [.osl 0 1 0 N, .int a, .int m, .int b, .fn (.func f) [.own 1 0]] [some (.arr 1 (aM (P++U++V++S))),some (.box [.i (.isl (aG cs))])]=some (.tup [],[some (.arr 1 (aM (P++V++U++S))),some (.box [.i (.isl (aG cs))])]):=by
 have hU0:=xX.2 hU;have hV0:=xX.2 hV;have w1:IntKind.i64.wrap ((m:Int)-a)=(U.length:Int):=by rw[wrO];omega
 have w2:IntKind.i64.wrap ((b:Int)-m)=(V.length:Int):=by rw[wrO];omega
 rw[aD rfl Tryz.func222 rfl rfl];simp only[zK]
 obtain⟨T,hT⟩:∃ T,T=P++(V++(U++S)):=⟨_,rfl⟩
 rw[← hT];simp[w1,w2];generalize hX:dD C0 _ _ (Code.loop _) _=X
 have key:∃ rr,X=some rr∧∃ (P' L R S':List (List Val)) (n:Nat) (c:Bool),rr=(.exit 0,ROX (P'++(L++(R++S'))) (some (.box [.i (.isl (aG cs))])) f N a m b L.length L.length n c (.bool false))∧R.length=L.length∧P'.length+L.length=m∧P'++(R++(L++S'))=T∧N=P'.length+L.length+R.length+S'.length:=by
  rw[← hX];refine lH (fun d St=>∃ (P' L R S':List (List Val)) (n:Nat) (c:Bool),St=ROX (P'++(L++(R++S'))) (some (.box [.i (.isl (aG cs))])) f N a m b L.length R.length n c (jk n (.bool true))∧0<L.length∧0<R.length∧d=L.length+R.length∧P'.length+L.length=m∧P'++(R++(L++S'))=T∧N=P'.length+L.length+R.length+S'.length) ?_ _ _ ⟨P,U,V,S,0,true,by simp[ROX],hU0,hV0,rfl,by omega,hT.symm,by omega⟩;rintro d St ⟨P',L,R,S',n,c,rfl,h1,h2,h3,h4,h5,h6⟩;by_cases he:L.length=R.length
  ·right;refine⟨.exit 0,_,?_,by simp,P',L,R,S',n,c,rfl,he.symm,h4,h5,h6⟩;simp[ROX,he]
  ·left;have heI:¬ (L.length:Int)=R.length:=by omega
   by_cases hgt:R.length<L.length
   ·have hgtI:(R.length:Int)<L.length:=by omega
    have hsr:=uV P' (L.take R.length) (L.drop R.length) R S' cs f N (m-L.length) m R.length (by omega) (by simp;omega) rfl (by simp;omega) (by simp;omega) hs;have e1:P'++L.take R.length++L.drop R.length++R++S'=P'++(L++(R++S')):=by simp
    have e2:P'++R++L.drop R.length++L.take R.length++S'=(P'++R)++(L.drop R.length++(L.take R.length++S')):=by simp
    rw[e1,e2]at hsr;have w3:IntKind.i64.wrap ((m:Int)-L.length)=((m-L.length:Nat):Int):=by rw[wrO];omega
    have w4:IntKind.i64.wrap ((L.length:Int)-R.length)=((L.length-R.length:Nat):Int):=by rw[wrO];omega
    have l1:(L.drop R.length).length=L.length-R.length:=by simp
    have l2:(L.take R.length).length=R.length:=by simp;omega
    refine⟨ROX ((P'++R)++(L.drop R.length++(L.take R.length++S'))) (some (.box [.i (.isl (aG cs))])) f N a m b (L.length-R.length) R.length 1 true (.bool true),L.length,?_,by omega,P'++R,L.drop R.length,L.take R.length,S',1,true,by rw[l1,l2];rfl,by omega,by omega,by omega,by rw[zQ,l1];omega,by rw[← h5];simp only[zK];rw[← List.append_assoc (L.take _),zC],by rw[l1,l2,zQ];omega⟩;simp only[zK]at hsr ⊢;simp[ROX,heI,hgtI,w3,w4,hsr]
   ·have hgtI:¬ (R.length:Int)<L.length:=by omega
    have hsr:=uV P' L (R.take (R.length-L.length)) (R.drop (R.length-L.length)) S' cs f N (m-L.length) (m+R.length-L.length) L.length (by omega) rfl (by simp;omega) (by simp;omega) (by simp;omega) hs;have e1:P'++L++R.take (R.length-L.length)++R.drop (R.length-L.length)++S'=P'++(L++(R++S')):=by simp
    have e2:P'++R.drop (R.length-L.length)++R.take (R.length-L.length)++L++S'=P'++(R.drop (R.length-L.length)++(R.take (R.length-L.length)++(L++S'))):=by simp
    rw[e1,e2]at hsr;have w3:IntKind.i64.wrap ((m:Int)-L.length)=((m-L.length:Nat):Int):=by rw[wrO];omega
    have w5:IntKind.i64.wrap ((m:Int)+R.length)=(m:Int)+R.length:=wrO;have w6:IntKind.i64.wrap ((m:Int)+R.length-L.length)=((m+R.length-L.length:Nat):Int):=by rw[wrO];omega
    have w4:IntKind.i64.wrap ((R.length:Int)-L.length)=((R.length-L.length:Nat):Int):=by rw[wrO];omega
    have l1:(R.drop (R.length-L.length)).length=L.length:=by simp;omega
    have l2:(R.take (R.length-L.length)).length=R.length-L.length:=by simp
    refine⟨ROX (P'++(R.drop (R.length-L.length)++(R.take (R.length-L.length)++(L++S')))) (some (.box [.i (.isl (aG cs))])) f N a m b L.length (R.length-L.length) 1 false (.bool true),R.length,?_,by omega,P',R.drop (R.length-L.length),R.take (R.length-L.length),L++S',1,false,by rw[l1,l2];rfl,by omega,by omega,by omega,by omega,by rw[← h5,← List.append_assoc (R.take _),zC],by rw[l1,l2,zQ];omega⟩;simp[ROX,heI,hgtI,w3,w4,w5,w6,hsr]
 obtain⟨rr,rfl,P',L,R,S',n,c,rfl,k1,k2,k3,k4⟩:=key;have hsr:=uV P' L [] R S' cs f N (m-L.length) m L.length (by omega) rfl k1 (by simp;omega) (by simp;omega) hs;simp only[xZ,zK]at hsr;have w3:IntKind.i64.wrap ((m:Int)-L.length)=((m-L.length:Nat):Int):=by rw[wrO];omega
 simp[ROX,w3,hsr,k3]
theorem FQ (cs:List Int) (hl:cs.length<1000000) (x y:List Val) (hx:∀ c∈cs,0≤c∧c<x.length) (hy:∀ c∈cs,0≤c∧c<y.length):aH C0 184 [.i (.isl (aP x)), .i (.isl (aP y)), .own 0 0] [some (.box [.i (.isl (aG cs))])]=some (.int (bR (aZ cs x) (aZ cs y)),[some (.box [.i (.isl (aG cs))])]):=by
 have h1:=KV x cs hl hx;have h2:=KV y cs hl hy;have hc:=kH (aZ cs x) (aZ cs y) (by simp[aZ];omega) (by simp[aZ];omega);have l1:(aZ cs x).length=cs.length:=by simp[aZ]
 have l2:(aZ cs y).length=cs.length:=by simp[aZ]
 have t1:(aZ cs x).take cs.length=aZ cs x:=zZ (by omega);have t2:(aZ cs y).take cs.length=aZ cs y:=zZ (by omega);rw[aD rfl Tryz.func184 rfl rfl];by_cases h0:cs.length=0
 ·have:cs=[]:=zW.1 h0;subst this;simp[aZ,aG,aP]at h1 h2 hc;simp[aG,h1,h2,hc,aZ]
 ·rw[aL h0,aI h0]at h1 h2;simp[h1,h2,hc,l1,l2,t1,t2]
end Go.Proofs.YtnmimmaahhlgeaaGreat

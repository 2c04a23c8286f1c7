/- Part 3 of what the proof rests on: the executor and what it is worth, and the program's functions as it runs them. No condition. -/
import Derived.Test.YtjdfjgmebalaaaaGreatT2
import Derived.Test.YtjdfjgmebalaaaaGreatProg
import Derived.KernelRfl
set_option linter.unusedVariables false
set_option linter.unusedSimpArgs false
namespace Go.Av
abbrev PL:=List ((Nat×Nat)×Pn)
structure At5 (w:World) (b o:Nat) (v0 v1 v2 v3 v4:Value):Prop where
 c0:w.cell? ⟨b,o,none⟩=some v0
 c1:w.cell? ⟨b,o+1,none⟩=some v1
 c2:w.cell? ⟨b,o+2,none⟩=some v2
 c3:w.cell? ⟨b,o+3,none⟩=some v3
 c4:w.cell? ⟨b,o+4,none⟩=some v4
theorem At5.frame {w w':World} {b o:Nat} {v0 v1 v2 v3 v4:Value} (h:At5 w b o v0 v1 v2 v3 v4) (hw:∀ j,o≤j→j<o+5→w'.cell? ⟨b,j,none⟩=w.cell? ⟨b,j,none⟩):At5 w' b o v0 v1 v2 v3 v4 :=
 ⟨(hw _ (by omega) (by omega)).trans h.c0,(hw _ (by omega) (by omega)).trans h.c1,(hw _ (by omega) (by omega)).trans h.c2,(hw _ (by omega) (by omega)).trans h.c3,(hw _ (by omega) (by omega)).trans h.c4⟩
mutual
inductive TH (w:World) (m:Mem):Pn→Nat→Nat→List Nat→PL→Prop
 | fresh {x:Pn} {b o:Nat} {v0 v1 v2 v3 v4:Value}:ICells m x.cells [v0,v1,v2,v3,v4]→At5 w b o v0 v1 v2 v3 v4→TH w m x b o [] [((b,o),x)]
 | leaf {k t:Int} {es:List Ex} {cs:List Int} {b o:Nat} {vE vC:Value} {ao:Option Addr} {cap:Nat}:At5 w b o (.int .i64 k) (.int .i64 t) vE vC (.slice ao 0 cap)→IRep m (.isl (Ex.aB es)) vE→IRep m (.isl (aF cs)) vC→(ao=none→cap=0)→TH w m (.mk k t es cs []) b o [] []
 | node {k t:Int} {es:List Ex} {cs:List Int} {ks:List Pn} {b o b' cap:Nat} {vE vC:Value} {F:List Nat} {H:PL}:At5 w b o (.int .i64 k) (.int .i64 t) vE vC (.slice (some ⟨b',0,none⟩) ks.length cap)→IRep m (.isl (Ex.aB es)) vE→IRep m (.isl (aF cs)) vC→ks≠[]→ks.length≤cap→THL w m ks b' 0 F H→TH w m (.mk k t es cs ks) b o (b'::F) H
inductive THL (w:World) (m:Mem):List Pn→Nat→Nat→List Nat→PL→Prop
 | nil (b o:Nat):THL w m [] b o [] []
 | cons {x:Pn} {xs:List Pn} {b o:Nat} {F1 F2:List Nat} {H1 H2:PL}:TH w m x b o F1 H1→THL w m xs b (o+5) F2 H2→THL w m (x::xs) b o (F1++F2) (H1++H2)
end
mutual
theorem TH.frame {w w':World} {m m':Mem} (hm:MLe m m') {x:Pn} {b o:Nat} {F:List Nat} {H:PL} (hw:∀ j,o≤j→j<o+5→w'.cell? ⟨b,j,none⟩=w.cell? ⟨b,j,none⟩) (hF:∀ f∈F,∀ j,w'.cell? ⟨f,j,none⟩=w.cell? ⟨f,j,none⟩):TH w m x b o F H→TH w' m' x b o F H
 | .fresh h1 h2=>.fresh (h1.mono hm) (h2.frame hw)
 | .leaf h1 h2 h3 h4=>.leaf (h1.frame hw) (h2.mono hm) (h3.mono hm) h4
 | .node h1 h2 h3 h4 h5 h6=>.node (h1.frame hw) (h2.mono hm) (h3.mono hm) h4 h5 (THL.frame hm (fun j _ _=>hF _ (by simp) j) (fun f hf=>hF f (by simp[hf])) h6)
theorem THL.frame {w w':World} {m m':Mem} (hm:MLe m m') {xs:List Pn} {b o:Nat} {F:List Nat} {H:PL} (hw:∀ j,o≤j→j<o+5*xs.length→w'.cell? ⟨b,j,none⟩=w.cell? ⟨b,j,none⟩) (hF:∀ f∈F,∀ j,w'.cell? ⟨f,j,none⟩=w.cell? ⟨f,j,none⟩):THL w m xs b o F H→THL w' m' xs b o F H
 | .nil b o=>.nil b o
 | .cons h1 h2=>.cons (TH.frame hm (fun j l1 l2=>hw j l1 (by simp only[zM];omega)) (fun f hf=>hF f (by simp[hf])) h1) (THL.frame hm (fun j l1 l2=>hw j (by omega) (by simp only[zM];omega)) (fun f hf=>hF f (by simp[hf])) h2)
end
mutual
theorem TH.holes {w:World} {m:Mem} {x:Pn} {b o:Nat} {F:List Nat} {H:PL}:TH w m x b o F H→∀ q∈H,q.1=(b,o)∨q.1.1∈F
 | .fresh _ _,q,hq=>by simp at hq;subst hq;exact .inl rfl
 | .leaf _ _ _ _,q,hq=>by simp at hq
 | .node _ _ _ _ _ h6,q,hq=>by
  rcases THL.holes h6 q hq with ⟨h,_⟩|h
  ·exact .inr (by simp[h])
  ·exact .inr (by simp[h])
theorem THL.holes {w:World} {m:Mem} {xs:List Pn} {b o:Nat} {F:List Nat} {H:PL}:THL w m xs b o F H→∀ q∈H,(q.1.1=b∧o≤q.1.2)∨q.1.1∈F
 | .nil _ _,q,hq=>by simp at hq
 | .cons h1 h2,q,hq=>by
  rcases zU.1 hq with h|h
  ·rcases TH.holes h1 q h with e|e
   ·exact .inl ⟨by rw[e],by rw[e];exact zN _⟩
   ·exact .inr (by simp[e])
  ·rcases THL.holes h2 q h with ⟨e1,e2⟩|e
   ·exact .inl ⟨e1,by omega⟩
   ·exact .inr (by simp[e])
end
mutual
theorem TH.fill {w w':World} {m m':Mem} (hm:MLe m m') {bq oq:Nat} {y:Pn} {G:List Nat} {HY:PL} (hy:TH w' m' y bq oq G HY) {x:Pn} {b o:Nat} {F:List Nat} {H:PL}:TH w m x b o F H→b ∉ F→F.Nodup→((bq,oq),y)∈H →
 (∀ f∈b::F,∀ j,(f≠bq∨j<oq∨oq+5≤j)→w'.cell? ⟨f,j,none⟩=w.cell? ⟨f,j,none⟩)→∃ F' H',TH w' m' x b o F' H'∧F'.Perm (F++G)∧(((bq,oq),y)::H').Perm (H++HY)
 | .fresh _ _,_,_,hq,_=>by
  simp at hq;obtain⟨⟨rfl,rfl⟩,rfl⟩:=hq;exact⟨G,HY,hy,by simp,by simp⟩
 | .leaf _ _ _ _,_,_,hq,_=>by simp at hq
 | .node h1 h2 h3 h4 h5 h6,hb,hn,hq,hw=>by
  rename_i b' cap vE vC F;have hb':b' ∉ F:=(z8.1 hn).1
  have hne:b≠bq:=by
   intro e
   rcases THL.holes h6 _ hq with ⟨e1,_⟩|e1
   ·exact hb (by simp at e1;simp[e,e1])
   ·exact hb (by simp at e1;simp[e,e1])
  obtain⟨F',H',k1,k2,k3⟩:=THL.fill hm hy h6 hb' (z8.1 hn).2 hq (fun f hf j hj=>hw f (by rcases zR.1 hf with rfl|h<;>simp[*]) j hj);exact⟨b'::F',H', .node (h1.frame fun j _ _=>hw b (by simp) j (.inl hne)) (h2.mono hm) (h3.mono hm) h4 h5 k1,k2.cons _,k3⟩
theorem THL.fill {w w':World} {m m':Mem} (hm:MLe m m') {bq oq:Nat} {y:Pn} {G:List Nat} {HY:PL} (hy:TH w' m' y bq oq G HY) {xs:List Pn} {b o:Nat} {F:List Nat} {H:PL}:THL w m xs b o F H→b ∉ F→F.Nodup→((bq,oq),y)∈H →
 (∀ f∈b::F,∀ j,(f≠bq∨j<oq∨oq+5≤j)→w'.cell? ⟨f,j,none⟩=w.cell? ⟨f,j,none⟩)→∃ F' H',THL w' m' xs b o F' H'∧F'.Perm (F++G)∧(((bq,oq),y)::H').Perm (H++HY)
 | .nil _ _,_,_,hq,_=>by simp at hq
 | .cons (F1:=F1) (F2:=F2) (H1:=H1) (H2:=H2) h1 h2,hb,hn,hq,hw=>by
  have hb1:b ∉ F1:=fun h=>hb (by simp[h])
  have hb2:b ∉ F2:=fun h=>hb (by simp[h])
  obtain⟨n1,n2,n3⟩:=yU.1 hn
  rcases zU.1 hq with h|h
  ·obtain⟨F',H',k1,k2,k3⟩:=TH.fill hm hy h1 hb1 n1 h (fun f hf j hj=>hw f (by rcases zR.1 hf with rfl|h<;>simp[*]) j hj);refine⟨F'++F2,H'++H2, .cons k1 (THL.frame hm (fun j l1 l2=>hw b (by simp) j ?_) (fun f hf j=>hw f (by simp[hf]) j (.inl ?_)) h2),?_,?_⟩
   ·rcases TH.holes h1 _ h with e|e
    ·simp at e;exact .inr (.inr (by omega))
    ·exact .inl fun e2=>hb1 (by simp at e;rw[e2];exact e)
   ·rcases TH.holes h1 _ h with e|e
    ·simp at e;intro e2;rw[e2,e.1]at hf;exact hb2 hf
    ·simp at e;intro e2;rw[e2]at hf;exact n3 _ e _ hf rfl
   ·have:=k2.append_right F2;refine this.trans ?_;rw[yZ,yZ];exact(List.perm_append_comm (l₁:=G) (l₂:=F2)).append_left F1
   ·have:=k3.append_right H2;rw[yL]at this;refine this.trans ?_;rw[yZ,yZ];exact(List.perm_append_comm (l₁:=HY) (l₂:=H2)).append_left H1
  ·obtain⟨F',H',k1,k2,k3⟩:=THL.fill hm hy h2 hb2 n2 h (fun f hf j hj=>hw f (by rcases zR.1 hf with rfl|h<;>simp[*]) j hj);refine⟨F1++F',H1++H', .cons (TH.frame hm (fun j l1 l2=>hw b (by simp) j ?_) (fun f hf j=>hw f (by simp[hf]) j (.inl ?_)) h1) k1,?_,?_⟩
   ·rcases THL.holes h2 _ h with ⟨e1,e2⟩|e
    ·simp at e2;exact .inr (.inl (by omega))
    ·exact .inl fun e2=>hb2 (by simp at e;rw[e2];exact e)
   ·rcases THL.holes h2 _ h with ⟨e1,_⟩|e
    ·simp at e1;intro e2;rw[e2,e1]at hf;exact hb1 hf
    ·simp at e;intro e2;rw[e2]at hf;exact n3 _ hf _ e rfl
   ·rw[yZ];exact k2.append_left F1
   ·rw[yZ];refine List.perm_middle.symm.trans ?_;exact k3.append_left H1
end
mutual
theorem TH.iat {w:World} {m m':Mem} (hm:MLe m m') {x:Pn} {b o:Nat} {F:List Nat}:TH w m x b o F []→(∀ j,o≤j→j<o+5→m' b j=w.cell? ⟨b,j,none⟩)→(∀ f∈F,∀ j,m' f j=w.cell? ⟨f,j,none⟩)→IAt m' b o x.cells
 | .leaf h1 h2 h3 h4,hb,hF=>by
  rw[Pn.dY];have o2:(∀ es v,IRep m (.isl es) v→v.oneCell'=true):=fun es v h=>by cases h<;>rfl
  exact .cons ((hb _ (by omega) (by omega)).trans h1.c0) (.lit _) rfl (.cons ((hb _ (by omega) (by omega)).trans h1.c1) (.lit _) rfl (.cons ((hb _ (by omega) (by omega)).trans h1.c2) (h2.mono hm) (o2 _ _ h2) (.cons ((hb _ (by omega) (by omega)).trans h1.c3) (h3.mono hm) (o2 _ _ h3) (.cons ((hb _ (by omega) (by omega)).trans h1.c4) (.isl0 _ _ h4) rfl (.nil _ _)))))
 | .node h1 h2 h3 h4 h5 h6,hb,hF=>by
  rename_i ks b' cap vE vC F;rw[Pn.dY];have o2:(∀ es v,IRep m (.isl es) v→v.oneCell'=true):=fun es v h=>by cases h<;>rfl
  have he:=THL.iel hm h6 (fun j _ _=>hF b' (by simp) j) (fun f hf=>hF f (by simp[hf]));have hl:(Pn.aB ks).length=ks.length:=by simp
  have hn:Pn.aB ks≠[]:=fun e=>by rw[e]at hl;simp at hl;exact h4 (zW.1 hl.symm)
  have hk:IRep m' (.isl (Pn.aB ks)) (.slice (some ⟨b',0,none⟩) ks.length cap):=by
   have:=IRep.isl (cap:=cap) hn he (by omega)
   rwa [hl]at this
  exact .cons ((hb _ (by omega) (by omega)).trans h1.c0) (.lit _) rfl (.cons ((hb _ (by omega) (by omega)).trans h1.c1) (.lit _) rfl (.cons ((hb _ (by omega) (by omega)).trans h1.c2) (h2.mono hm) (o2 _ _ h2) (.cons ((hb _ (by omega) (by omega)).trans h1.c3) (h3.mono hm) (o2 _ _ h3) (.cons ((hb _ (by omega) (by omega)).trans h1.c4) hk rfl (.nil _ _)))))
theorem THL.iel {w:World} {m m':Mem} (hm:MLe m m') {xs:List Pn} {b o:Nat} {F:List Nat}:THL w m xs b o F []→(∀ j,o≤j→j<o+5*xs.length→m' b j=w.cell? ⟨b,j,none⟩)→(∀ f∈F,∀ j,m' f j=w.cell? ⟨f,j,none⟩)→IElems m' b o 5 (Pn.aB xs)
 | h,hb,hF=>by
  generalize hH:([]:PL)=H at h
  cases h with
  | nil b o=>simp only[Pn.aB];exact .nil b o 5
  | cons h1 h2 =>
   obtain⟨e1,e2⟩:=List.append_eq_nil_iff.1 hH.symm;subst e1;subst e2;simp only[Pn.aB];exact .cons (TH.iat hm h1 (fun j l1 l2=>hb j l1 (by simp only[zM];omega)) (fun f hf=>hF f (by simp[hf]))) (Pn.dL _) (THL.iel hm h2 (fun j l1 l2=>hb j (by omega) (by simp only[zM];omega)) (fun f hf=>hF f (by simp[hf])))
end
def ALE (R:World→Mem→Pl→Prop):Prop:=∀ w m φ w' m' φ',Adv w m φ w' m' φ'→R w m φ→R w' m' φ'
structure GR (wi:World) (mi:Mem) (nt:Nat) (ok:Nat→Prop) (R:World→Mem→Pl→Prop) (env:Nat→AV) (st:Store) (a:Act) (w:World):Prop where
 out:∃ m φ,Inv w m φ st∧(∀ t,Rep m φ (env t) (a.tmps.getD t undef))∧Adv wi mi (fun _=>none) w m φ∧(∀ id,φ id≠none→ok id)∧R w m φ
 size:nt≤a.tmps.size
 defers:a.defers=[]
section
variable {C:Ctx} {wi:World} {mi:Mem} {nt:Nat}
theorem GR.lQ (hS:SoundOk C) {G:List Nat} {c:Code} {S S':AS} {e:AExit} {a:Act} {w:World} {R:World→Mem→Pl→Prop} (hR:ALE R) (hc:codeOk nt c=true) (hx:dQ C G S.st.length c S=some (e,S')) (h:GR wi mi nt (fun id=>id<S.st.length) R (aZ S.env) (bF S.st) a w) (hnr:bD c=true:=by rfl) :
 c.wp C.P (fun e' a' w'=>e'=kG e∧GR wi mi nt (fun id=>id<S'.st.length) R (aZ S'.env) (bF S'.st) a' w') a w:=by
 obtain⟨n,hn⟩:=(dB _).1 hx;obtain⟨⟨m,φ,h1,h2,h3,h4,h5⟩,h6,h7⟩:=h;refine wpIn_wide.1 (wpIn_mono (bU (ρ:=none) hS.ctx (bP hS) (hS.draw _ (bP hS)) h4 n c S S' e [] a w hc (.inl rfl) hn ⟨⟨⟨m,φ,h1,h2, .refl _ _ _,h4, .nil _ _ _⟩,h6,h7⟩,zN _⟩) ?_);rintro e' a' w' ⟨rfl,ds,k,kd⟩;have kd:=kd hnr;subst kd;obtain⟨⟨⟨m',φ',k1,k2,k3,k4,_⟩,k5,k6⟩,_⟩:=k;exact⟨rfl,⟨⟨m',φ',k1,k2,h3.trans k3,k4,hR _ _ _ _ _ _ k3 h5⟩,k5,k6⟩⟩
theorem GR.turn {ok ok':Nat→Prop} {R R':World→Mem→Pl→Prop} {env env':Nat→AV} {st st':Store} {a:Act} {w:World} (h:GR wi mi nt ok R env st a w)
 (f:∀ m φ,Inv w m φ st→(∀ t,Rep m φ (env t) (a.tmps.getD t undef))→Adv wi mi (fun _=>none) w m φ→(∀ id,φ id≠none→ok id)→R w m φ →
  ∃ m' φ',Inv w m' φ' st'∧(∀ t,Rep m' φ' (env' t) (a.tmps.getD t undef))∧Adv wi mi (fun _=>none) w m' φ'∧(∀ id,φ' id≠none→ok' id)∧R' w m' φ'):GR wi mi nt ok' R' env' st' a w:=by
 obtain⟨⟨m,φ,h1,h2,h3,h4,h5⟩,h6,h7⟩:=h;exact⟨f m φ h1 h2 h3 h4 h5,h6,h7⟩
def SN (st':Store) (φ:Pl):Pl:=fun i=>match st' i with
 | some _=>φ i
 | none=>none
theorem jB {st':Store} {φ:Pl} {i:Nat} {p:Nat×Ext} (h:SN st' φ i=some p):φ i=some p∧st' i≠none:=by
 unfold SN at h
 cases e:st' i with
 | none=>rw[e]at h;cases h
 | some _=>rw[e]at h;exact⟨h,by simp⟩
theorem AP {st':Store} {φ:Pl} {i:Nat} (h:st' i≠none):SN st' φ i=φ i:=by
 unfold SN
 cases e:st' i with
 | none=>exact absurd e h
 | some _=>rfl
theorem Inv.cut {w:World} {m:Mem} {φ:Pl} {st st':Store} (hi:Inv w m φ st) (hst:∀ i blk,st' i=some blk→st i=some blk∧iM blk):Inv w m (SN st' φ) st':=by
 refine⟨hi.mem,?_,?_,fun i b n f e ho=>hi.low i b n f (jB e).1 ho⟩
 ·intro i blk hb;obtain⟨h1,h2⟩:=hst i blk hb;obtain⟨b,n,q1,q2,q3⟩:=hi.live i blk h1;exact⟨b,n,by rw[AP (by rw[hb];simp)];exact q1,q2,q3.YV h2 rfl fun o h=>h⟩
 ·intro i j b bx n n2 b1 b2 f h1 h2 h3 h4 o1 o2;exact hi.inj i j b bx n n2 b1 b2 f (hst i b1 h1).1 (hst j b2 h2).1 (jB h3).1 (jB h4).1 o1 o2
theorem Adv.cut {w:World} {m:Mem} {φ:Pl} {st':Store} (h:Adv wi mi (fun _=>none) w m φ):Adv wi mi (fun _=>none) w m (SN st' φ) :=
 ⟨h.size,h.os,h.tape,h.output,h.block,h.mle,h.mnew,(fun _ _ _ h=>by cases h),fun i b n f e ho=>h.pnew i b n f (jB e).1 ho⟩
theorem jW.cut {φ:Pl} {st':Store} {f:Nat} (h:jW φ f):jW (SN st' φ) f:=fun i b n e=>h i b n (jB e).1
theorem qR {w:World} {m:Mem} {φ:Pl} {st st':Store} {id b f:Nat} {n:Ext} {blk:Blk} (hi:Inv w m φ st) (hst:∀ i blk,st' i=some blk→st i=some blk∧iM blk) (hid:st id=some blk) (hn:st' id=none) (e:φ id=some (b,n)) (ho:n.own f):jW (SN st' φ) f:=by
 intro i r n' e' ho';obtain⟨h1,h2⟩:=jB e'
 cases hb:st' i with
 | none=>exact h2 hb
 | some blk' =>
  have:=hi.inj i id r b n' n blk' blk f (hst i blk' hb).1 hid h1 e ho' ho;rw[this,hn]at hb;cases hb
theorem OG {w:World} {m:Mem} {φ:Pl} {id b f:Nat} {n:Ext} (h:Adv wi mi (fun _=>none) w m φ) (e:φ id=some (b,n)) (ho:n.own f):wi.heap.size≤f:=by
 rcases h.pnew id b n f e ho with h|h
 ·exact h
 ·exact absurd (fun id b n e=>by cases e) h
theorem Inv.TG {w:World} {m:Mem} {φ:Pl} {st:Store} {id b:Nat} {cs:List AV} {vs:List Value} {T:TypeId} (hi:Inv w m φ st) (h1:st id=none) (h2:φ id=none) (hf:jW φ b) (hm:∀ o,m b o=none) (hh:w.heap[b]?=some (.cells vs.toArray T (0,0)))
 (hc:RepC m (upd φ id (some (b,one b vs.length))) cs vs):Inv w m (upd φ id (some (b,one b vs.length))) (upd st id (some (.box cs))):=by
 have hlt:b<w.heap.size:=(zD.1 hh).1
 have hp:PLe φ (upd φ id (some (b,one b vs.length))):=fun i r n e=>by
  refine⟨n,?_,rfl,fun _ h=>h⟩;have:i≠id:=fun h=>by rw[h,h2]at e;cases e
  simp[upd,this,e]
 refine⟨hi.mem,?_,?_,?_⟩
 ·intro i blk hb;by_cases hid:i=id
  ·subst hid;simp[upd]at hb;subst hb;exact⟨b,one b vs.length,by simp[upd],⟨rfl,fun f hf=>by rw[show f=b from hf];exact hlt⟩, .box hh rfl hc hm⟩
  ·simp[upd,hid]at hb;obtain⟨r,n,q1,q2,q3⟩:=hi.live i blk hb;exact⟨r,n,by simp[upd,hid,q1],q2,q3.mono q2.1 (fun _ _=>rfl) (.refl _) hp fun _ _ _=>rfl⟩
 ·intro i j r r' n n' b1 b2 f e1 e2 p1 p2 o1 o2;by_cases hi1:i=id
  ·by_cases hj1:j=id
   ·rw[hi1,hj1]
   ·subst hi1;simp[upd]at p1;simp[upd,hj1]at p2;obtain⟨rfl,rfl⟩:=p1;rw[show f=_ from o1]at o2;exact absurd o2 (hf j r' n' p2)
  ·by_cases hj1:j=id
   ·subst hj1;simp[upd]at p2;simp[upd,hi1]at p1;obtain⟨rfl,rfl⟩:=p2;rw[show f=_ from o2]at o1;exact absurd o1 (hf i r n p1)
   ·simp[upd,hi1]at e1 p1;simp[upd,hj1]at e2 p2;exact hi.inj i j r r' n n' b1 b2 f e1 e2 p1 p2 o1 o2
 ·intro i r n f e ho;by_cases hid:i=id
  ·subst hid;simp[upd]at e;obtain⟨rfl,rfl⟩:=e;rw[show f=_ from ho];exact hlt
  ·simp[upd,hid]at e;exact hi.low i r n f e ho
theorem Adv.TG {w:World} {m:Mem} {φ:Pl} {id b k:Nat} (h:Adv wi mi (fun _=>none) w m φ) (hb:wi.heap.size≤b):Adv wi mi (fun _=>none) w m (upd φ id (some (b,one b k))):=by
 refine⟨h.size,h.os,h.tape,h.output,h.block,h.mle,h.mnew,(fun _ _ _ h=>by cases h),fun i r n f e ho=>?_⟩;by_cases hid:i=id
 ·subst hid;simp[upd]at e;obtain⟨rfl,rfl⟩:=e;rw[show f=_ from ho];exact .inl hb
 ·simp[upd,hid]at e;exact h.pnew i r n f e ho
def eD (vs:List Value):List AV:=vs.map fun v=>.i (.lit v)
theorem qK {m:Mem} {φ:Pl}:∀ {vs:List Value},(∀ v∈vs,v.oneCell'=true)→RepC m φ (eD vs) vs
 | [],_=>.nil
 | v::vs,h=>.cons (.i (.lit v)) (h v (by simp)) (qK fun u hu=>h u (by simp[hu]))
theorem DY {m:Mem} {φ:Pl}:∀ {vs us:List Value},RepC m φ (eD vs) us→us=vs
 | [],_, .nil=>rfl
 | v::vs,_, .cons a _ b=>by rw[a.bW,DY b]
theorem tL {m:Mem} {φ:Pl}:∀ {a b:List AV} {vs:List Value},RepC m φ (a++b) vs→∃ us xs,vs=us++xs∧RepC m φ a us∧RepC m φ b xs
 | [],b,vs,h=>⟨[],vs,rfl, .nil,h⟩
 | c::a,b,_, .cons h1 h2 h3=>by
  obtain⟨us,xs,rfl,k1,k2⟩:=tL h3;exact⟨_::us,xs,rfl, .cons h1 h2 k1,k2⟩
theorem F8 {m:Mem} {φ:Pl}:∀ {a b:List AV} {us xs:List Value},RepC m φ a us→RepC m φ b xs→RepC m φ (a++b) (us++xs)
 | [],_,_,_, .nil,h=>h
 | _::_,_,_,_, .cons h1 h2 h3,h=>.cons h1 h2 (F8 h3 h)
end
structure RAW (wi:World) (root:Nat) (p:Pn) (F:List Nat) (H:PL) (w:World) (m:Mem) (φ:Pl):Prop where
 th:TH w m p root 0 F H
 nr:root ∉ F
 nd:F.Nodup
 all:∀ f∈root::F,wi.heap.size≤f∧f<w.heap.size∧jW φ f∧(∀ o,m f o=none)∧∃ (vs:List Value) (T:TypeId),w.heap[f]?=some (.cells vs.toArray T (0,0))∧∀ v∈vs,v.oneCell'=true
theorem lF {w w':World} {f:Nat} (h:w'.heap[f]?=w.heap[f]?) (j:Nat):w'.cell? ⟨f,j,none⟩=w.cell? ⟨f,j,none⟩:=cell_of_heap h
theorem RAW.AD6 (wi:World) (root:Nat) (p:Pn) (F:List Nat) (H:PL):ALE (RAW wi root p F H):=by
 intro w m φ w' m' φ' ha h;have hs:∀ f∈root::F,w'.heap[f]?=w.heap[f]?:=fun f hf=>ha.block f (h.all f hf).2.1 (h.all f hf).2.2.1
 refine⟨h.th.frame ha.mle (fun j _ _=>lF (hs root (by simp)) j) (fun f hf j=>lF (hs f (by simp[hf])) j),h.nr,h.nd,fun f hf=>?_⟩;obtain⟨k1,k2,k3,k4,vs,T,k5,k6⟩:=h.all f hf;exact⟨k1,zJ k2 ha.size,ha.range k2 k3,fun o=>(ha.mnew f k2 k3 o).trans (k4 o),vs,T,by rw[hs f hf];exact k5,k6⟩
structure ADP (wi:World) (root:Nat) (p:Pn) (F:List Nat) (H:PL) (bq:Nat) (us:List Value) (wa:World) (ma:Mem) (w:World) (m:Mem) (φ:Pl):Prop where
 th:TH wa ma p root 0 F H
 nr:root ∉ F
 nd:F.Nodup
 le:MLe ma m
 inF:bq∈root::F
 own:∃ n,φ 2=some (bq,n)
 row:∃ T,wa.heap[bq]?=some (.cells us.toArray T (0,0))
 bqn:wi.heap.size≤bq
 oth:∀ f∈root::F,f≠bq→wi.heap.size≤f∧f<w.heap.size∧jW φ f∧(∀ o,m f o=none)∧w.heap[f]?=wa.heap[f]?∧∃ (vs:List Value) (T:TypeId),wa.heap[f]?=some (.cells vs.toArray T (0,0))∧∀ v∈vs,v.oneCell'=true
theorem ADP.AD6 (wi:World) (root:Nat) (p:Pn) (F:List Nat) (H:PL) (bq:Nat) (us:List Value) (wa:World) (ma:Mem):ALE (ADP wi root p F H bq us wa ma):=by
 intro w m φ w' m' φ' ha h;refine⟨h.th,h.nr,h.nd,h.le.trans ha.mle,h.inF,?_,h.row,h.bqn,fun f hf hne=>?_⟩
 ·obtain⟨n,e⟩:=h.own;obtain⟨n',e',_⟩:=ha.ple _ _ _ e;exact⟨n',e'⟩
 ·obtain⟨k1,k2,k3,k4,k5,k6⟩:=h.oth f hf hne;exact⟨k1,zJ k2 ha.size,ha.range k2 k3,fun o=>(ha.mnew f k2 k3 o).trans (k4 o),(ha.block f k2 k3).trans k5,k6⟩
theorem U1 {us:List Value} {o:Nat} {v0 v1 v2 v3 v4:Value} (h0:us[o]?=some v0) (h1:us[o+1]?=some v1) (h2:us[o+2]?=some v2) (h3:us[o+3]?=some v3) (h4:us[o+4]?=some v4):us=us.take o++([v0,v1,v2,v3,v4]++us.drop (o+5)):=by
 have g:∀ {o:Nat} {v:Value},us[o]?=some v→us.drop o=v::us.drop (o+1):=by
  intro o v h;obtain⟨hl,rfl⟩:=zY.1 h;exact xH hl
 have:us.drop o=[v0,v1,v2,v3,v4]++us.drop (o+5):=by rw[g h0,g h1,g h2,g h3,g h4];rfl
 rw[← this,yO]
mutual
theorem TH.hole {w:World} {m:Mem} {x:Pn} {b o:Nat} {F:List Nat} {H:PL}:TH w m x b o F H→∀ q∈H,∃ v0 v1 v2 v3 v4,ICells m q.2.cells [v0,v1,v2,v3,v4]∧At5 w q.1.1 q.1.2 v0 v1 v2 v3 v4
 | .fresh h1 h2,q,hq=>by simp at hq;subst hq;exact⟨_,_,_,_,_,h1,h2⟩
 | .leaf _ _ _ _,q,hq=>by simp at hq
 | .node _ _ _ _ _ h6,q,hq=>THL.hole h6 q hq
theorem THL.hole {w:World} {m:Mem} {xs:List Pn} {b o:Nat} {F:List Nat} {H:PL}:THL w m xs b o F H→∀ q∈H,∃ v0 v1 v2 v3 v4,ICells m q.2.cells [v0,v1,v2,v3,v4]∧At5 w q.1.1 q.1.2 v0 v1 v2 v3 v4
 | .nil _ _,q,hq=>by simp at hq
 | .cons h1 h2,q,hq=>by
  rcases zU.1 hq with h|h
  ·exact TH.hole h1 q h
  ·exact THL.hole h2 q h
end
theorem UR {m:Mem} {φ:Pl}:∀ {cs:List IV} {vs:List Value},ICells m cs vs→RepC m φ (lW cs) vs
 | [],_, .nil=>.nil
 | c::cs,_, .cons a o b=>.cons (.i a) o (UR b)
section
variable {wi:World} {mi:Mem} {nt:Nat}
def nE (pre:List Value) (row:List AV) (post:List Value):List AV:=eD pre++(row++eD post)
theorem GR.TG {ok:Nat→Prop} {root:Nat} {p:Pn} {F:List Nat} {H:PL} {env:Nat→AV} {st:Store} {a:Act} {w:World} {u bq oq:Nat} {y:Pn} (h:GR wi mi nt ok (RAW wi root p F H) env st a w) (hst:st 2=none) (hok:¬ ok 2) (hq:((bq,oq),y)∈H) (hu:env u=.i (.lit (.pointer (some ⟨bq,oq,none⟩)))) :
 ∃ pre post us ma,us.take oq=pre∧us.drop (oq+5)=post∧pre.length=oq∧us.length=oq+5+post.length∧(∀ v∈us,v.oneCell'=true) ∧
   GR wi mi nt (fun id=>ok id∨id=2) (ADP wi root p F H bq us w ma) (upd env u (.own 2 oq)) (upd st 2 (some (.box (nE pre (lW y.cells) post)))) a w:=by
 obtain⟨⟨m,φ,hi,henv,hadv,hk,hr⟩,h6,h7⟩:=h;obtain⟨v0,v1,v2,v3,v4,hc,h5⟩:=hr.th.hole _ hq;simp only at hc h5
 have hinF:bq∈root::F:=by
  rcases hr.th.holes _ hq with e|e
  ·simp at e;simp[e]
  ·simp at e;simp[e]
 obtain⟨k1,k2,k3,k4,us,T,k5,k6⟩:=hr.all bq hinF;have gc:∀ {o:Nat} {v:Value},w.cell? ⟨bq,o,none⟩=some v→us[o]?=some v:=fun h=>by rwa [dG k5]at h
 have hrow:=U1 (gc h5.c0) (gc h5.c1) (gc h5.c2) (gc h5.c3) (gc h5.c4);have hl4:=(zY.1 (gc h5.c4)).1;refine⟨us.take oq,us.drop (oq+5),us,m,rfl,rfl,by rw[yA];omega,by rw[xC];omega,k6,?_⟩
 have hφ2:φ 2=none:=by
  cases e:φ 2 with
  | none=>rfl
  | some q=>exact absurd (hk 2 (by rw[e];simp)) hok
 have hrep:RepC m (upd φ 2 (some (bq,one bq us.length))) (nE (us.take oq) (lW y.cells) (us.drop (oq+5))) us:=by
  have h1:=qK (m:=m) (φ:=upd φ 2 (some (bq,one bq us.length))) (vs:=us.take oq) fun v hv=>k6 v (zG hv)
  have h2:=qK (m:=m) (φ:=upd φ 2 (some (bq,one bq us.length))) (vs:=us.drop (oq+5)) fun v hv=>k6 v (yN hv)
  have h3:=F8 h1 (F8 (UR hc) h2);rw[← hrow]at h3;exact h3
 have hp:PLe φ (upd φ 2 (some (bq,one bq us.length))):=fun i r n e=>by
  refine⟨n,?_,rfl,fun _ h=>h⟩;have:i≠2:=fun h=>by rw[h,hφ2]at e;cases e
  simp[upd,this,e]
 refine⟨⟨m,upd φ 2 (some (bq,one bq us.length)),hi.TG hst hφ2 k3 k4 k5 hrep,fun t=>?_,hadv.TG k1,fun id hid=>?_,?_⟩,h6,h7⟩
 ·by_cases ht:t=u
  ·subst ht;have:=henv t;rw[hu]at this;simp only[upd,if_true];rw[this.bW];exact .own (n:=one bq us.length) (by simp[upd])
  ·simp only[upd,ht,if_false];exact(henv t).mono (.refl _) hp
 ·by_cases e:id=2
  ·exact .inr e
  ·simp[upd,e]at hid;exact .inl (hk id hid)
 ·refine⟨hr.th,hr.nr,hr.nd, .refl _,hinF,⟨one bq us.length,by simp[upd]⟩,⟨T,k5⟩,k1,fun f hf hne=>?_⟩;obtain⟨q1,q2,q3,q4,q5⟩:=hr.all f hf;refine⟨q1,q2,fun i r n e ho=>?_,q4,rfl,q5⟩;by_cases e2:i=2
  ·subst e2;simp[upd]at e;obtain⟨rfl,rfl⟩:=e;exact hne ho
  ·simp[upd,e2]at e;exact q3 i r n e ho
def slA (n id k:Nat):AV:=if n=0 then .nils else .osl id k 0 n
def kX (b:Nat):Nat→List Pn→PL
 | _,[]=>[]
 | o,x::l=>((b,o),x)::kX b (o+5) l
theorem Inv.ARO {w:World} {m:Mem} {φ:Pl} {st:Store} {id b:Nat} {n:Ext} {blk blk':Blk} (hi:Inv w m φ st) (h:st id=some blk) (e:φ id=some (b,n)) (hb:BlkOk w m φ b n blk'):Inv w m φ (upd st id (some blk')):=by
 refine⟨hi.mem,?_,?_,hi.low⟩
 ·intro i bl hbl;by_cases hid:i=id
  ·subst hid;simp[upd]at hbl;subst hbl;exact⟨b,n,e,(dF hi e h).1,hb⟩
  ·simp[upd,hid]at hbl;exact hi.live i bl hbl
 ·intro i j r r' n1 n2 b1 b2 f e1 e2 p1 p2 o1 o2
  have g:∀ i b1,upd st id (some blk') i=some b1→∃ b2,st i=some b2:=fun i b1 h1=>by
   by_cases hid:i=id
   ·subst hid;exact⟨blk,h⟩
   ·simp[upd,hid]at h1;exact⟨b1,h1⟩
  obtain⟨x1,y1⟩:=g i b1 e1;obtain⟨x2,y2⟩:=g j b2 e2;exact hi.inj i j r r' n1 n2 x1 x2 f y1 y2 p1 p2 o1 o2
theorem ZT {w:World} {m:Mem} {φ:Pl} {st:Store} {n id k:Nat} {v:Value} {es:List (List IV)} (hn:es.length=n) (hi:Inv w m φ st) (hr:Rep m φ (slA n id k) v) (hst:n≠0→st id=some (.arr k es)) :
 ∃ m1,IRep m1 (.isl es) v∧Inv w m1 φ (if n=0 then st else upd st id (some (.frz k es)))∧Adv w m φ w m1 φ:=by
 unfold slA at hr;by_cases h0:n=0
 ·simp only[h0,if_true]at hr ⊢;have:es=[]:=zW.1 (by omega);subst this
  cases hr
  exact⟨m, .isl0 _ _ (fun _=>rfl),hi, .refl _ _ _⟩
 ·simp only[h0,if_false]at hr ⊢;have hid:=hst h0
  have hfr:pX st (.osl id k 0 n)=some (.isl es,upd st id (some (.frz k es))):=by
   simp[pX,frz,vY,sH,hid,tst,window,bnd,gV,zZ,hn]
  exact jP hi hr hfr
theorem JP {w:World} {m:Mem} {b:Nat}:∀ {ks:List Pn} {o:Nat} {vs:List Value},ICells m (Pn.aB ks).flatten vs→(∀ j v,vs[j]?=some v→w.cell? ⟨b,o+j,none⟩=some v)→THL w m ks b o [] (kX b o ks)
 | [],o,_,_,_=>.nil b o
 | k::ks,o,vs,h,hw=>by
  simp only[Pn.aB,zA]at h;have h1:=h.take 5;have h2:=h.drop 5;rw[zC9 (Pn.dL k)]at h1;rw[xM (Pn.dL k)]at h2;have hl:=h1.length;rw[Pn.dL]at hl;have hlen:5≤vs.length:=by rw[yA]at hl;omega
  have hf:THL w m (k::ks) b o ([]++[]) ([((b,o),k)]++kX b (o+5) ks):=by
   refine .cons ?_ (JP h2 fun j v hj=>?_)
   ·have e:vs.take 5=[vs[0],vs[1],vs[2],vs[3],vs[4]]:=by
     apply List.ext_getElem (by simp;omega);intro i l1 l2;simp at l1 l2
     rcases i with _|_|_|_|_|i
     ·simp
     ·simp
     ·simp
     ·simp
     ·simp
     ·omega
    rw[e]at h1;exact .fresh h1 ⟨hw 0 _ (by simp),hw 1 _ (by simp),hw 2 _ (by simp),hw 3 _ (by simp),hw 4 _ (by simp)⟩
   ·rw[yM]at hj;have:=hw (5+j) v hj
    rwa [← Nat.add_assoc]at this
  exact hf
theorem GR.ARN {ok:Nat→Prop} {root:Nat} {p:Pn} {F:List Nat} {H:PL} {env env':Nat→AV} {st st':Store} {a:Act} {w wa:World} {ma:Mem} {u bq oq idE idC idK:Nat} {pre post us:List Value} {k t:Int} {es:List Ex} {cs:List Int} {ks:List Pn}
 (h:GR wi mi nt ok (ADP wi root p F H bq us wa ma) env st a w) (h1:us.take oq=pre) (h2:us.drop (oq+5)=post) (h3:pre.length=oq) (h4:us.length=oq+5+post.length)
 (hq:((bq,oq),Pn.mk k t es cs ks)∈H) (hbox:st 2=some (.box (nE pre [.int k, .int t,slA es.length idE 5,slA cs.length idC 1,slA ks.length idK 5] post)))
 (hE:es.length≠0→st idE=some (.arr 5 (Ex.aB es))) (hC:cs.length≠0→st idC=some (.arr 1 (aF cs))) (hK:ks.length≠0→st idK=some (.arr 5 (Pn.aB ks)))
 (hd:2<idE∧2<idC∧2<idK∧idE≠idC∧idE≠idK∧idC≠idK)
 (hst:∀ i blk,st' i=some blk→i<2∧st i=some blk∧iM blk) (he:∀ t,env' t=.junk∨(env' t=env t∧(env t=.own 2 oq∨l6 st' (env t)))) :
 ∃ F' H' us' b' cap vE vC m2,(((bq,oq),Pn.mk k t es cs ks)::H').Perm (H++kX b' 0 ks)∧us'=pre++([.int .i64 k, .int .i64 t,vE,vC,if ks.length=0 then .slice none 0 0 else .slice (some ⟨b',0,none⟩) ks.length cap]++post)∧(∀ v∈us',v.oneCell'=true)∧(∀ q∈H,q.1.1≠b') ∧
   GR wi mi nt (fun id=>id≤2) (ADP wi root p F' H' bq us' w m2) env' (upd st' 2 (some (.box (eD us')))) a w:=by
 obtain⟨⟨m,φ,hi,henv,hadv,hk,hr⟩,h6,h7⟩:=h;obtain⟨n2,e2⟩:=hr.own;obtain⟨hb2,hok2⟩:=dF hi e2 hbox;obtain⟨d1,d2,d3,d4,d5,d6⟩:=hd
 cases hok2 with
 | @box T _ vs hh hl hrc hm =>
  have hone:=hrc.one;obtain⟨vp,x,rfl,r1,r2⟩:=tL hrc;obtain⟨vr,vq,rfl,r3,r4⟩:=tL r2;obtain rfl:=(DY r1).symm;obtain rfl:=(DY r4).symm
  cases r3 with
  | cons a0 o0 r3 =>
  cases r3 with
  | cons a1 o1 r3 =>
  cases r3 with
  | @cons _ vE _ _ aE oE r3 =>
  cases r3 with
  | @cons _ vC _ _ aC oC r3 =>
  cases r3 with
  | @cons _ vK _ _ aK oK r3 =>
  cases r3
  obtain rfl:=a0.bW;obtain rfl:=a1.bW;obtain⟨m1,f1,i1,g1⟩:=ZT (es:=Ex.aB es) (by simp) hi aE hE
  have s1:∀ i,i≠idE→(if es.length=0 then st else upd st idE (some (.frz 5 (Ex.aB es)))) i=st i:=fun i hne=>by
   split
   ·rfl
   ·simp[upd,hne]
  generalize (if es.length=0 then st else upd st idE (some (.frz 5 (Ex.aB es))))=st1 at i1 s1;obtain⟨m2,f2,i2,g2⟩:=ZT (es:=aF cs) (by simp) i1 (aC.mono g1.mle (.refl _)) (fun h0=>by rw[s1 _ (by omega)];exact hC h0)
  have s2:∀ i,i≠idE→i≠idC→(if cs.length=0 then st1 else upd st1 idC (some (.frz 1 (aF cs)))) i=st i:=fun i hne hne2=>by
   split
   ·exact s1 i hne
   ·simp[upd,hne2,s1 i hne]
  generalize (if cs.length=0 then st1 else upd st1 idC (some (.frz 1 (aF cs))))=st2 at i2 s2;have hA:=(hadv.trans g1).trans g2
  have hm2:∀ o,m2 bq o=none:=by
   have hb:=s2 2 (by omega) (by omega);rw[hbox]at hb;obtain⟨_,hok⟩:=dF i2 e2 hb
   cases hok with|box _ _ _ q=>exact q
  have hlit:BlkOk w m2 φ bq n2 (.box (eD (pre++([.int .i64 k, .int .i64 t,vE,vC,vK]++post)))):=.box hh hl (qK hone) hm2;have i3:=i2.ARO (by rw[s2 2 (by omega) (by omega)];exact hbox) e2 hlit;generalize hus:pre++([.int .i64 k, .int .i64 t,vE,vC,vK]++post)=us' at hh hl hone hlit i3
  have hst2:∀ i blk,upd st' 2 (some (.box (eD us'))) i=some blk→upd st2 2 (some (.box (eD us'))) i=some blk∧iM blk:=by
   intro i blk hb;by_cases hid:i=2
   ·subst hid;simp[upd]at hb ⊢;refine⟨hb,?_⟩;subst hb;intro c hc;obtain⟨v,_,rfl⟩:=yD.1 hc;exact .inl ⟨v,rfl⟩
   ·simp[upd,hid]at hb ⊢;obtain⟨q1,q2,q3⟩:=hst i blk hb;exact⟨by rw[s2 i (by omega) (by omega)];exact q2,q3⟩
  have i4:=i3.cut hst2
  have hat:At5 w bq oq (.int .i64 k) (.int .i64 t) vE vC vK:=by
   have g:∀ (j:Nat) (v:Value),[Value.int .i64 k, .int .i64 t,vE,vC,vK][j]?=some v→w.cell? ⟨bq,oq+j,none⟩=some v:=by
    intro j v hj;have hj5:=(zY.1 hj).1;rw[dG hh,← hus,yX (by omega),h3,xP,yY hj5];exact hj
   exact⟨g 0 _ rfl,g 1 _ rfl,g 2 _ rfl,g 3 _ rfl,g 4 _ rfl⟩
  have hHlt:∀ q∈H,q.1.1∈root::F:=fun q hq=>by
   rcases hr.th.holes q hq with e|e
   ·simp[e]
   ·simp[e]
  have hlt:∀ f∈root::F,f<w.heap.size:=fun f hf=>by
   by_cases hne:f=bq
   ·subst hne;exact(zD.1 hh).1
   ·exact(hr.oth f hf hne).2.1
  have hmon:=hr.le.trans (g1.mle.trans g2.mle);have fE:IRep m2 (.isl (Ex.aB es)) vE:=f1.mono g2.mle
  obtain⟨b',cap,G,hvK,hTH,hG,hGn,hbn⟩:∃ b' cap G,vK=(if ks.length=0 then Value.slice none 0 0 else Value.slice (some ⟨b',0,none⟩) ks.length cap)∧TH w m2 (.mk k t es cs ks) bq oq G (kX b' 0 ks) ∧
   (∀ f∈G,wi.heap.size≤f∧f<w.heap.size∧jW (SN (upd st' 2 (some (.box (eD us')))) φ) f∧(∀ o,m2 f o=none)∧(∃ (vs:List Value) (T:TypeId),w.heap[f]?=some (.cells vs.toArray T (0,0))∧∀ v∈vs,v.oneCell'=true)∧f≠bq∧f ∉ root::F)∧G.Nodup∧∀ q∈H,q.1.1≠b':=by
   by_cases h0:ks.length=0
   ·have hks:ks=[]:=zW.1 h0;subst hks;simp only[slA,yK,if_true]at aK
    cases aK
    exact⟨w.heap.size,0,[],rfl, .leaf hat fE f2 (fun _=>rfl),by simp,List.nodup_nil,fun q hq e=>by have:=hlt _ (hHlt q hq);omega⟩
   ·simp only[slA,h0,if_false]at aK
    cases aK with
    | @osl _ _ _ _ cap b' nK ao eK l1 l2 l3 l4 =>
     have hao:=l3 (by omega);subst hao;have hK2:st2 idK=some (.arr 5 (Pn.aB ks)):=by rw[s2 idK (by omega) (by omega)];exact hK h0
     obtain⟨hbK,hokK⟩:=dF i2 eK hK2
     cases hokK with
     | @arr TK _ _ vk q1 q2 q3 q4 q5 q6 q7 q8 q9 =>
      have hb'q:b'≠bq:=fun e=>by
       subst e;have:=hi.inj idK 2 b' b' nK n2 _ _ b' (hK h0) hbox eK e2 hbK.1 hb2.1;omega
      have hnF:b' ∉ root::F:=fun hm=>by
       exact(hr.oth b' hm hb'q).2.2.1 idK b' nK eK hbK.1
      refine⟨b',cap,[b'],by simp[h0],?_,?_,by simp,fun q hq e=>hnF (e ▸ hHlt q hq)⟩
      ·refine .node hat fE f2 (fun e=>h0 (by rw[e];rfl)) (by omega) ?_;rw[Pn.aV]at q5
       exact JP q5 fun j v hj=>by
        rw[zC,dG q1];rw[zF]at hj;split at hj
        ·exact hj
        ·cases hj
      ·intro f hf;simp at hf;subst hf;refine⟨OG hadv eK hbK.1,hbK.2 _ hbK.1,?_,q7,⟨vk,TK,q1,q9⟩,hb'q,hnF⟩;refine qR i3 hst2 (id:=idK) (blk:=.arr 5 (Pn.aB ks)) (by simp[upd,show idK≠2 by omega,hK2]) ?_ eK hbK.1;have:idK≠2:=by omega
       simp only[upd,this,if_false]
       cases hx:st' idK with
       | none=>rfl
       | some blk=>have:=(hst idK blk hx).1;omega
  obtain⟨T0,hrow0⟩:=hr.row
  have hsame:∀ f∈root::F,∀ j,(f≠bq∨j<oq∨oq+5≤j)→w.cell? ⟨f,j,none⟩=wa.cell? ⟨f,j,none⟩:=by
   intro f hf j hj;by_cases hne:f=bq
   ·subst hne;rw[dG hh,dG hrow0,← hus]
    rcases hj with hj|hj|hj
    ·exact absurd rfl hj
    ·rw[yY (by omega),← h1,zF];simp[hj]
    ·rw[yX (by omega),yX (by simp;omega),← h2,yM];simp only[zM,yK,h3];congr 1;omega
   ·exact lF (hr.oth f hf hne).2.2.2.2.1 j
  obtain⟨F1,H1,k1,k2,k3⟩:=TH.fill hmon hTH hr.th hr.nr hr.nd hq hsame;have hF1:∀ f,f∈F1↔f∈F∨f∈G:=fun f=>by rw[k2.mem_iff,zU]
  refine⟨F1,H1,us',b',cap,vE,vC,m2,k3,by rw[← hus,hvK],hone,hbn,⟨⟨m2,SN (upd st' 2 (some (.box (eD us')))) φ,i4,fun x=>?_,hA.cut,fun id hid=>?_,?_⟩,h6,h7⟩⟩
  ·rcases he x with e|⟨e,e'|e'⟩
   ·rw[e];exact .junk _
   ·rw[e,e'];have hx:=henv x;rw[e']at hx;generalize a.tmps.getD x undef=yy at hx ⊢
    cases hx with
    | own e3=>exact .own (by rw[AP (by simp[upd])];exact e3)
   ·rw[e];refine l6.rep e' (fun i hi'=>?_) (henv x);refine AP ?_;by_cases hid:i=2
    ·subst hid;simp[upd]
    ·simpa [upd,hid]using hi'
  ·cases hx:SN (upd st' 2 (some (.box (eD us')))) φ id with
   | none=>exact absurd hx hid
   | some q =>
    have:=(jB hx).2;by_cases hid2:id=2
    ·omega
    ·simp[upd,hid2]at this
     cases hy:st' id with
     | none=>exact absurd hy this
     | some blk=>have:=(hst id blk hy).1;omega
  ·refine⟨k1,fun hm=>?_,?_, .refl _,?_,⟨n2,by rw[AP (by simp[upd])];exact e2⟩,⟨T,hh⟩,hr.bqn,fun f hf hne=>?_⟩
   ·rcases(hF1 root).1 hm with h|h
    ·exact hr.nr h
    ·exact(hG root h).2.2.2.2.2.2 (by simp)
   ·rw[k2.nodup_iff];exact yU.2 ⟨hr.nd,hGn,fun x hx y hy e=>(hG y hy).2.2.2.2.2.2 (by rw[← e];simp[hx])⟩
   ·rcases zR.1 hr.inF with e|e
    ·simp[e]
    ·simp[(hF1 bq).2 (.inl e)]
   ·have hf':f∈root::F∨f∈G:=by
     rcases zR.1 hf with e|e
     ·exact .inl (by simp[e])
     ·rcases(hF1 f).1 e with e|e
      ·exact .inl (by simp[e])
      ·exact .inr e
    rcases hf' with hf'|hf'
    ·obtain⟨q1,q2,q3,q4,q5,vs,T',q6,q7⟩:=hr.oth f hf' hne;refine⟨q1,q2,q3.cut,fun o=>?_,rfl,vs,T',by rw[q5];exact q6,q7⟩;rw[(g1.trans g2).mnew f q2 q3 o];exact q4 o
    ·obtain⟨q1,q2,q3,q4,q5,_⟩:=hG f hf';exact⟨q1,q2,q3,q4,rfl,q5⟩
theorem GR.UV {ok:Nat→Prop} {root:Nat} {p:Pn} {F:List Nat} {H:PL} {env env':Nat→AV} {st st':Store} {a:Act} {w wa:World} {ma:Mem} {bq:Nat} {us:List Value}
 (h:GR wi mi nt ok (ADP wi root p F H bq us wa ma) env st a w) (hbox:st 2=some (.box (eD us)))
 (hst:∀ i blk,st' i=some blk→i≠2∧st i=some blk∧iM blk) (he:∀ t,env' t=.junk∨(env' t=env t∧l6 st' (env t))) :
 GR wi mi nt (fun id=>st' id≠none) (RAW wi root p F H) env' st' a w:=by
 obtain⟨⟨m,φ,hi,henv,hadv,hk,hr⟩,h6,h7⟩:=h;obtain⟨n2,e2⟩:=hr.own;obtain⟨hb2,hok2⟩:=dF hi e2 hbox;have hst2:∀ i blk,st' i=some blk→st i=some blk∧iM blk:=fun i blk hb=>(hst i blk hb).2
 cases hok2 with
 | @box T _ vs hh hl hrc hm =>
  have hone:=hrc.one;obtain rfl:=(DY hrc).symm;obtain⟨T0,hrow0⟩:=hr.row
  have hcell:∀ f∈root::F,∀ j,w.cell? ⟨f,j,none⟩=wa.cell? ⟨f,j,none⟩:=by
   intro f hf j;by_cases hne:f=bq
   ·subst hne;rw[dG hh,dG hrow0]
   ·exact lF (hr.oth f hf hne).2.2.2.2.1 j
  refine⟨⟨m,SN st' φ,hi.cut hst2,fun x=>?_,hadv.cut,fun id hid=>?_,?_⟩,h6,h7⟩
  ·rcases he x with e|⟨e,e'⟩
   ·rw[e];exact .junk _
   ·rw[e];exact e'.rep (fun i hi'=>AP hi') (henv x)
  ·cases hx:SN st' φ id with
   | none=>exact absurd hx hid
   | some q=>exact(jB hx).2
  ·refine⟨hr.th.frame hr.le (fun j _ _=>hcell root (by simp) j) (fun f hf j=>hcell f (by simp[hf]) j),hr.nr,hr.nd,fun f hf=>?_⟩;by_cases hne:f=bq
   ·subst hne;refine⟨hr.bqn,(zD.1 hh).1,?_,hm,us,T,hh,hone⟩;refine qR hi hst2 hbox ?_ e2 hb2.1
    cases hx:st' 2 with
    | none=>rfl
    | some blk=>exact absurd rfl (hst 2 blk hx).1
   ·obtain⟨q1,q2,q3,q4,q5,vs',T',q6,q7⟩:=hr.oth f hf hne;exact⟨q1,q2,q3.cut,q4,vs',T',by rw[q5];exact q6,q7⟩
end
theorem O4 {m:Mem} {φ:Pl}:∀ {cs:List IV} {vs:List Value},RepC m φ (lW cs) vs→ICells m cs vs
 | [],_, .nil=>.nil
 | c::cs,_, .cons a o b=>by
  cases a with
  | i a=>exact .cons a o (O4 b)
section
variable {wi:World} {mi:Mem} {nt:Nat}
theorem GR.AUE {ok:Nat→Prop} {R:World→Mem→Pl→Prop} {p:Pn} {env:Nat→AV} {st st':Store} {a:Act} {w:World} {u id:Nat} (h:GR wi mi nt ok R env st a w) (hu:env u=.own id 0) (hbox:st id=some (.box (lW p.cells)))
 (hst:∀ i blk,st' i=some blk→i≠id∧st i=some blk∧iM blk) :
 ∃ b3,∀ env',(∀ t,env' t=.junk∨(t=u∧env' t=.i (.lit (.pointer (some ⟨b3,0,none⟩))))∨(env' t=env t∧l6 st' (env t)))→GR wi mi nt (fun i=>st' i≠none) (RAW wi b3 p [] [((b3,0),p)]) env' st' a w:=by
 obtain⟨⟨m,φ,hi,henv,hadv,hk,_⟩,h6,h7⟩:=h;have hr:=henv u;rw[hu]at hr;generalize hy:a.tmps.getD u undef=yy at hr
 cases hr with
 | @own _ _ b3 n3 e3 =>
  obtain⟨hb,hok⟩:=dF hi e3 hbox;have hst2:∀ i blk,st' i=some blk→st i=some blk∧iM blk:=fun i blk hb=>(hst i blk hb).2
  cases hok with
  | @box T _ vs hh hl hrc hm =>
   have hc:=O4 hrc;have hlen:=hc.length;rw[Pn.dL]at hlen
   obtain⟨v0,v1,v2,v3,v4,rfl⟩:∃ v0 v1 v2 v3 v4,vs=[v0,v1,v2,v3,v4]:=by
    match vs,hlen with
    | [v0,v1,v2,v3,v4],_=>exact⟨v0,v1,v2,v3,v4,rfl⟩
   refine⟨b3,fun env' he=>⟨⟨m,SN st' φ,hi.cut hst2,fun t=>?_,hadv.cut,fun i hi'=>?_,?_⟩,h6,h7⟩⟩
   ·rcases he t with e|⟨rfl,e⟩|⟨e,e'⟩
    ·rw[e];exact .junk _
    ·rw[e,hy];exact .i (.lit _)
    ·rw[e];exact e'.rep (fun i hi'=>AP hi') (henv t)
   ·cases hx:SN st' φ i with
    | none=>exact absurd hx hi'
    | some q=>exact(jB hx).2
   ·refine⟨.fresh hc ⟨by rw[dG hh];rfl,by rw[dG hh];rfl,by rw[dG hh];rfl,by rw[dG hh];rfl,by rw[dG hh];rfl⟩,by simp,List.nodup_nil,fun f hf=>?_⟩;simp at hf;subst hf;refine⟨OG hadv e3 hb.1,hb.2 _ hb.1,?_,hm,_,T,hh,hrc.one⟩;refine qR hi hst2 hbox ?_ e3 hb.1
    cases hx:st' id with
    | none=>rfl
    | some blk=>exact absurd rfl (hst id blk hx).1
theorem GR.fin {ok:Nat→Prop} {root:Nat} {p:Pn} {F:List Nat} {env:Nat→AV} {st:Store} {a:Act} {w:World} (h:GR wi mi nt ok (RAW wi root p F []) env st a w) (hst:∀ i blk,st i=some blk→iM blk) {u:Nat} (hu:env u=.i (.lit (.pointer (some ⟨root,0,none⟩)))) {env':Nat→AV} (he:∀ t,env' t=.junk∨(t=u∧env' t=.i (.iref p.cells))∨(env' t=env t∧l6 st (env t))) :
 GR wi mi nt ok (fun _ _ _=>True) env' st a w:=by
 classical
 obtain⟨⟨m,φ,hi,henv,hadv,hk,hr⟩,h6,h7⟩:=h
 let m':Mem:=fun f o=>if f∈root::F then w.cell? ⟨f,o,none⟩else m f o
 have hin:∀ f,f∈root::F→∀ o,m' f o=w.cell? ⟨f,o,none⟩:=fun f hf o=>by show(if f∈root::F then _ else _)=_;rw[if_pos hf]
 have hout:∀ f,f ∉ root::F→∀ o,m' f o=m f o:=fun f hf o=>by show(if f∈root::F then _ else _)=_;rw[if_neg hf]
 have hle:MLe m m':=fun f o v e=>by
  by_cases hf:f∈root::F
  ·rw[(hr.all f hf).2.2.2.1 o]at e;cases e
  ·rw[hout f hf];exact e
 have hmem:nG w m':=fun f o v e=>by
  by_cases hf:f∈root::F
  ·rw[hin f hf]at e;exact e
  ·rw[hout f hf]at e;exact hi.mem f o v e
 have hat:IAt m' root 0 p.cells:=hr.th.iat hle (fun j _ _=>hin root (by simp) j) (fun f hf j=>hin f (by simp[hf]) j);refine⟨⟨m',φ,⟨hmem,fun i blk hb=>?_,hi.inj,hi.low⟩,fun t=>?_,⟨hadv.size,hadv.os,hadv.tape,hadv.output,hadv.block,hadv.mle.trans hle,fun f hf hfr o=>?_,hadv.ple,hadv.pnew⟩,hk,trivial⟩,h6,h7⟩
 ·obtain⟨b,n,q1,q2,q3⟩:=hi.live i blk hb;refine⟨b,n,q1,q2,q3.YV (hst i blk hb) rfl fun o ho=>?_⟩;rw[hout b (fun hf=>(hr.all b hf).2.2.1 i b n q1 q2.1)];exact ho
 ·rcases he t with e|⟨rfl,e⟩|⟨e,e'⟩
  ·rw[e];exact .junk _
  ·have hx:=henv t;rw[hu]at hx;rw[e,hx.bW];exact .i (.iref hat)
  ·rw[e];exact e'.rep (fun _ _=>rfl) (henv t)
 ·rw[hout f (fun hf'=>by have:=(hr.all f hf').1;omega)];exact hadv.mnew f hf hfr o
theorem RAW.keep {root:Nat} {p:Pn} {F:List Nat} {H:PL} {w:World} {m:Mem} {φ:Pl} (ids:List Nat) (h:RAW wi root p F H w m φ):RAW wi root p F H w m (fF ids φ):=by
 refine⟨h.th,h.nr,h.nd,fun f hf=>?_⟩;obtain⟨k1,k2,k3,k4,k5⟩:=h.all f hf;refine⟨k1,k2,fun id r n e=>?_,k4,k5⟩;unfold fF at e
 cases hx:ids[id]? with
 | none=>rw[hx]at e;cases e
 | some j=>rw[hx]at e;exact k3 j r n e
theorem GR.settle {ok:Nat→Prop} {R:World→Mem→Pl→Prop} (hR:∀ w m φ ids,R w m φ→R w m (fF ids φ)) {env:Nat→AV} {st:Store} {a:Act} {w:World} (G:List Nat) (h:GR wi mi nt ok R env st a w) :
 GR wi mi nt (fun id=>id<(Av.settle G 0 env st).st.length) R (aZ (Av.settle G 0 env st).env) (bF (Av.settle G 0 env st).st) a w:=by
 obtain⟨⟨m,φ,hi,henv,hadv,hok,hK⟩,hsz,hdf⟩:=h;unfold Av.settle wU;generalize hids:iV st 0 (AO env G)=ids;have hd:ids.Nodup:=by rw[← hids];exact iU _ _ _
 refine⟨⟨m,fF ids φ,hi.keep hd,?_,hadv.keep (fun id h=>absurd rfl h) (fun j hj=>absurd hj (zC8 j)),?_,hR _ _ _ ids hK⟩,hsz,hdf⟩
 ·intro t
  have key:∀ G:List Nat,Rep m (fF ids φ) (aZ (mZ (gG ids) env G) t) (a.tmps.getD t undef):=by
   intro G
   induction G with
   | nil=>exact .junk _
   | cons u G ih =>
    simp only[mZ,aZ];by_cases e:t=u
    ·subst e;simp only[if_true];exact(henv t).ren (nT ids φ)
    ·simp only[e,if_false];exact ih
  exact key G
 ·intro id hne;simp only[iD];unfold fF at hne
  cases hx:ids[id]? with
  | none=>rw[hx]at hne;exact absurd rfl hne
  | some i=>exact(zY.1 hx).1
theorem GR.envTo {ok:Nat→Prop} {R:World→Mem→Pl→Prop} {env env':Nat→AV} {st:Store} {a:Act} {w:World} (h:GR wi mi nt ok R env st a w) (he:∀ t,env' t=.junk∨env' t=env t):GR wi mi nt ok R env' st a w:=by
 refine h.turn fun m φ h1 h2 h3 h4 h5=>⟨m,φ,h1,fun t=>?_,h3,h4,h5⟩
 rcases he t with e|e
 ·rw[e];exact .junk _
 ·rw[e];exact h2 t
theorem GR.ok' {ok ok':Nat→Prop} {R:World→Mem→Pl→Prop} {env:Nat→AV} {st:Store} {a:Act} {w:World} (h:GR wi mi nt ok R env st a w) (he:∀ id,ok id→ok' id):GR wi mi nt ok' R env st a w :=
 h.turn fun m φ h1 h2 h3 h4 h5=>⟨m,φ,h1,h2,h3,fun id hi=>he id (h4 id hi),h5⟩
theorem GR.APJ {C:Ctx} (hS:SoundOk C) {G:List Nat} {c:Code} {S:AS} {a:Act} {w:World} {R:World→Mem→Pl→Prop} (hR:ALE R) {PP:AExit→AS→Prop} (hc:codeOk nt c=true) (hx:∃ e S',dQ C G S.st.length c S=some (e,S')∧PP e S') (h:GR wi mi nt (fun id=>id<S.st.length) R (aZ S.env) (bF S.st) a w) (hnr:bD c=true:=by rfl) :
 c.wp C.P (fun e' a' w'=>∃ e S',e'=kG e∧PP e S'∧GR wi mi nt (fun id=>id<S'.st.length) R (aZ S'.env) (bF S'.st) a' w') a w:=by
 obtain⟨e,S',h1,h2⟩:=hx;refine wp_mono (GR.lQ hS hR hc h1 h hnr) ?_;rintro e' a' w' ⟨rfl,hg⟩;exact⟨e,S',rfl,h2,hg⟩
end
@[simp] theorem C9 (a:List Value):(eD a).length=a.length:=by simp[eD]
theorem PQ {α:Type}:∀ (a b:List α) (n:Nat),dropE (a.length+n) (a++b)=dropE n b
 | [],b,n=>by simp
 | x::a,b,n=>by
  rw[zM,show a.length+1+n=(a.length+n)+1 by omega];exact PQ a b n
theorem J9 {α:Type}:∀ (a b:List α) (n:Nat) (xs:List α),splice (a++b) (a.length+n) xs=bnd (splice b n xs) fun l=>some (a++l)
 | [],b,n,xs=>by simp;cases splice b n xs<;>rfl
 | x::a,b,n,xs=>by
  rw[zM,show a.length+1+n=(a.length+n)+1 by omega];show bnd (splice (a++b) (a.length+n) xs) _=_;rw[J9 a b n xs]
  cases splice b n xs<;>rfl
theorem M4 (pre post:List Value) (row:List AV) (j n:Nat):cut (nE pre row post) (pre.length+j) n=cut (row++eD post) j n:=by
 unfold cut nE;have:=PQ (eD pre) (row++eD post) j;rw[C9]at this;rw[this]
theorem tJ (pre post:List Value) (row:List AV) (j:Nat) (xs:List AV):splice (nE pre row post) (pre.length+j) xs=bnd (splice (row++eD post) j xs) fun l=>some (eD pre++l):=by
 unfold nE;have:=J9 (eD pre) (row++eD post) j xs;rw[C9]at this;exact this
theorem G6 (a:List Value):aX (eD a)=[]:=by
 induction a with
 | nil=>rfl
 | cons v a ih=>simpa [eD,aX,bZ]using ih
theorem JG (r:Nat→Option Nat) (a:List Value):BP r (eD a)=eD a:=by
 induction a with
 | nil=>rfl
 | cons v a ih=>simpa [eD,BP,ren]using ih
theorem XP (a b:List AV):aX (a++b)=aX a++aX b:=by
 induction a with
 | nil=>rfl
 | cons c a ih=>simp[aX,ih]
theorem AER (r:Nat→Option Nat) (a b:List AV):BP r (a++b)=BP r a++BP r b:=by
 induction a with
 | nil=>rfl
 | cons c a ih=>simp[BP,ih]
theorem aY (pre post:List Value) (row:List AV):aX (nE pre row post)=aX row:=by
 simp[nE,XP,G6]
theorem bN (r:Nat→Option Nat) (pre post:List Value) (row:List AV):BP r (nE pre row post)=nE pre (BP r row) post:=by
 simp[nE,AER,JG]
section
variable (pre post:List Value) (a0 a1 a2 a3 a4 x:AV)
theorem ASU:cut (nE pre [a0,a1,a2,a3,a4] post) (pre.length+2) 1=some [a2]:=by rw[M4];rfl
theorem AST:cut (nE pre [a0,a1,a2,a3,a4] post) (pre.length+3) 1=some [a3]:=by rw[M4];rfl
theorem ASS:cut (nE pre [a0,a1,a2,a3,a4] post) (pre.length+4) 1=some [a4]:=by rw[M4];rfl
theorem X6:splice (nE pre [a0,a1,a2,a3,a4] post) (pre.length+2) [x]=some (nE pre [a0,a1,x,a3,a4] post):=by rw[tJ];rfl
theorem AEG:splice (nE pre [a0,a1,a2,a3,a4] post) (pre.length+3) [x]=some (nE pre [a0,a1,a2,x,a4] post):=by rw[tJ];rfl
theorem NS:splice (nE pre [a0,a1,a2,a3,a4] post) (pre.length+4) [x]=some (nE pre [a0,a1,a2,a3,x] post):=by rw[tJ];cases post<;>rfl
theorem ALP:vD 1 (dropE (pre.length+2) (nE pre [a0,a1,a2,a3,a4] post))=some [a2]:=ASU pre post a0 a1 a2 a3 a4
theorem AQ8:vD 1 (dropE (pre.length+3) (nE pre [a0,a1,a2,a3,a4] post))=some [a3]:=AST pre post a0 a1 a2 a3 a4
theorem WG:vD 1 (dropE (pre.length+4) (nE pre [a0,a1,a2,a3,a4] post))=some [a4]:=ASS pre post a0 a1 a2 a3 a4
end
mutual
theorem TH.AZ7 {w:World} {m m':Mem} (hm:MLe m m') {x:Pn} {b o:Nat} {F:List Nat} {H:PL}:TH w m x b o F H→(∀ j,o≤j→j<o+5→m' b j=w.cell? ⟨b,j,none⟩)→(∀ f∈F,∀ j,m' f j=w.cell? ⟨f,j,none⟩)→IAt m' b o x.cells
 | .fresh h1 h2,hb,hF=>by
  refine IAt.mk o (h1.mono hm) fun j v hj=>?_
  rcases j with _|_|_|_|_|j
  ·simp at hj;subst hj;exact(hb _ (by omega) (by omega)).trans h2.c0
  ·simp at hj;subst hj;exact(hb _ (by omega) (by omega)).trans h2.c1
  ·simp at hj;subst hj;exact(hb _ (by omega) (by omega)).trans h2.c2
  ·simp at hj;subst hj;exact(hb _ (by omega) (by omega)).trans h2.c3
  ·simp at hj;subst hj;exact(hb _ (by omega) (by omega)).trans h2.c4
  ·simp at hj
 | .leaf h1 h2 h3 h4,hb,hF=>by
  rw[Pn.dY];have o2:(∀ es v,IRep m (.isl es) v→v.oneCell'=true):=fun es v h=>by cases h<;>rfl
  exact .cons ((hb _ (by omega) (by omega)).trans h1.c0) (.lit _) rfl (.cons ((hb _ (by omega) (by omega)).trans h1.c1) (.lit _) rfl (.cons ((hb _ (by omega) (by omega)).trans h1.c2) (h2.mono hm) (o2 _ _ h2) (.cons ((hb _ (by omega) (by omega)).trans h1.c3) (h3.mono hm) (o2 _ _ h3) (.cons ((hb _ (by omega) (by omega)).trans h1.c4) (.isl0 _ _ h4) rfl (.nil _ _)))))
 | .node h1 h2 h3 h4 h5 h6,hb,hF=>by
  rename_i ks b' cap vE vC F;rw[Pn.dY];have o2:(∀ es v,IRep m (.isl es) v→v.oneCell'=true):=fun es v h=>by cases h<;>rfl
  have he:=THL.AS9 hm h6 (fun j _ _=>hF b' (by simp) j) (fun f hf=>hF f (by simp[hf]));have hl:(Pn.aB ks).length=ks.length:=by simp
  have hn:Pn.aB ks≠[]:=fun e=>by rw[e]at hl;simp at hl;exact h4 (zW.1 hl.symm)
  have hk:IRep m' (.isl (Pn.aB ks)) (.slice (some ⟨b',0,none⟩) ks.length cap):=by
   have:=IRep.isl (cap:=cap) hn he (by omega)
   rwa [hl]at this
  exact .cons ((hb _ (by omega) (by omega)).trans h1.c0) (.lit _) rfl (.cons ((hb _ (by omega) (by omega)).trans h1.c1) (.lit _) rfl (.cons ((hb _ (by omega) (by omega)).trans h1.c2) (h2.mono hm) (o2 _ _ h2) (.cons ((hb _ (by omega) (by omega)).trans h1.c3) (h3.mono hm) (o2 _ _ h3) (.cons ((hb _ (by omega) (by omega)).trans h1.c4) hk rfl (.nil _ _)))))
theorem THL.AS9 {w:World} {m m':Mem} (hm:MLe m m') {xs:List Pn} {b o:Nat} {F:List Nat} {H:PL}:THL w m xs b o F H→(∀ j,o≤j→j<o+5*xs.length→m' b j=w.cell? ⟨b,j,none⟩)→(∀ f∈F,∀ j,m' f j=w.cell? ⟨f,j,none⟩)→IElems m' b o 5 (Pn.aB xs)
 | .nil b o,hb,hF=>by simp only[Pn.aB];exact .nil b o 5
 | .cons h1 h2,hb,hF=>by
  simp only[Pn.aB];exact .cons (TH.AZ7 hm h1 (fun j l1 l2=>hb j l1 (by simp only[zM];omega)) (fun f hf=>hF f (by simp[hf]))) (Pn.dL _) (THL.AS9 hm h2 (fun j l1 l2=>hb j (by omega) (by simp only[zM];omega)) (fun f hf=>hF f (by simp[hf])))
end
theorem THL.nth {w:World} {m:Mem} {b:Nat}:∀ {xs:List Pn} {o:Nat} {F:List Nat} {i:Nat} {x:Pn},THL w m xs b o F []→xs[i]?=some x →
 ∃ Fa Fi Fz,F=Fa++(Fi++Fz)∧TH w m x b (o+5*i) Fi []∧∀ {w':World} {m':Mem} {y:Pn} {G:List Nat} {HY:PL},MLe m m'→(∀ j,o≤j→j<o+5*xs.length→(j<o+5*i∨o+5*i+5≤j)→w'.cell? ⟨b,j,none⟩=w.cell? ⟨b,j,none⟩) →
   (∀ f∈Fa++Fz,∀ j,w'.cell? ⟨f,j,none⟩=w.cell? ⟨f,j,none⟩)→TH w' m' y b (o+5*i) G HY→THL w' m' (xs.set i y) b o (Fa++(G++Fz)) HY:=by
 intro xs
 induction xs with
 | nil=>intro o F i x _ h;simp at h
 | cons a xs ih =>
  intro o F i x h hx;generalize hH:([]:PL)=H at h
  cases h with
  | @cons _ _ _ _ F1 F2 H1 H2 h1 h2 =>
   obtain⟨rfl,rfl⟩:=List.append_eq_nil_iff.1 hH.symm
   cases i with
   | zero =>
    simp at hx;subst hx;refine⟨[],F1,F2,by simp,by simpa using h1,fun {w' m' y G HY} hm hw hF hy=>?_⟩;have k2:=THL.frame hm (fun j l1 l2=>hw j (by omega) (by simp only[zM];omega) (.inr (by omega))) (fun f hf=>hF f (by simp[hf])) h2;have:=THL.cons hy k2;simpa using this
   | succ i =>
    obtain⟨Fa,Fi,Fz,e,h3,h4⟩:=ih h2 (by simpa using hx);subst e;refine⟨F1++Fa,Fi,Fz,by simp,by rw[show o+5*(i+1)=o+5+5*i by omega];exact h3,fun {w' m' y G HY} hm hw hF hy=>?_⟩;rw[show o+5*(i+1)=o+5+5*i by omega]at hy;have k1:=TH.frame hm (fun j l1 l2=>hw j l1 (by simp only[zM];omega) (.inl (by omega))) (fun f hf=>hF f (by simp[hf])) h1;have k2:=h4 hm (fun j l1 l2 l3=>hw j (by omega) (by simp only[zM];omega) (by omega)) (fun f hf=>hF f (by rcases zU.1 hf with h|h<;>simp[h])) hy;have:=THL.cons k1 k2;simpa using this
theorem AES {path:List Int} {x y z:Pn} {i:Nat} (h:Pn.at path x=some y):Pn.put (path++[(i:Int)]) x z=Pn.put path x (.mk y.kind y.table y.exprs y.cols (y.kids.set i z)):=by
 induction path generalizing x with
 | nil =>
  simp only[Pn.at,Option.some.injEq]at h;subst h
  cases hk:x.kids[i]? with
  | none =>
   have:x.kids.length≤i:=by simpa using hk
   simp[Pn.put,hk,List.set_eq_of_length_le this,Pn.eta]
  | some k=>simp[Pn.put,hk]
 | cons j path ih =>
  simp only[Pn.at]at h;split at h
  ·rename_i h0
   cases hk:x.kids[j.toNat]? with
   | none=>rw[hk]at h;cases h
   | some k =>
    rw[hk]at h;have:=ih h;simp[Pn.put,hk,this]
  ·cases h
structure AtP (w:World) (m:Mem) (x:Pn) (b o:Nat) (F:List Nat) (path:List Int) (y:Pn) (bq oq:Nat) (Fa Fy Fz:List Nat):Prop where
 eq:F=Fa++(Fy++Fz)
 inb:bq∈b::Fa
 nr:b ∉ F
 nd:F.Nodup
 is:Pn.at path x=some y
 th:TH w m y bq oq Fy []
 fill:∀ {w':World} {m':Mem} {y':Pn} {G:List Nat} {HY:PL},MLe m m'→(∀ f∈b::(Fa++Fz),∀ j,(f≠bq∨j<oq∨oq+5≤j)→w'.cell? ⟨f,j,none⟩=w.cell? ⟨f,j,none⟩)→TH w' m' y' bq oq G HY→TH w' m' (Pn.put path x y') b o (Fa++(G++Fz)) HY
theorem AtP.mem {w:World} {m:Mem} {x:Pn} {b o:Nat} {F:List Nat} {path:List Int} {y:Pn} {bq oq:Nat} {Fa Fy Fz:List Nat} (h:AtP w m x b o F path y bq oq Fa Fy Fz):bq∈b::F:=by
 rw[h.eq]
 rcases zR.1 h.inb with e|e
 ·simp[e]
 ·simp[e]
theorem AtP.frame {w w':World} {m m':Mem} {x:Pn} {b o:Nat} {F:List Nat} {path:List Int} {y:Pn} {bq oq:Nat} {Fa Fy Fz:List Nat} (h:AtP w m x b o F path y bq oq Fa Fy Fz) (hm:MLe m m') (hF:∀ f∈b::F,∀ j,w'.cell? ⟨f,j,none⟩=w.cell? ⟨f,j,none⟩):AtP w' m' x b o F path y bq oq Fa Fy Fz:=by
 refine⟨h.eq,h.inb,h.nr,h.nd,h.is,h.th.frame hm (fun j _ _=>hF bq h.mem j) (fun f hf j=>hF f (by rw[h.eq];simp[hf]) j),fun hm' hw hy=>h.fill (hm.trans hm') (fun f hf j hj=>?_) hy⟩;rw[hw f hf j hj];refine hF f ?_ j;rw[h.eq]
 rcases zR.1 hf with e|e
 ·simp[e]
 ·rcases zU.1 e with e|e<;>simp[e]
theorem AtP.step {w:World} {m:Mem} {x:Pn} {b o:Nat} {F:List Nat} {path:List Int} {y z:Pn} {bq oq:Nat} {Fa Fy Fz:List Nat} {i:Nat} (h:AtP w m x b o F path y bq oq Fa Fy Fz) (hz:y.kids[i]?=some z) :
 ∃ b' cap,w.cell? ⟨bq,oq+4,none⟩=some (.slice (some ⟨b',0,none⟩) y.kids.length cap)∧y.kids.length≤cap∧∃ Fa' Fy' Fz',AtP w m x b o F (path++[(i:Int)]) z b' (5*i) Fa' Fy' Fz':=by
 have ht:=h.th;have hFq:=h.eq;generalize hH:([]:PL)=H at ht
 cases ht with
 | fresh=>cases hH
 | leaf h1 h2 h3 h4=>simp[Pn.kids]at hz
 | @node k t es cs ks _ _ b' cap vE vC F1 _ h1 h2 h3 h4 h5 h6 =>
  subst hH;have hz:ks[i]?=some z:=hz;obtain⟨Ga,Gi,Gz,e,t1,t2⟩:=h6.nth hz;subst e;have hnd:=h.nd;rw[hFq]at hnd;have hnr:=h.nr;rw[hFq]at hnr
  have hne:bq≠b':=by
   intro e
   rcases zR.1 h.inb with e'|e'
   ·exact hnr (by rw[← e',e];simp)
   ·rw[yU]at hnd;exact hnd.2.2 _ e' b' (by simp) e
  refine⟨b',cap,h1.c4,h5,Fa++(b'::Ga),Gi,Gz++Fz,by rw[hFq];simp,by simp,h.nr,h.nd,?_,by simpa using t1,fun {w' m' y' G HY} hm hw hy=>?_⟩
  ·rw[wG path x _ [(i:Int)] h.is];simp[Pn.at,Pn.kids,hz]
  ·rw[AES h.is]
   have hK:THL w' m' (ks.set i y') b' 0 (Ga++(G++Gz)) HY:=by
    refine t2 hm (fun j _ _ hj=>hw b' (by simp) j (.inr (by omega))) (fun f hf j=>hw f (by rcases zU.1 hf with e|e<;>simp[e]) j (.inl ?_)) (by simpa using hy);intro e;subst e;have hb:=(yU.1 hnd).2.1;simp only[yL,z8]at hb;exact hb.1 (by rcases zU.1 hf with e|e<;>simp[e])
   have hlen:(ks.set i y').length=ks.length:=by simp
   have hn:ks.set i y'≠[]:=fun e=>by rw[e]at hlen;simp at hlen;exact h4 (zW.1 hlen.symm)
   have hbq:bq∈b::((Fa++b'::Ga)++(Gz++Fz)):=by
    rcases zR.1 h.inb with e'|e'
    ·simp[e']
    ·simp[e']
   have hA:=h1.frame (w':=w') (fun j l1 l2=>hw bq hbq j (.inl hne));rw[← hlen]at hA
   have hY:TH w' m' (.mk k t es cs (ks.set i y')) bq oq (b'::(Ga++(G++Gz))) HY :=
    .node hA (h2.mono hm) (h3.mono hm) hn (by rw[hlen];exact h5) hK
   have:=h.fill hm (fun f hf j hj=>hw f (by
    rcases zR.1 hf with e|e
    ·simp[e]
    ·rcases zU.1 e with e|e<;>simp[e]) j (by
    by_cases e:f=b'
    ·subst e;exfalso
     rcases zR.1 hf with e|e
     ·exact hnr (by rw[← e];simp)
     ·rcases zU.1 e with e|e
      ·exact(yU.1 hnd).2.2 _ e f (by simp) rfl
      ·have hb:=(yU.1 hnd).2.1;simp only[yL,z8]at hb;exact hb.1 (by simp[e])
    ·exact .inl e)) hY
   simpa [Pn.kind,Pn.table,Pn.exprs,Pn.cols,Pn.kids]using this
def ALD:Blk→Prop
 | .box cs=>∀ c∈cs,(∃ v,c=.i v)∨c=.nils
 | .loop _ _ _=>False
 | _=>True
theorem RepC.tree {m:Mem} {φ φ':Pl}:∀ {cs:List AV} {vs:List Value},(∀ c∈cs,(∃ v,c=.i v)∨c=.nils)→RepC m φ cs vs→RepC m φ' cs vs
 | [],_,_, .nil=>.nil
 | c::cs,_,h, .cons a o r=>by
  have hr:=RepC.tree (m:=m) (φ':=φ') (fun d hd=>h d (by simp[hd])) r
  rcases h c (by simp)with ⟨v,rfl⟩|rfl
  ·cases a with|i a=>exact .cons (.i a) o hr
  ·cases a;exact .cons .nils o hr
theorem BlkOk.tree {w:World} {m:Mem} {φ φ':Pl} {b:Nat} {n:Ext} {blk:Blk} (hl:ALD blk) (h:BlkOk w m φ b n blk):BlkOk w m φ' b n blk:=by
 cases h with
 | box h1 h2 h3 h4=>exact .box h1 h2 (h3.tree hl) h4
 | arr h1 h2 h3 h4 h5 h6 h7 h8 h9=>exact .arr h1 h2 h3 h4 h5 h6 h7 h8 h9
 | frz h1 h2=>exact .frz h1 h2
 | fbox h1=>exact .fbox h1
 | tre h1 h2 h3 h4 h5 h6 h7 h8 h9 h10=>exact .tre h1 h2 h3 h4 h5 h6 h7 h8 h9 h10
 | loop=>cases hl
def ACW (st':Store):AV→Prop
 | .i _=>True
 | .own id _=>st' id≠none
 | .osl id _ _ _=>st' id≠none
 | .nils=>True
 | _=>False
theorem ACW.rep {m:Mem} {φ φ':Pl} {st':Store} {v:AV} {x:Value} (h:ACW st' v) (he:∀ i,st' i≠none→φ' i=φ i) (hr:Rep m φ v x):Rep m φ' v x:=by
 unfold ACW at h;split at h
 ·cases hr with|i k=>exact .i k
 ·cases hr with
  | own e=>exact .own (by rw[he _ h];exact e)
 ·cases hr with
  | osl e a b c d=>exact .osl (by rw[he _ h];exact e) a b c d
 ·cases hr;exact .nils
 ·cases h
structure CPY (wi:World) (p:Pn) (F:List Nat) (v0 v1 v2 v3 v4:Value) (w:World) (m:Mem) (φ:Pl):Prop where
 th:∀ {w':World} {m':Mem} {b o:Nat},MLe m m'→(∀ f∈F,∀ j,w'.cell? ⟨f,j,none⟩=w.cell? ⟨f,j,none⟩)→At5 w' b o v0 v1 v2 v3 v4→TH w' m' p b o F []
 cells:∀ {m':Mem},MLe m m'→(∀ f∈F,∀ j,m' f j=w.cell? ⟨f,j,none⟩)→ICells m' p.cells [v0,v1,v2,v3,v4]
 nd:F.Nodup
 all:∀ f∈F,wi.heap.size≤f∧f<w.heap.size∧jW φ f∧(∀ o,m f o=none)∧∃ (vs:List Value) (T:TypeId),w.heap[f]?=some (.cells vs.toArray T (0,0))∧∀ v∈vs,v.oneCell'=true
theorem CPY.AD6 (wi:World) (p:Pn) (F:List Nat) (v0 v1 v2 v3 v4:Value):ALE (CPY wi p F v0 v1 v2 v3 v4):=by
 intro w m φ w' m' φ' ha h;have hs:∀ f∈F,w'.heap[f]?=w.heap[f]?:=fun f hf=>ha.block f (h.all f hf).2.1 (h.all f hf).2.2.1
 refine⟨fun hm hw h5=>h.th (ha.mle.trans hm) (fun f hf j=>(hw f hf j).trans (lF (hs f hf) j)) h5,fun hm hw=>h.cells (ha.mle.trans hm) fun f hf j=>(hw f hf j).trans (lF (hs f hf) j),h.nd,fun f hf=>?_⟩;obtain⟨k1,k2,k3,k4,vs,T,k5,k6⟩:=h.all f hf;exact⟨k1,zJ k2 ha.size,ha.range k2 k3,fun o=>(ha.mnew f k2 k3 o).trans (k4 o),vs,T,by rw[hs f hf];exact k5,k6⟩
theorem TH.cells {w:World} {m:Mem} {x:Pn} {b o:Nat} {F:List Nat} (h:TH w m x b o F []):∃ v0 v1 v2 v3 v4,At5 w b o v0 v1 v2 v3 v4∧(∀ v∈[v0,v1,v2,v3,v4],v.oneCell'=true)∧(∃ ao cap,v4=.slice ao x.kids.length cap)∧(∀ {w':World} {m':Mem} {b' o':Nat},MLe m m'→(∀ f∈F,∀ j,w'.cell? ⟨f,j,none⟩=w.cell? ⟨f,j,none⟩)→At5 w' b' o' v0 v1 v2 v3 v4→TH w' m' x b' o' F []) ∧
 ∀ {m':Mem},MLe m m'→(∀ f∈F,∀ j,m' f j=w.cell? ⟨f,j,none⟩)→ICells m' x.cells [v0,v1,v2,v3,v4]:=by
 have o2:∀ {m:Mem} es v,IRep m (.isl es) v→v.oneCell'=true:=fun es v h=>by cases h<;>rfl
 generalize hH:([]:PL)=H at h
 cases h with
 | fresh=>cases hH
 | leaf h1 h2 h3 h4 =>
  refine⟨_,_,_,_,_,h1,(by intro v hv;simp only[zR,List.not_mem_nil,or_false]at hv;rcases hv with rfl|rfl|rfl|rfl|rfl<;>first|rfl|exact o2 _ _ h2|exact o2 _ _ h3),⟨_,_,rfl⟩,fun hm _ h5=>.leaf h5 (h2.mono hm) (h3.mono hm) h4,fun hm _=>?_⟩;rw[Pn.dY];exact .cons (.lit _) rfl (.cons (.lit _) rfl (.cons (h2.mono hm) (o2 _ _ h2) (.cons (h3.mono hm) (o2 _ _ h3) (.cons (.isl0 _ _ h4) rfl .nil))))
 | @node k t es cs ks _ _ b' cap vE vC F1 _ h1 h2 h3 h4 h5 h6 =>
  subst hH;refine⟨_,_,_,_,_,h1,(by intro v hv;simp only[zR,List.not_mem_nil,or_false]at hv;rcases hv with rfl|rfl|rfl|rfl|rfl<;>first|rfl|exact o2 _ _ h2|exact o2 _ _ h3),⟨_,_,rfl⟩,fun hm hF k5=>.node k5 (h2.mono hm) (h3.mono hm) h4 h5 (h6.frame hm (fun j _ _=>hF _ (by simp) j) fun f hf=>hF f (by simp[hf])),fun hm hF=>?_⟩;rw[Pn.dY];have he:=THL.AS9 hm h6 (fun j _ _=>hF b' (by simp) j) (fun f hf=>hF f (by simp[hf]));have hl:(Pn.aB ks).length=ks.length:=by simp
  have hn:Pn.aB ks≠[]:=fun e=>by rw[e]at hl;simp at hl;exact h4 (zW.1 hl.symm)
  have hk:=IRep.isl (cap:=cap) hn he (by omega);rw[hl]at hk;exact .cons (.lit _) rfl (.cons (.lit _) rfl (.cons (h2.mono hm) (o2 _ _ h2) (.cons (h3.mono hm) (o2 _ _ h3) (.cons hk rfl .nil))))
structure RAT (wi:World) (root:Nat) (p:Pn) (F:List Nat) (path:List Int) (y:Pn) (bq oq:Nat) (Fa Fy Fz:List Nat) (w:World) (m:Mem) (φ:Pl):Prop where
 raw:RAW wi root p F [] w m φ
 pos:AtP w m p root 0 F path y bq oq Fa Fy Fz
structure ADK (wi:World) (root:Nat) (p:Pn) (F:List Nat) (path:List Int) (y:Pn) (bq oq:Nat) (Fa Fy Fz:List Nat) (k:Nat) (wa:World) (ma:Mem) (w:World) (m:Mem) (φ:Pl):Prop where
 pos:AtP wa ma p root 0 F path y bq oq Fa Fy Fz
 le:MLe ma m
 own:∃ n,φ k=some (bq,n)
 bqn:wi.heap.size≤bq
 oth:∀ f∈root::F,f≠bq→wi.heap.size≤f∧f<w.heap.size∧jW φ f∧(∀ o,m f o=none)∧w.heap[f]?=wa.heap[f]?∧∃ (vs:List Value) (T:TypeId),wa.heap[f]?=some (.cells vs.toArray T (0,0))∧∀ v∈vs,v.oneCell'=true
def TL (wi:World) (mi:Mem) (p:Pn) (e:Ending) (w:World):Prop :=
 ∃ v0 v1 v2 v3 v4 F m,e=.returned (.agg #[v0,v1,v2,v3,v4])∧(∀ v∈[v0,v1,v2,v3,v4],v.oneCell'=true)∧nG w m∧Adv wi mi (fun _=>none) w m (fun _=>none)∧CPY wi p F v0 v1 v2 v3 v4 w m (fun _=>none)
theorem TL.tree {wi:World} {mi:Mem} {p:Pn} {e:Ending} {w:World} (h:TL wi mi p e w):eZ wi mi (fun _=>none) (.i (.agg p.cells)) [] e w:=by
 classical
 obtain⟨v0,v1,v2,v3,v4,F,m,rfl,hone,hm,ha,hc⟩:=h
 let m':Mem:=fun f o=>if f∈F then w.cell? ⟨f,o,none⟩else m f o
 have hin:∀ f,f∈F→∀ o,m' f o=w.cell? ⟨f,o,none⟩:=fun f hf o=>by show(if f∈F then _ else _)=_;rw[if_pos hf]
 have hout:∀ f,f ∉ F→∀ o,m' f o=m f o:=fun f hf o=>by show(if f∈F then _ else _)=_;rw[if_neg hf]
 have hle:MLe m m':=fun f o v e=>by
  by_cases hf:f∈F
  ·rw[(hc.all f hf).2.2.2.1 o]at e;cases e
  ·rw[hout f hf];exact e
 have hmem:nG w m':=fun f o v e=>by
  by_cases hf:f∈F
  ·rw[hin f hf]at e;exact e
  ·rw[hout f hf]at e;exact hm f o v e
 refine⟨_,m',fun _=>none,rfl, .i (.agg (hc.cells hle hin)),⟨hmem,fun id blk e=>by simp[bF]at e,fun id id' b b' n n' blk blk' f e=>by simp[bF]at e,fun _ _ _ _ e=>by cases e⟩,⟨ha.size,ha.os,ha.tape,ha.output,ha.block,ha.mle.trans hle,fun f hf hfr o=>?_, .refl _,fun _ _ _ _ e=>by cases e⟩,fun id h=>absurd rfl h⟩;rw[hout f (fun hf'=>by have:=(hc.all f hf').1;omega)];exact ha.mnew f hf hfr o
section
variable {C:Ctx} {wi:World} {mi:Mem} {nt:Nat}
theorem GR.ops (hS:SoundOk C) {ops:Array Oper} {Q:Exit→Act→World→Prop} {base:Nat} {js:List Nat} {R:World→Mem→Pl→Prop} (hR:ALE R) (hs:ops.all (jK nt)=true) {os:List Oper} {i:Nat} {R0 R1:RS} {a:Act} {w:World} (hl:∀ j,j<os.length→os[j]?=ops[i+j]?) (hx:d9 C (aI C) ops.toList false base os i R0=some R1)
 (h:GR wi mi nt (MP base fun j=>j<i) R R0.env R0.st a w) (hQ:∀ a' w',GR wi mi nt (MP base fun j=>j<i+os.length) R R1.env R1.st a' w'→wpOpsIn (FR none) 0 C.P ops Q js a' w'):wpOpsIn (FR none) 0 C.P ops Q (List.range' i os.length++js) a w:=by
 obtain⟨⟨m,φ,h1,h2,h3,h4,h5⟩,h6,h7⟩:=h;refine iR hS.ctx (bP hS) (fun o ho=>yF.1 hs o ho) os i R0 R1 a w hl hx ⟨⟨m,φ,h1,h2, .refl _ _ _,h4, .nil _ _ _⟩,h6,h7⟩ fun a' w' k=>hQ a' w' ?_
 obtain⟨⟨m',φ',k1,k2,k3,k4,_⟩,k5,k6⟩:=k;exact⟨⟨m',φ',k1,k2,h3.trans k3,k4,hR _ _ _ _ _ _ k3 h5⟩,k5,k6⟩
theorem GR.put {ok:Nat→Prop} {R:World→Mem→Pl→Prop} {env:Nat→AV} {st:Store} {a:Act} {w:World} {d:Nat} {x:AV} {v:Value} (hd:d<nt) (h:GR wi mi nt ok R env st a w) (hr:∀ m φ,R w m φ→Rep m φ x v):GR wi mi nt ok R (upd env d x) st (a.put (some d) v) w:=by
 obtain⟨⟨m,φ,hi,henv,hadv,hok,hK⟩,hsz,hdf⟩:=h;exact⟨⟨m,φ,hi,L9 (dst:=some d) henv hsz (by simpa [AFW]using hd) (hr m φ hK),hadv,hok,hK⟩,by rw[rM];exact hsz,by rw[lJ];exact hdf⟩
theorem GR.APV {ok:Nat→Prop} {root:Nat} {p:Pn} {F:List Nat} {env:Nat→AV} {st:Store} {a:Act} {w:World} {u k:Nat} (h:GR wi mi nt ok (RAW wi root p F []) env st a w) (hu:env u=.i (.lit (.pointer (some ⟨root,0,none⟩)))) (hk:st k=none) (hok:¬ ok k) :
 ∃ v0 v1 v2 v3 v4 post,(∀ v∈[v0,v1,v2,v3,v4],v.oneCell'=true)∧∀ env',(∀ t,env' t=.junk∨(t=u∧env' t=.own k 0)∨env' t=env t) →
   GR wi mi nt (fun id=>ok id∨id=k) (CPY wi p F v0 v1 v2 v3 v4) env' (upd st k (some (.box (eD [v0,v1,v2,v3,v4]++eD post)))) a w:=by
 obtain⟨⟨m,φ,hi,henv,hadv,hid,hr⟩,h6,h7⟩:=h;obtain⟨k1,k2,k3,k4,us,T,k5,k6⟩:=hr.all root (by simp);obtain⟨v0,v1,v2,v3,v4,h5,_,_,hth,hce⟩:=hr.th.cells;have gc:∀ {o:Nat} {v:Value},w.cell? ⟨root,o,none⟩=some v→us[o]?=some v:=fun h=>by rwa [dG k5]at h
 have hrow:=U1 (gc h5.c0) (gc h5.c1) (gc h5.c2) (gc h5.c3) (gc h5.c4);simp only[List.take_zero,xS,zC]at hrow
 have hφk:φ k=none:=by
  cases e:φ k with
  | none=>rfl
  | some q=>exact absurd (hid k (by rw[e];simp)) hok
 refine⟨v0,v1,v2,v3,v4,us.drop 5,fun v hv=>k6 v (by rw[hrow];exact xY _ hv),fun env' he=>?_⟩
 have hrep:RepC m (upd φ k (some (root,one root us.length))) (eD [v0,v1,v2,v3,v4]++eD (us.drop 5)) us:=by
  have h1:=qK (m:=m) (φ:=upd φ k (some (root,one root us.length))) (vs:=us) k6
  have:eD us=eD [v0,v1,v2,v3,v4]++eD (us.drop 5):=by
   conv=>lhs;rw[hrow]
   simp[eD]
  rwa [this]at h1
 have hp:PLe φ (upd φ k (some (root,one root us.length))):=fun i r n e=>by
  refine⟨n,?_,rfl,fun _ h=>h⟩;have:i≠k:=fun h=>by rw[h,hφk]at e;cases e
  simp[upd,this,e]
 refine⟨⟨m,upd φ k (some (root,one root us.length)),hi.TG hk hφk k3 k4 k5 hrep,fun t=>?_,hadv.TG k1,fun id hne=>?_,?_⟩,h6,h7⟩
 ·rcases he t with e|⟨rfl,e⟩|e
  ·rw[e];exact .junk _
  ·have:=henv t;rw[hu]at this;rw[e,this.bW];exact .own (n:=one root us.length) (by simp[upd])
  ·rw[e];exact(henv t).mono (.refl _) hp
 ·by_cases e:id=k
  ·exact .inr e
  ·simp[upd,e]at hne;exact .inl (hid id hne)
 ·refine⟨hth,hce,hr.nd,fun f hf=>?_⟩;obtain⟨q1,q2,q3,q4,q5⟩:=hr.all f (by simp[hf]);refine⟨q1,q2,fun i r n e ho=>?_,q4,q5⟩;by_cases e2:i=k
  ·subst e2;simp[upd]at e;obtain⟨rfl,rfl⟩:=e;have:f=root:=ho;exact hr.nr (this ▸ hf)
  ·simp[upd,e2]at e;exact q3 i r n e ho
end
theorem vW:∀ {l m:List Int},aF l=aF m→l=m:=by
 intro l
 induction l with
 | nil=>intro m h;cases m with
  | nil=>rfl
  | cons b m=>simp[aF]at h
 | cons a l ih=>intro m h;cases m with
  | nil=>simp[aF]at h
  | cons b m =>
   simp only[aF,List.cons.injEq]at h;rw[show a=b by simpa using h.1,ih h.2]
theorem Ex.KI:∀ (a b:Ex),a.cells=b.cells→a=b:=by
 intro a
 induction a using Ex.ind with
 | h k c v ks ih =>
  intro b h;obtain⟨k',c',v',ks'⟩:=b
  have key:∀ {l m:List Ex},(∀ a∈l,∀ b,a.cells=b.cells→a=b)→Ex.aB l=Ex.aB m→l=m:=by
   intro l
   induction l with
   | nil=>intro m _ h;cases m with
    | nil=>rfl
    | cons b m=>simp[Ex.aB]at h
   | cons a l ihl=>intro m hi h;cases m with
    | nil=>simp[Ex.aB]at h
    | cons b m =>
     simp only[Ex.aB,List.cons.injEq]at h;rw[hi a (by simp) b h.1,ihl (fun x hx=>hi x (by simp[hx])) h.2]
  rw[Ex.aA,Ex.aA]at h;simp only[List.cons.injEq,IV.lit.injEq,Value.int.injEq,Value.bool.injEq,IV.isl.injEq,true_and,and_true]at h;obtain⟨h1,h2,h3,h4,h5⟩:=h;have h5:=key ih h5;obtain⟨b1,n1⟩:=v;obtain⟨b2,n2⟩:=v';simp only[Ex.kind,Ex.col,Ex.val,Ex.kids]at h1 h2 h3 h4 h5;subst h1 h2 h3 h4 h5;rfl
theorem Ex.TA:∀ {l m:List Ex},Ex.aB l=Ex.aB m→l=m:=by
 intro l
 induction l with
 | nil=>intro m h;cases m with
  | nil=>rfl
  | cons b m=>simp[Ex.aB]at h
 | cons a l ihl=>intro m h;cases m with
  | nil=>simp[Ex.aB]at h
  | cons b m =>
   simp only[Ex.aB,List.cons.injEq]at h;rw[Ex.KI a b h.1,ihl h.2]
theorem Pn.PY:∀ (a b:Pn),a.cells=b.cells→a=b:=by
 intro a
 induction a using Pn.ind with
 | h k t es cs ks ih =>
  intro b h;obtain⟨k',t',es',cs',ks'⟩:=b
  have key:∀ {l m:List Pn},(∀ a∈l,∀ b,a.cells=b.cells→a=b)→Pn.aB l=Pn.aB m→l=m:=by
   intro l
   induction l with
   | nil=>intro m _ h;cases m with
    | nil=>rfl
    | cons b m=>simp[Pn.aB]at h
   | cons a l ihl=>intro m hi h;cases m with
    | nil=>simp[Pn.aB]at h
    | cons b m =>
     simp only[Pn.aB,List.cons.injEq]at h;rw[hi a (by simp) b h.1,ihl (fun x hx=>hi x (by simp[hx])) h.2]
  rw[Pn.dY,Pn.dY]at h;simp only[List.cons.injEq,IV.lit.injEq,Value.int.injEq,IV.isl.injEq,true_and,and_true]at h;obtain⟨h1,h2,h3,h4,h5⟩:=h;rw[h1,h2,Ex.TA h3,vW h4,key ih h5]
def apO (p:Pn) (ws:List Int) (r:Int) (path:List Int):Option Pn:=if p.width ws=0 then none else apI ws r path p
def apR:Option Pn→AV×StL
 | some q=>(.tup [.i (.agg q.cells), .bool true],[])
 | none=>(.tup [.i (.agg Pn.zero.cells), .bool false],[])
def ApA (args:List AV) (x:Pn×List Int×Int×List Int):Prop:=args=[.i (.agg x.1.cells), .i (.isl (aF x.2.1)), .i (.agg [.int x.2.2.1, .isl (aF x.2.2.2)])]
noncomputable def APT:List AV→StL→Option (AV×StL)
 | args,[]=>open Classical in if h:∃ x,ApA args x then some (apR (apO h.choose.1 h.choose.2.1 h.choose.2.2.1 h.choose.2.2.2))else none
 | _,_=>none
theorem ApA.inj {args:List AV} {x y:Pn×List Int×Int×List Int} (hx:ApA args x) (hy:ApA args y):x=y:=by
 unfold ApA at hx hy;rw[hx]at hy;simp only[List.cons.injEq,AV.i.injEq,IV.agg.injEq,IV.isl.injEq,IV.lit.injEq,Value.int.injEq,true_and,and_true]at hy;obtain⟨h1,h2,h3,h4⟩:=hy;obtain⟨a,b,c,d⟩:=x;obtain⟨a',b',c',d'⟩:=y;simp only at h1 h2 h3 h4;rw[Pn.PY _ _ h1,vW h2,h3,vW h4]
noncomputable def AN4 (C:Ctx) (G:List Nat) (na:Nat) (b:Code) (S:AS):XR:=dQ C G na b S
@[simp] theorem AMA {C:Ctx} {G:List Nat} {na:Nat} (a b:Code) (S:AS):dQ C G na (.seq a b) S=X8 (dQ C G na a S) (AN4 C G na b):=ABV a b
@[simp] theorem AQ9 {C:Ctx} {G:List Nat} {na:Nat} (b:Code) (e:List (Nat×AV)) (st:StL):AN4 C G na b ⟨e,st⟩=dQ C G na b ⟨e,st⟩:=(rfl)
def AC4 (C:Ctx) (call:dN) (all:List Oper) (draw:Bool) (base:Nat) (os:List Oper) (i:Nat) (env:Nat→AV) (dst:Option Tmp) (log:List (Nat×List Nat×Bool)) (p:AV×Store):Option RS:=d9 C call all draw base os i ⟨uO env dst p.1,p.2,log⟩
@[simp] theorem AQY {C:Ctx} {call:dN} (all:List Oper) (draw:Bool) (base:Nat) (os:List Oper) (i:Nat) (env:Nat→AV) (dst:Option Tmp) (log:List (Nat×List Nat×Bool)) (v:AV) (st:Store):AC4 C call all draw base os i env dst log (v,st)=d9 C call all draw base os i ⟨uO env dst v,st,log⟩:=(rfl)
attribute [simp] SG PI XZ SH XW ABW XY ZE
@[simp] theorem ALH (k:Nat):jI k []=true:=(rfl)
@[simp] theorem AIA (k:Nat) (e:List IV) (es:List (List IV)):jI k (e::es)=(e.length == k && jI k es):=(rfl)
@[simp] theorem AHN:gZ (.slice none 0 0)=.nils:=(rfl)
@[simp] theorem AM1:wZ (.slice none 0 0)=.nils:=(rfl)
@[simp] theorem AHO (b:Bool):gZ (.bool b)=.i (.lit (.bool b)):=(rfl)
@[simp] theorem AM2 (b:Bool):wZ (.bool b)=.i (.lit (.bool b)):=(rfl)
@[simp] theorem AI3 (b:Bool):cellsOf (.i (.lit (.bool b)))=some [.i (.lit (.bool b))]:=(rfl)
@[simp] theorem AJX (k:IntKind) (n:Int):gZ (.int k n)=.i (.lit (.int k n)):=(rfl)
@[simp] theorem AOS (k:IntKind) (n:Int):wZ (.int k n)=.i (.lit (.int k n)):=(rfl)
@[simp] theorem AKZ (k:IntKind) (n:Int):cellsOf (.i (.lit (.int k n)))=some [.i (.lit (.int k n))]:=(rfl)
@[simp] theorem AD9 (s:ByteArray):gZ (.string s)=.i (.lit (.string s)):=(rfl)
@[simp] theorem AHP (s:ByteArray):wZ (.string s)=.i (.lit (.string s)):=(rfl)
@[simp] theorem ADF (s:ByteArray):cellsOf (.i (.lit (.string s)))=some [.i (.lit (.string s))]:=(rfl)
@[simp] theorem AB8 (a:Option Addr):gZ (.pointer a)=.i (.lit (.pointer a)):=(rfl)
@[simp] theorem AFA (a:Option Addr):wZ (.pointer a)=.i (.lit (.pointer a)):=(rfl)
@[simp] theorem AC5 (a:Option Addr):cellsOf (.i (.lit (.pointer a)))=some [.i (.lit (.pointer a))]:=(rfl)
@[simp] theorem AJW (r:Option Nat):gZ (.map r)=.i (.lit (.map r)):=(rfl)
@[simp] theorem AOR (r:Option Nat):wZ (.map r)=.i (.lit (.map r)):=(rfl)
@[simp] theorem AKX (r:Option Nat):cellsOf (.i (.lit (.map r)))=some [.i (.lit (.map r))]:=(rfl)
@[simp] theorem AB9 :gZ (.nilFunc)=.i (.lit (.nilFunc)):=(rfl)
@[simp] theorem AFB :wZ (.nilFunc)=.i (.lit (.nilFunc)):=(rfl)
@[simp] theorem AC6 :cellsOf (.i (.lit (.nilFunc)))=some [.i (.lit (.nilFunc))]:=(rfl)
@[simp] theorem YX :gZ (.nilIface)=.i (.lit (.nilIface)):=(rfl)
@[simp] theorem ADA :wZ (.nilIface)=.i (.lit (.nilIface)):=(rfl)
@[simp] theorem YZ :cellsOf (.i (.lit (.nilIface)))=some [.i (.lit (.nilIface))]:=(rfl)
@[simp] theorem AF8 (a:Array Value):gZ (.tuple a)=.i (.lit (.tuple a)):=(rfl)
@[simp] theorem AJZ (a:Array Value):wZ (.tuple a)=.i (.lit (.tuple a)):=(rfl)
@[simp] theorem AOT (cs:Array Value):wZ (.agg cs)=OL (dV cs.toList):=(rfl)
attribute [simp] dV.eq_1 dV.eq_2 cellsOf.eq_3 cellsOf.eq_4
@[simp] theorem AI1 :cellsOf .nils=some [.nils]:=(rfl)
@[simp] theorem AKV (i o:Nat):cellsOf (.own i o)=some [(.own i o)]:=(rfl)
@[simp] theorem AI0 (i k j o:Nat):cellsOf (.ownE i k j o)=some [(.ownE i k j o)]:=(rfl)
@[simp] theorem AKW (i k o l:Nat):cellsOf (.osl i k o l)=some [(.osl i k o l)]:=(rfl)
@[simp] theorem AMD (f:Fn) (cs:List AV):cellsOf (.fn f cs)=some [(.fn f cs)]:=(rfl)
@[simp] theorem AG3 (a:Option Addr) (l c:Nat):cellsOf (.i (.lit (.slice a l c)))=some [(.i (.lit (.slice a l c)))]:=(rfl)
@[simp] theorem AKY (es:List (List IV)):cellsOf (.i (.isl es))=some [(.i (.isl es))]:=(rfl)
@[simp] theorem AI2 (cs:List IV):cellsOf (.i (.iref cs))=some [(.i (.iref cs))]:=(rfl)
@[simp] theorem AMB  (x:Option (List IV)):PT .nils x=none:=by cases x<;>rfl
@[simp] theorem APB (st:Store) :pX st .nils=bnd (frz st vY .nils) fun p=>some (p.1,gV st p.2):=(rfl)
@[simp] theorem AL9 (st:Store) :jL st .nils=bnd (pX st .nils) fun p=>some (.i p.1,p.2):=(rfl)
@[simp] theorem AQT (st:Store) (i o:Nat):pX st (.own i o)=bnd (frz st vY (.own i o)) fun p=>some (p.1,gV st p.2):=(rfl)
@[simp] theorem AMF (st:Store) (i o:Nat):jL st (.own i o)=bnd (pX st (.own i o)) fun p=>some (.i p.1,p.2):=(rfl)
@[simp] theorem API (i k o l:Nat) (x:Option (List IV)):PT (.osl i k o l) x=none:=by cases x<;>rfl
@[simp] theorem AQU (st:Store) (i k o l:Nat):pX st (.osl i k o l)=bnd (frz st vY (.osl i k o l)) fun p=>some (p.1,gV st p.2):=(rfl)
@[simp] theorem AMG (st:Store) (i k o l:Nat):jL st (.osl i k o l)=bnd (pX st (.osl i k o l)) fun p=>some (.i p.1,p.2):=(rfl)
@[simp] theorem AR0 (f:Fn) (cs:List AV) (x:Option (List IV)):PT (.fn f cs) x=none:=by cases x<;>rfl
@[simp] theorem AQV (st:Store) (cs:List AV):pX st (.agg cs)=bnd (frz st vY (.agg cs)) fun p=>some (p.1,gV st p.2):=(rfl)
@[simp] theorem AMH (st:Store) (cs:List AV):jL st (.agg cs)=bnd (pX st (.agg cs)) fun p=>some (.i p.1,p.2):=(rfl)
@[simp] theorem ASV (v:IV) (l:List IV):PT (.i v) (some l)=some (v::l):=(rfl)
@[simp] theorem AQZ (v:IV):PT (.i v) none=none:=(rfl)
@[simp] theorem ATG (st:Store) (v:IV):pX st (.i v)=some (v,st):=(rfl)
@[simp] theorem AR2 (st:Store) (v:IV):jL st (.i v)=some (.i v,st):=(rfl)
@[simp] theorem APS (st:Store) (f:Fn) (cs:List AV):jL st (.fn f cs)=some (.fn f cs,st):=(rfl)
@[simp] theorem AMI:wK (some .strct)=some true:=(rfl)
@[simp] theorem AMJ (e:TypeId):wK (some (.slice e))=some false:=(rfl)
@[simp] theorem AR3 (k:IntKind):wK (some (.int k))=some false:=(rfl)
@[simp] theorem ALC:wK (some .string)=some false:=(rfl)
@[simp] theorem APU:wK (some .bool)=some false:=(rfl)
@[simp] theorem AMK:wK (some .other)=some false:=(rfl)
@[simp] theorem AML (n:Nat) (e:TypeId):wK (some (.array n e))=some true:=(rfl)
@[simp] theorem AKH:dW .add=false:=(rfl)
@[simp] theorem AK4:dW .sub=false:=(rfl)
@[simp] theorem AKA:dW .mul=false:=(rfl)
@[simp] theorem AK8:dW .quo=false:=(rfl)
@[simp] theorem AK7:dW .rem=false:=(rfl)
@[simp] theorem AKG:dW .and=false:=(rfl)
@[simp] theorem AM8:dW .or=false:=(rfl)
@[simp] theorem AK3:dW .xor=false:=(rfl)
@[simp] theorem ADB:dW .andNot=false:=(rfl)
@[simp] theorem AKF:dW .eql=false:=(rfl)
@[simp] theorem AK9:dW .neq=false:=(rfl)
@[simp] theorem AKB:dW .lss=false:=(rfl)
@[simp] theorem AKC:dW .leq=false:=(rfl)
@[simp] theorem AKD:dW .gtr=false:=(rfl)
@[simp] theorem AKE:dW .geq=false:=(rfl)
@[simp] theorem AK6:dW .shl=true:=(rfl)
@[simp] theorem AK5:dW .shr=true:=(rfl)
@[simp] theorem AQD:JF []=.tup []:=(rfl)
@[simp] theorem AQC (v:AV):JF [v]=v:=(rfl)
@[simp] theorem AQB (a b:AV) (l:List AV):JF (a::b::l)=.tup (a::b::l):=(rfl)
attribute [simp] qJ.eq_1 qJ.eq_2 fJ.eq_1 fJ.eq_2 fJ.eq_3
section
variable (C:Ctx) (call:dN) (env:Nat→AV) (st:Store) (nb:Nat)
@[simp] theorem AIQ (x:Operand):bR C call (.move x) env st nb=some (ev env x,st):=(rfl)
@[simp] theorem AEB (x:Operand):bR C call (.assign x) env st nb=some (ev env x,st):=(rfl)
@[simp] theorem AIP (c a b:Operand):bR C call (.pick c a b) env st nb=bnd (AAH (ev env a) (ev env b) (ev env c)) fun v=>some (v,st):=(rfl)
@[simp] theorem AHA (t:TypeId):bR C call (.alloc t) env st nb=bnd (zeroOf C.P t) fun z=>some (.own nb 0,upd st nb (some (.box (dV z)))):=(rfl)
@[simp] theorem ALS (t:TypeId) (x:Operand):bR C call (.box t x) env st nb=bnd (cellsOf (ev env x)) fun cs=>some (.own nb 0,upd st nb (some (.box cs))):=(rfl)
@[simp] theorem AH8 (t:TypeId) (ps:Array (Nat×Operand)):bR C call (.build t ps) env st nb=bnd (wK (bE C.P t)) fun g=>tst g (bnd (zeroOf C.P t) fun z=>bnd (partsOf env ps.toList) fun ps=>bnd (LX (FD C.P t) (dV z) ps) fun cs=>some (OL cs,st)):=(rfl)
@[simp] theorem WS (t:TypeId) (n:Nat) (ps:Array (Nat×Operand)):bR C call (.buildSlice t n ps) env st nb=bnd (DF (bE C.P t)) fun e=>bnd (partsOf env ps.toList) fun ps=>oH C e n st nb ps:=(rfl)
@[simp] theorem AIR (t:TypeId) (a:Operand):bR C call (.load t a) env st nb=bnd (FO C t (ev env a) st) fun v=>some (v,st):=(rfl)
@[simp] theorem AH3 (t:TypeId) (a x:Operand):bR C call (.store t a x) env st nb=bnd (BK C t (ev env a) (ev env x) st) fun st1=>some (.i (.lit undef),st1):=(rfl)
@[simp] theorem ZP (x:Operand):bR C call (.nilCheck x) env st nb=bnd (AF0 (ev env x)) fun v=>some (v,st):=(rfl)
@[simp] theorem AH9 (op:BinOp) (t:TypeId) (x y:Operand) (u:TypeId):bR C call (.binOp op t x y u) env st nb=bnd (AGB C op t (ev env x) (ev env y)) fun v=>some (.i v,st):=(rfl)
@[simp] theorem AIO (op:UnOp) (t:TypeId) (x:Operand):bR C call (.unOp op t x) env st nb=bnd (unA op (ev env x)) fun v=>some (.i v,st):=(rfl)
@[simp] theorem AD4 (s d:TypeId) (x:Operand):bR C call (.convert s d x) env st nb=bnd (Y5 (bE C.P s) (bE C.P d) (ev env x)) fun v=>some (v,st):=(rfl)
@[simp] theorem YR (t:TypeId) (l c:Operand):bR C call (.makeSlice t l c) env st nb=RL C t st nb (ev env l) (ev env c):=(rfl)
@[simp] theorem AH4 (t:TypeId) (x:Operand) (lo hi:Option Operand):bR C call (.slice t x lo hi none) env st nb=bnd (BL C t (evO env lo) (evO env hi) (ev env x)) fun v=>some (v,st):=(rfl)
@[simp] theorem YU (s:TypeId) (x:Operand) (f:Nat):bR C call (.fieldAddr s x f) env st nb=bnd (dP C.P s f) fun p=>bnd (gX C.P p.1) fun n=>tst (decide (0<n)) (bnd (iL p.2 (ev env x)) fun v=>some (v,st)):=(rfl)
@[simp] theorem AH6 (s:TypeId) (x:Operand) (f:Nat):bR C call (.field s x f) env st nb=bnd (dP C.P s f) fun p=>bnd (gX C.P p.1) fun n=>bnd (wK (bE C.P p.1)) fun g=>bnd (K5 p.2 n g (ev env x)) fun v=>some (v,st):=(rfl)
@[simp] theorem YT (t:TypeId) (x i:Operand):bR C call (.indexAddr t x i) env st nb=bnd (l9 C (ev env x) (ev env i) (bE C.P t)) fun v=>some (v,st):=(rfl)
@[simp] theorem AH5 (t:TypeId) (x i:Operand):bR C call (.index t x i) env st nb=bnd (JW C (ev env i) (bE C.P t) (ev env x)) fun v=>some (v,st):=(rfl)
@[simp] theorem AD3 (x:Operand) (j:Nat):bR C call (.extract x j) env st nb=bnd (wB j (ev env x)) fun v=>some (v,st):=(rfl)
@[simp] theorem ZQ (f:Fn) (fs cs:Array Operand):bR C call (.makeFunc f fs cs) env st nb=tst fs.toList.isEmpty (bnd (AF2 (evL env cs.toList) f) fun v=>some (v,st)):=(rfl)
@[simp] theorem ALZ (cs:List AV) (g:FuncId):AF2 cs (.func g)=some (.fn (.func g) cs):=(rfl)
@[simp] theorem AD5 (b:Builtin) (as1:Array Operand) (ts:Array TypeId):bR C call (.call ⟨.builtin b,as1,ts⟩) env st nb=gM C st nb b ts.toList (evL env as1.toList):=(rfl)
@[simp] theorem AH7 (f:Operand) (as1:Array Operand) (ts:Array TypeId):bR C call (.call ⟨.value f,as1,ts⟩) env st nb=IE C call (evL env as1.toList) st nb (ev env f):=(rfl)
@[simp] theorem AIL (x:Operand):bA env (.move x)=([],true):=(rfl)
@[simp] theorem AE2 (x:Operand):bA env (.assign x)=([],true):=(rfl)
@[simp] theorem AIK (c a b:Operand):bA env (.pick c a b)=([],true):=(rfl)
@[simp] theorem AH1 (t:TypeId):bA env (.alloc t)=([],true):=(rfl)
@[simp] theorem ALO (t:TypeId) (x:Operand):bA env (.box t x)=([],true):=(rfl)
@[simp] theorem AGZ (t:TypeId) (ps:Array (Nat×Operand)):bA env (.build t ps)=([],true):=(rfl)
@[simp] theorem ZG (x:Operand):bA env (.nilCheck x)=([],true):=(rfl)
@[simp] theorem AH0 (op:BinOp) (t:TypeId) (x y:Operand) (u:TypeId):bA env (.binOp op t x y u)=([],true):=(rfl)
@[simp] theorem AIJ (op:UnOp) (t:TypeId) (x:Operand):bA env (.unOp op t x)=([],true):=(rfl)
@[simp] theorem AD2 (s d:TypeId) (x:Operand):bA env (.convert s d x)=([],true):=(rfl)
@[simp] theorem YN (t:TypeId) (l c:Operand):bA env (.makeSlice t l c)=([],true):=(rfl)
@[simp] theorem AGW (t:TypeId) (x:Operand) (lo hi:Option Operand):bA env (.slice t x lo hi none)=([],true):=(rfl)
@[simp] theorem YQ (s:TypeId) (x:Operand) (f:Nat):bA env (.fieldAddr s x f)=([],true):=(rfl)
@[simp] theorem AGY (s:TypeId) (x:Operand) (f:Nat):bA env (.field s x f)=([],true):=(rfl)
@[simp] theorem YO (t:TypeId) (x i:Operand):bA env (.indexAddr t x i)=([],true):=(rfl)
@[simp] theorem AGX (t:TypeId) (x i:Operand):bA env (.index t x i)=([],true):=(rfl)
@[simp] theorem AD1 (x:Operand) (j:Nat):bA env (.extract x j)=([],true):=(rfl)
@[simp] theorem ZH (f:Fn) (fs cs:Array Operand):bA env (.makeFunc f fs cs)=([],true):=(rfl)
attribute [simp] bA.eq_1 bA.eq_2 bA.eq_3 bA.eq_4 bA.eq_5 bA.eq_6
@[simp] theorem ALN (as1:Array Operand) (ts:Array TypeId):bA env (.call ⟨.builtin .len,as1,ts⟩)=([],true):=(rfl)
@[simp] theorem ALK (as1:Array Operand) (ts:Array TypeId):bA env (.call ⟨.builtin .min,as1,ts⟩)=([],true):=(rfl)
@[simp] theorem ALM (as1:Array Operand) (ts:Array TypeId):bA env (.call ⟨.builtin .max,as1,ts⟩)=([],true):=(rfl)
@[simp] theorem AQA (args:List AV) (g:FuncId) (cs:List AV):IE C call args st nb (.fn (.func g) cs)=if g=1000000007 then none else fT call (C.ownArgs g) g (args++cs) st nb:=(rfl)
@[simp] theorem ANC (args:List AV) (id:Nat):IE C call args st nb (.fn (.yield 0) [.own id 0])=fT call true nI (.fn (.yield 0) [.own id 0]::args) st nb:=(rfl)
variable (all:List Oper) (base i:Nat) (log:List (Nat×List Nat×Bool)) (dst:Option Tmp) (op:Op) (ty:TypeId) (pos:String) (after:Array Edge) (os:List Oper)
@[simp] theorem AO8 (t:Tmp) (v:AV):uO env (some t) v=upd env t v:=(rfl)
@[simp] theorem AO9 (v:AV):uO env none v=env:=(rfl)
@[simp] theorem ALU (draw:Bool) (R:RS):d9 C call all draw base [] i R=some R:=(rfl)
@[simp] theorem ANW:d9 C call all false base (⟨dst,op,ty,pos,after,none⟩::os) i ⟨env,st,log⟩ =
 bnd (bR C call op env st (base+8*i)) (AC4 C call all false base os (i+1) env dst []):=(rfl)
@[simp] theorem ANV (g:Nat×Bool):d9 C call all false base (⟨dst,op,ty,pos,after,some g⟩::os) i ⟨env,st,log⟩ =
 bnd (ND env g.2 ((all[g.1]?).bind (·.dst))) fun b=>if b=true then bnd (bR C call op env st (base+8*i)) (AC4 C call all false base os (i+1) env dst [])
  else d9 C call all false base os (i+1) ⟨uO env dst (.i (.lit undef)),st,log⟩:=(rfl)
@[simp] theorem ANU:d9 C call all true base (⟨dst,op,ty,pos,after,none⟩::os) i ⟨env,st,log⟩ =
 tst (APK base all ⟨dst,op,ty,pos,after,none⟩ st (bA env op).1 (BJ st (bA env op)).1 (bA env op).2 log)
  (bnd (bR C call op env st (base+8*i)) (AC4 C call all true base os (i+1) env dst (I8 i (bA env op).2 log (BJ st (bA env op)).1))):=(rfl)
@[simp] theorem ANT (g:Nat×Bool):d9 C call all true base (⟨dst,op,ty,pos,after,some g⟩::os) i ⟨env,st,log⟩ =
 bnd (ND env g.2 ((all[g.1]?).bind (·.dst))) fun b=>if b=true then
  tst (APK base all ⟨dst,op,ty,pos,after,some g⟩ st (bA env op).1 (BJ st (bA env op)).1 (bA env op).2 log)
   (bnd (bR C call op env st (base+8*i)) (AC4 C call all true base os (i+1) env dst (I8 i (bA env op).2 log (BJ st (bA env op)).1)))
  else d9 C call all true base os (i+1) ⟨uO env dst (.i (.lit undef)),st,log⟩:=(rfl)
end
attribute [simp] aZ.eq_1 aZ.eq_2
attribute [simp] bF.eq_1 bF.eq_2 bF.eq_3
attribute [simp] ADH.eq_1 ADH.eq_2
attribute [simp] ALB.eq_1 ALB.eq_2
attribute [simp] OL.eq_1
attribute [simp] lW.eq_1 lW.eq_2
attribute [simp] oP.eq_1 oP.eq_2
attribute [simp] gL.eq_1 gL.eq_2
attribute [simp] dropE.eq_1 dropE.eq_2 dropE.eq_3
attribute [simp] vD.eq_1 vD.eq_2 vD.eq_3
attribute [simp] cut.eq_1
attribute [simp] splice.eq_1 splice.eq_2 splice.eq_3 splice.eq_4 splice.eq_5
attribute [simp] DF.eq_1
attribute [simp] sH.eq_1 sH.eq_2
attribute [simp] frz.eq_1 frz.eq_2 frz.eq_3 frz.eq_4 frz.eq_5 frz.eq_6
attribute [simp] DD.eq_1 DD.eq_2 DD.eq_3
attribute [simp] K3.eq_1 K3.eq_2 K3.eq_3
attribute [simp] vY.eq_1
attribute [simp] gV.eq_1 gV.eq_2
attribute [simp] lX.eq_1 lX.eq_2
attribute [simp] bZ.eq_1 bZ.eq_2 bZ.eq_3 bZ.eq_4 bZ.eq_5 bZ.eq_6 bZ.eq_7 bZ.eq_8 bZ.eq_9
attribute [simp] aX.eq_1 aX.eq_2
attribute [simp] gN.eq_1 gN.eq_2 gN.eq_3 gN.eq_4 gN.eq_5 gN.eq_6 gN.eq_7
attribute [simp] ren.eq_1 ren.eq_2 ren.eq_3 ren.eq_4 ren.eq_5 ren.eq_6 ren.eq_7 ren.eq_8 ren.eq_9
attribute [simp] BP.eq_1 BP.eq_2
attribute [simp] BQ.eq_1 BQ.eq_2 BQ.eq_3 BQ.eq_4 BQ.eq_5 BQ.eq_6 BQ.eq_7
attribute [simp] jM.eq_1 jM.eq_2
attribute [simp] gG.eq_1
attribute [simp] IR.eq_1 IR.eq_2
attribute [simp] reach.eq_1 reach.eq_2 reach.eq_3
attribute [simp] GH.eq_1
attribute [simp] oV.eq_1 oV.eq_2
attribute [simp] upto.eq_1 upto.eq_2
attribute [simp] iV.eq_1
attribute [simp] jX.eq_1 jX.eq_2
attribute [simp] ev.eq_1 ev.eq_2 ev.eq_3 ev.eq_4
attribute [simp] evL.eq_1 evL.eq_2
attribute [simp] evO.eq_1 evO.eq_2
attribute [simp] MQ.eq_1 MQ.eq_2 MQ.eq_3 MQ.eq_4 MQ.eq_5 MQ.eq_6 MQ.eq_7 MQ.eq_8 MQ.eq_9 MQ.eq_10 MQ.eq_11 MQ.eq_12 MQ.eq_13 MQ.eq_14 MQ.eq_15
attribute [simp] shI.eq_1 shI.eq_2
attribute [simp] ADG.eq_1 ADG.eq_2 ADG.eq_3 ADG.eq_4 ADG.eq_5 ADG.eq_6 ADG.eq_7
attribute [simp] APR.eq_1 APR.eq_2
attribute [simp] APP.eq_1 APP.eq_2
attribute [simp] AL4.eq_1 AL4.eq_2
attribute [simp] AGB.eq_1 AGB.eq_2 AGB.eq_3 AGB.eq_4 AGB.eq_5 AJO.eq_1 AJO.eq_2 AJO.eq_3 AJO.eq_4 APQ.eq_1 APQ.eq_2
attribute [simp] unA.eq_1 unA.eq_2
attribute [simp] kY.eq_1
attribute [simp] iW.eq_1 iW.eq_2
attribute [simp] nC.eq_1 nC.eq_2
attribute [simp] dH.eq_1 dH.eq_2 dH.eq_3 dH.eq_4
attribute [simp] CZ.eq_1 CZ.eq_2
attribute [simp] rC.eq_1
attribute [simp] Q8.eq_1 Q8.eq_2
attribute [simp] ALA.eq_1 XL.eq_1 AGV.eq_1 jG.eq_1 jG.eq_2 Q9.eq_1 D5.eq_1
@[simp] theorem AP6 (k:Nat) (es:List (List IV)):XL (some (.arr k es))=false:=(rfl)
@[simp] theorem AP4 (k:Nat) (es:List (List IV)):XL (some (.frz k es))=false:=(rfl)
@[simp] theorem AP5 (cs:List AV):XL (some (.box cs))=false:=(rfl)
@[simp] theorem AUC (v:IV):slC (.i v)=false:=(rfl)
@[simp] theorem AM7:XL none=false:=(rfl)
@[simp] theorem AN2 (st:Store):AGV st .nils=false:=(rfl)
@[simp] theorem AT5 (st:Store) (v:IV):AGV st (.i v)=false:=(rfl)
attribute [simp] lN.eq_1
attribute [simp] H8.eq_1 H8.eq_2
attribute [simp] SS.eq_1
attribute [simp] AHQ.eq_1 AHQ.eq_2 AHQ.eq_3 AHQ.eq_4 AHQ.eq_5
attribute [simp] BL.eq_1 BL.eq_2 BL.eq_3 BL.eq_4
attribute [simp] LX.eq_1 LX.eq_2
attribute [simp] partsOf.eq_1 partsOf.eq_2
attribute [simp] OA.eq_1 OA.eq_2
attribute [simp] FD.eq_1
attribute [simp] oJ.eq_1 oJ.eq_2 oJ.eq_3
attribute [simp] mG.eq_1 mG.eq_2
attribute [simp] eG.eq_1 eG.eq_2
attribute [simp] Y6.eq_1 Y6.eq_2
attribute [simp] KO.eq_1 KO.eq_2
attribute [simp] AJD.eq_1 AJD.eq_2
attribute [simp] IP.eq_1 IP.eq_2
attribute [simp] IM.eq_1 IM.eq_2
attribute [simp] loadAt.eq_1 loadAt.eq_2 loadAt.eq_3
attribute [simp] FO.eq_1
attribute [simp] pR.eq_1
attribute [simp] nN.eq_1
attribute [simp] storeAt.eq_1 storeAt.eq_2
attribute [simp] BK.eq_1
attribute [simp] fM.eq_1 fM.eq_2
attribute [simp] qZ.eq_1 qZ.eq_2
attribute [simp] iT.eq_1 iT.eq_2 iT.eq_3
attribute [simp] mQ.eq_1 mQ.eq_2 mQ.eq_3
attribute [simp] rV.eq_1
attribute [simp] jU.eq_1
attribute [simp] fT.eq_1
attribute [simp] sU.eq_1 sU.eq_2
attribute [simp] gM.eq_1 gM.eq_2 gM.eq_3 gM.eq_4 gM.eq_5
attribute [simp] Y5.eq_1 Y5.eq_2
attribute [simp] AAH.eq_1
attribute [simp] AF0.eq_1 AF0.eq_2 AF0.eq_3 AF0.eq_4 AF0.eq_5
attribute [simp] RL.eq_1
attribute [simp] iL.eq_1 iL.eq_2 iL.eq_3 iL.eq_4
attribute [simp] K5.eq_1 K5.eq_2
attribute [simp] FY.eq_1 FY.eq_2 FY.eq_3
attribute [simp] RV.eq_1
attribute [simp] l9.eq_1 l9.eq_2
attribute [simp] JW.eq_1 JW.eq_2
attribute [simp] wB.eq_1
attribute [simp] rG.eq_1 oH.eq_1 AM3.eq_1 VJ.eq_1 VJ.eq_2 slL.eq_1 slL.eq_2 slC.eq_1 slC.eq_2
attribute [simp] TM.eq_1 TM.eq_2
attribute [simp] ND.eq_1 ND.eq_2
attribute [simp] uT.eq_1 uT.eq_2
attribute [simp] fI.eq_1 fI.eq_2
attribute [simp] BJ.eq_1
attribute [simp] allIn.eq_1 allIn.eq_2
attribute [simp] RF.eq_1 RF.eq_2
attribute [simp] APK.eq_1
attribute [simp] AF7.eq_1 AF7.eq_2
attribute [simp] oQ.eq_1 oQ.eq_2
attribute [simp] ABD.eq_1
attribute [simp] nV.eq_1 nV.eq_2
attribute [simp] uU.eq_1
attribute [simp] BV.eq_1 BV.eq_2
attribute [simp] XJ.eq_1 XJ.eq_2
attribute [simp] I8.eq_1 I8.eq_2
attribute [simp] mZ.eq_1 mZ.eq_2
attribute [simp] AO.eq_1 AO.eq_2
attribute [simp] wU.eq_1
attribute [simp] settle.eq_1
attribute [simp] VI.eq_1 vQ.eq_1 vQ.eq_2 rJ.eq_1 rJ.eq_2 O5.eq_1 mX.eq_1 ACA.eq_1 KU.eq_1 GA.eq_1 U3.eq_1 mI.eq_1 mI.eq_2 NZ.eq_1 vP.eq_1 QM.eq_1 IW.eq_1 setSt.eq_1 setSt.eq_2 setSt.eq_3
@[simp] theorem ALR (k:Nat):KU (.exit k)=.over (.exit k):=(rfl)
@[simp] theorem AKL (k:Nat):GA (.exit k)=false:=(rfl)
@[simp] theorem AM9:GA .ret=false:=(rfl)
@[simp] theorem ANB:KU .ret=.over .ret:=(rfl)
@[simp] theorem AQW (vs:List AV):QM [] vs=[]:=(rfl)
@[simp] theorem APO (vs:List AV) (E:List (Nat×AV)):IW [] vs E=E:=(rfl)
attribute [simp] X8.eq_1 X8.eq_2 X8.eq_3 X8.eq_4
attribute [simp] I4.eq_1 I4.eq_2 I4.eq_3 I4.eq_4
attribute [simp] SY.eq_1
attribute [simp] AC0.eq_1 AC0.eq_2
attribute [simp] U5.eq_1 U5.eq_2
attribute [simp] F6.eq_1 F6.eq_2
attribute [simp] qP.eq_1 qP.eq_2
attribute [simp] U6.eq_1 U6.eq_2
attribute [simp] sV.eq_1 sV.eq_2
attribute [simp] AAJ.eq_1
attribute [simp] finish.eq_1
attribute [simp] ADE.eq_1 ADE.eq_2 ADE.eq_3 ADE.eq_4
attribute [simp] I6.eq_1 I6.eq_2 I6.eq_3
attribute [simp] PN.eq_1 PN.eq_2
attribute [simp] enter.eq_1
attribute [simp] vG.eq_1 vG.eq_2
attribute [simp] U7.eq_1 U7.eq_2
attribute [simp] kP.eq_1 kP.eq_2 kP.eq_3 kP.eq_4 kP.eq_5
attribute [simp] nX.eq_1 nX.eq_2
attribute [simp] jD.eq_1 jD.eq_2
attribute [simp] AF9.eq_1 AF9.eq_2 AF9.eq_3 AF9.eq_4
attribute [simp] D9.eq_1 D9.eq_2
attribute [simp] D7.eq_1 D7.eq_2 O8.eq_1 lV.eq_1 lV.eq_2 qF.eq_1 qF.eq_2 ADS.eq_1 rY.eq_1 rY.eq_2 lH.eq_1 lH.eq_2
@[simp] theorem AOA (v:Value):O8 (.lit v)=true:=(rfl)
@[simp] theorem AOB (es:List (List IV)):O8 (.isl es)=true:=(rfl)
@[simp] theorem AMM (v:Value):ADS (.lit v)=.lit v:=(rfl)
attribute [simp] EA.eq_1 EA.eq_2 EA.eq_3
attribute [simp] wM.eq_1 wM.eq_2
attribute [simp] BI.eq_1
attribute [simp] fC.eq_1 fC.eq_2
attribute [simp] storeT.eq_1 storeT.eq_2
@[simp] theorem AJ9 (st:Store) (v:AV):F7 st [v]=some ([v],st):=(rfl)
@[simp] theorem AJA (st:Store):F7 st []=some ([],st):=(rfl)
@[simp] theorem AJ8 (st:Store) (a b:AV) (r:List AV):F7 st (a::b::r)=sV st (a::b::r):=(rfl)
@[simp] theorem AOZ (st:Store) (cs:List AV):AA st (.agg cs)=bnd (pX st (.agg cs)) fun p=>some (.i p.1,p.2):=(rfl)
@[simp] theorem AM5 (st:Store) :AA st .nils=some (.nils,st):=(rfl)
@[simp] theorem AOX (st:Store) (i o:Nat):AA st (.own i o)=some ((.own i o),st):=(rfl)
@[simp] theorem AM4 (st:Store) (i k j o:Nat):AA st (.ownE i k j o)=some ((.ownE i k j o),st):=(rfl)
@[simp] theorem AOY (st:Store) (i k o l:Nat):AA st (.osl i k o l)=some ((.osl i k o l),st):=(rfl)
@[simp] theorem AQQ (st:Store) (f:Fn) (cs:List AV):AA st (.fn f cs)=some ((.fn f cs),st):=(rfl)
@[simp] theorem AS7 (st:Store) (v:IV):AA st (.i v)=some ((.i v),st):=(rfl)
@[simp] theorem AOW (st:Store) (cs:List AV):AA st (.tup cs)=some ((.tup cs),st):=(rfl)
@[simp] theorem AM6 (st:Store) :AA st .junk=some (.junk,st):=(rfl)
@[simp] theorem AQ4 (all:List Oper) (after:List Edge) (j:Nat):fO all 3 after j=if uU after j=true then true else after.any fun e=>Region.binds .any e && fO all 2 (rW all e.on) j:=(rfl)
@[simp] theorem AQ5 (all:List Oper) (after:List Edge) (j:Nat):fO all 2 after j=if uU after j=true then true else after.any fun e=>Region.binds .any e && fO all 1 (rW all e.on) j:=(rfl)
@[simp] theorem AQ6 (all:List Oper) (after:List Edge) (j:Nat):fO all 1 after j=if uU after j=true then true else after.any fun e=>Region.binds .any e && fO all 0 (rW all e.on) j:=(rfl)
@[simp] theorem AQ7 (all:List Oper) (after:List Edge) (j:Nat):fO all 0 after j=uU after j:=(rfl)
attribute [simp] rW.eq_1
attribute [simp] undef
attribute [simp] wide
end Go.Av
namespace Go.Proofs.YtjdfjgmebalaaaaGreat
open Go Go.Av
def GS:FuncId→List Nat
 | 3=>[0,1,2,3,4,5,8,9,10,11,12,13,14,15,18,23,28,33,58,63,68,73,78]
 | 4=>[0,2,3,4,5,6,7,8,9,10,11,12,13,16,59,81,95]
 | 5=>[0,1,2,4,5,6,7,8,9,10,11,12,13,16,21,37,42,47,61,69,72,81,86,89]
 | 6=>[0,1,2,3,5,6,7,8,9,10,11,12,13,14,15,16,17,18,19,22,27,32,64,69,74,79,101,109,112,131,136,139]
 | 7=>[0,1,2,3,6,7,8,9,10,11,12,13,14,15,16,17,18,19,22,27,32,64,69,74,79,101,109,112,131,136,139]
 | 8=>[0,1,2,4,5,6,7,8,9,10,11,12,13,14,15,16,19,24,52,57,62,82,93,98,101,119,124,129,132]
 | 9=>[0,1,2,4,5,6,7,8,9,10,11,12,13,14,15,16,21,26,54,59,64,84,95,100,103,121,126,131,134]
 | 10=>[0,1,2,4,10,16,22]
 | 11=>[0,1,4,5,11,15,25]
 | 12=>[0,1,2,3,4,5,8,9,10]
 | 13=>[0,1,2,3]
 | 14=>[0,2,3,4,11]
 | 15=>[0,2,3,4,11]
 | 16=>[0,1,2,3,4,5,8,9,10]
 | 17=>[0,1,2,3,4,9,14,20,26,32]
 | 18=>[0,1,4,5,10,14,25]
 | 19=>[0,1,4,5,10,14,26]
 | 20=>[0,2,3]
 | 21=>[0,1,2,3,4,5,6,7,8,9,10,11,12,13,18,26,27,36,42]
 | 22=>[0,1,2,4,5,6,7,8,9,10,11,12,13,15,19,26,50,68]
 | 23=>[0,1,2,4,6]
 | 24=>[0,1,2,3,4,5,42,47,61]
 | 25=>[0,1,4,5,10,14,25]
 | 26=>[0,1,2,3,5,6,7,8,9,10,11,15,21,36]
 | 27=>[0,1,2,4,8]
 | 28=>[0,1,2,4,5,6,10,12,13]
 | 29=>[0,1,2,4]
 | 30=>[0,1,4,5,9]
 | 31=>[0,1,4,5,9]
 | 32=>[0,1,4,5,9,18,29]
 | 33=>[0,1,2,4,10]
 | 34=>[0,1,2,3,5,6,7,17]
 | 35=>[0,1,2,3]
 | 36=>[0,1,2,3,4,9,15]
 | 37=>[0,1,2,4]
 | 38=>[0,1,2,4,10,16,22]
 | 39=>[0,1,2,3,6,7,8,9,10,11,20,27,41]
 | 40=>[0,1,2,3,6,7,8,10,11,12,21,24,25,26,27,38]
 | 41=>[0,1,2,4,5,6,7,8,9,10,16,23,39,45]
 | 42=>[0,1,2,4,5,6,7,8,9,13,18,25]
 | 43=>[0,1,4,5,11,15,25]
 | 44=>[0,2,3,4,11]
 | 45=>[0,1,4,5,10,14,26]
 | 46=>[0,1,4,5,9]
 | 47=>[0,1,2,4,10]
 | 48=>[0,1,4,5,11,15,25]
 | 49=>[0,1,4,10]
 | 50=>[0,1,4,5,11,15,25]
 | 51=>[0,1,2,3,4,5,6,7,46,51,65,70,83,88,102]
 | 52=>[0,2,3,4,11]
 | 53=>[0,2,3,4,11]
 | 54=>[0,1,4,5,6,38,62,67,68,69,84,90,91,92,107]
 | 55=>[0,1,4,5,10,14,26]
 | 56=>[0,1,4,5,10,14,26]
 | 57=>[0,2,3,4,5,6]
 | 58=>[0,2,3,4,6,7,8]
 | 59=>[0,2,3,4,5,6,7,14,38,39,40,76,77,78]
 | 60=>[0,1,2,3,4]
 | 61=>[0,1,2,4,5,6,11,25]
 | 62=>[0,1,2,3,4,5,19,37]
 | 63=>[0,1,2,4,5,6,14]
 | 64=>[0,1,2,4,5,6,7,8,9,11,20,24,42]
 | 65=>[0,1,2,3,5,6,7,8,9,10,19,30,40]
 | 66=>[0,1,4,5,6,7,8,11,13,14,15,28,36]
 | 67=>[0,1,4,5,10,14,26]
 | 68=>[0,1,2,4,7]
 | 69=>[0,1,4,6,9,10,11,12,13,26]
 | 70=>[0,1,2,3,8,9,10,11,12,19,37]
 | 71=>[0,1,2,4,7]
 | 72=>[0,1,4,5,9]
 | 73=>[0,1,4,5,9]
 | 74=>[0,1,4,5,9,17]
 | 75=>[0,1,4,5,9,18,27,39,49,60]
 | 76=>[0,1,4,5,9,18,27,38,47,56]
 | 77=>[0,2]
 | 78=>[0,1,4,5,6,9,10,12]
 | 79=>[0,1,2,4,10,16]
 | 80=>[0,1,2,3]
 | 81=>[0,1,2,3,4,9,15,21]
 | 82=>[0,1,2,4,10]
 | 83=>[0,1,2,3,4,5,33,38,52]
 | 84=>[0,1,2,3]
 | 85=>[0,1,4,5,10,12,13,14,24]
 | 86=>[0,1,4,5,49,54,55,56,71]
 | 87=>[0,1,2,3,4,9,14,20,26]
 | 88=>[0,2,5]
 | 89=>[0,2,3,4,5,13]
 | 90=>[0,1,4,5,6,11,28]
 | 91=>[0,2,3,6]
 | 92=>[0,2,3,4,5,6,13,37,38,39]
 | 93=>[0,2,3,6]
 | 94=>[0,2,3,6]
 | 95=>[0,1,2]
 | 96=>[0,1,2,3,8,9,11,12,14,28,35,40,41,42,58]
 | 97=>[0,1,2,4]
 | 98=>[0,1,2,3,4,16]
 | 99=>[0,1,2,4,5,6,9,23,24,31,56,77,82,93,98]
 | 100=>[0,1,2,4,6,7,18]
 | 101=>[0,1,2,4,5,6,10,22]
 | 102=>[0,1,2,3,6,7,8,9,10,11,12,13,14,24,71,99,120]
 | 103=>[0,1,2,3,5,6,7,10]
 | 104=>[0,1,2,3,6,7,8,9,23,28,41,47,48,55,61,70,74,82,106,114,122,126,131,144]
 | 105=>[0,1,2,4,5,18,30,31,32,33,50,72]
 | 106=>[0,1,2,6,7,8,9,10,15,16,17,36,37,47,62,82,103,108,116,123]
 | 107=>[0,1,2,3,4]
 | 108=>[0,2,4,12,13,14,15,16,21]
 | 109=>[0,1,2,6,7,8,9,10,31,60,87,92,106,118,119,120,137]
 | 110=>[0,4,5,6,7,8,16]
 | 111=>[0,4,5,6,21]
 | 112=>[0,1,4,5,6,7,8,16,38]
 | 113=>[0,1,4,5,6,7,8,9,10,18,34]
 | 114=>[0,4,5,6,7,8,16]
 | 115=>[0,1,4,5,6,7,8,9,10,15,37,38,39]
 | 116=>[0,1,4,5,6,7,8,9,10,11,19,36,49]
 | 117=>[0,4,5,6,7,8,16]
 | 118=>[0,4,5,30]
 | 119=>[0,1,4,5,6,7,8,9,17]
 | 120=>[0,1,4,5,6,7,8,9,10,11,26,50,51,52,71]
 | 121=>[0,2,3,7,15]
 | 122=>[0,1,2]
 | 123=>[0,1,2,3]
 | 124=>[0,1,2,3,4,9,14]
 | 125=>[0,2,3,4,10]
 | 126=>[0,1,4,5,10,11,17,23,33]
 | 127=>[0,1,4,5,6,24,36]
 | 128=>[0,1,4]
 | 129=>[0,1,2,3,4,5,6,7,8,16,24,36,43]
 | 130=>[0,1,2,6,7,8,15]
 | 131=>[0,1,4,5,12,18,19,25,33]
 | 132=>[0,1,2,6]
 | 133=>[0,1,2,4,5,23,26,54]
 | 134=>[0,1,2,3,4,5,6,8,9,17,26,42,64,88,96,98,110]
 | 135=>[0,1,2,4,5,13,27]
 | 136=>[0,1,2,3,6,7,8,9,10,11,12,13,14,26,42,62,81,112,150,169,190,212]
 | 137=>[0,1,4,5,6,10]
 | 138=>[0,1,2,4,5,6,9,27]
 | 139=>[0,1,2,3,4,6,7,9,12,14,16]
 | 140=>[0,1,2,4]
 | 141=>[0,1,4,5,9,18,21]
 | 142=>[0,1,4,5,9,35]
 | 143=>[0,2]
 | 144=>[0,2,6,7,11,27]
 | 145=>[0,1,4,5,6,10,11,15,25,46,59,64,66,82]
 | 146=>[0,2,3,4,5,7,10,13,15]
 | 147=>[0,1,2,6,7,8,13,14,21,22,26,27,35,46,47,48,59,65]
 | 148=>[0,1,4,5,6,22]
 | 149=>[0,1,2,3,4]
 | 150=>[0,1,2,3,4]
 | 151=>[0,2,3,4,9,19,20,21]
 | 152=>[0,1,2,3,5,6,7,8]
 | 153=>[0,1,3,4]
 | 154=>[0,1,3]
 | 155=>[0,1,2,4,7]
 | 156=>[0,2]
 | 157=>[0,1,2,3,6,7,8,10,14,18,19,20,26,27,28,29,38]
 | 158=>[0,1,2,3,4,6,7,8,9,14,20,21,22,30,42]
 | 159=>[0,1,4,5,6,18]
 | 160=>[0,1,4,5,10,11,17,24]
 | 161=>[0,1,4,5,6,10,19]
 | 162=>[0,1,4,5,6,10]
 | 163=>[0,1,4,5,6,11,16]
 | 164=>[0,2,3]
 | 165=>[0,1,2,3,6]
 | 166=>[0,1,2,4,15]
 | 167=>[0,1,2,3,4]
 | 168=>[0,1,2,3,6,7]
 | 169=>[0,1,2,3,6]
 | 170=>[0,1,4,5,6,11]
 | 171=>[0,1,2,3,6,7,24,29,41,43,44,57]
 | 172=>[0,2,8]
 | 173=>[0,1,4,5,6,35,53]
 | 174=>[0,1,4,5,7,10,11,12,13,14,24]
 | 175=>[0,1,2,4]
 | 176=>[0,1,4,5,6,12,39,40,41]
 | 177=>[0,1,3,8]
 | 178=>[0,1,4,5,6,10,11,20,37,38,50,54,59]
 | 179=>[0,2,3,4,9,10,11]
 | 180=>[0,1,2,6,7,27,32,33,34,46]
 | 181=>[0,1,3,8]
 | 182=>[0,1,4,5,6,7,8,9,10,11,12,31,44,45,54,62,77,88,110,122,128,146,151,154]
 | 183=>[0,1,4]
 | 184=>[0,1,2,6,7,8,9,10,18,21,37]
 | 185=>[0,2,3,7,8,11]
 | 186=>[0,1,4,5,6,16,29]
 | 187=>[0,2,5]
 | 188=>[0,1,4,5,6,7,8,13,24]
 | 189=>[0,1,3,4,5,8,17]
 | 190=>[0,1,2,4,5,6,7,9,10,17,29,30,42,46,49,66,76,84,89]
 | 191=>[0,1,4,5,6,7,8,12,18,26]
 | 192=>[0,2,3,4,7,10]
 | 193=>[0,1,2]
 | 194=>[0,1,2,3,6]
 | 195=>[0,1,2,6,7,8,28,62,90,95,96,97,109]
 | 196=>[0,1,2,3,6]
 | 197=>[0,1,2,6,7,9,11,17,19,20,21,22,26,27,28,29,46,54,66]
 | 198=>[0,1,2,6,7,8,9,20,32,33,34,39,46,59,66]
 | 199=>[0,1,2]
 | 200=>[0,1,2,3,4,5,9]
 | 201=>[0,2]
 | 202=>[0,1,4,5,6,18,32]
 | 203=>[0,1,2,3,6]
 | 204=>[0,1,2,6,7,8,9,11,15,29]
 | 205=>[0,2,3,4,7,10]
 | 206=>[0,1,2,4]
 | 207=>[0,2,3,5,9,10,11,12,19]
 | 208=>[0,1,2,4,5,6,7,16,25,33,34,42,50,58]
 | 209=>[0,1,2,4,5,6,7,8,16,32,34,35,43,51,59]
 | 210=>[0,2,3,4,7]
 | 211=>[0,2]
 | 212=>[0]
 | 213=>[0,2,4]
 | 214=>[0,2,3,7]
 | 215=>[0,2,3]
 | 216=>[0,2,4]
 | 217=>[0,1,4,5,12]
 | 218=>[0,2,4]
 | 219=>[0,2,5]
 | 235=>[]
 | _=>[]
def cK:FuncId→Bool
 | 89=>true
 | 90=>true
 | 92=>true
 | 95=>true
 | 100=>true
 | 125=>true
 | 126=>true
 | 127=>true
 | 128=>true
 | 130=>true
 | 131=>true
 | 154=>true
 | 155=>true
 | 159=>true
 | 160=>true
 | 161=>true
 | 162=>true
 | 177=>true
 | 181=>true
 | 182=>true
 | 183=>true
 | 184=>true
 | 185=>true
 | 187=>true
 | 198=>true
 | _=>false
def keepR:FuncId→Bool
 | 88=>true
 | 162=>true
 | 130=>true
 | 125=>true
 | 126=>true
 | 160=>true
 | 91=>true
 | 94=>true
 | 93=>true
 | 137=>true
 | 62=>true
 | 100=>true
 | 60=>true
 | 188=>true
 | 201=>true
 | 129=>true
 | _=>false
def GZ:TypeId→Bool
 | 108=>true
 | 109=>true
 | 113=>true
 | _=>false
@[simp] theorem gS5:GS 5=[0,1,2,4,5,6,7,8,9,10,11,12,13,16,21,37,42,47,61,69,72,81,86,89]:=(rfl)
@[simp] theorem AdI:cK 10=false:=(rfl)
@[simp] theorem AeE:keepR 10=false:=(rfl)
@[simp] theorem AfO:GS 10=[0,1,2,4,10,16,22]:=(rfl)
@[simp] theorem AdH:cK 13=false:=(rfl)
@[simp] theorem AfN:GS 13=[0,1,2,3]:=(rfl)
@[simp] theorem AdG:cK 14=false:=(rfl)
@[simp] theorem AfM:GS 14=[0,2,3,4,11]:=(rfl)
@[simp] theorem AdF:cK 17=false:=(rfl)
@[simp] theorem AeD:keepR 17=false:=(rfl)
@[simp] theorem AfL:GS 17=[0,1,2,3,4,9,14,20,26,32]:=(rfl)
@[simp] theorem AdE:cK 18=false:=(rfl)
@[simp] theorem AeC:keepR 18=false:=(rfl)
@[simp] theorem AfK:GS 18=[0,1,4,5,10,14,25]:=(rfl)
@[simp] theorem AeB:keepR 19=false:=(rfl)
@[simp] theorem AfJ:GS 19=[0,1,4,5,10,14,26]:=(rfl)
@[simp] theorem AeA:keepR 27=false:=(rfl)
@[simp] theorem AfI:GS 27=[0,1,2,4,8]:=(rfl)
@[simp] theorem AfH:GS 28=[0,1,2,4,5,6,10,12,13]:=(rfl)
@[simp] theorem AfG:GS 29=[0,1,2,4]:=(rfl)
@[simp] theorem Ae9:keepR 30=false:=(rfl)
@[simp] theorem AfF:GS 30=[0,1,4,5,9]:=(rfl)
@[simp] theorem Ae8:keepR 31=false:=(rfl)
@[simp] theorem AfE:GS 31=[0,1,4,5,9]:=(rfl)
@[simp] theorem Ae7:keepR 32=false:=(rfl)
@[simp] theorem AfD:GS 32=[0,1,4,5,9,18,29]:=(rfl)
@[simp] theorem AdD:cK 36=false:=(rfl)
@[simp] theorem Ae6:keepR 36=false:=(rfl)
@[simp] theorem AfC:GS 36=[0,1,2,3,4,9,15]:=(rfl)
@[simp] theorem AdC:cK 48=false:=(rfl)
@[simp] theorem Ae5:keepR 48=false:=(rfl)
@[simp] theorem AfB:GS 48=[0,1,4,5,11,15,25]:=(rfl)
@[simp] theorem AdB:cK 49=false:=(rfl)
@[simp] theorem Ae4:keepR 49=false:=(rfl)
@[simp] theorem AfA:GS 49=[0,1,4,10]:=(rfl)
@[simp] theorem AdA:cK 50=false:=(rfl)
@[simp] theorem Ae3:keepR 50=false:=(rfl)
@[simp] theorem Af9:GS 50=[0,1,4,5,11,15,25]:=(rfl)
@[simp] theorem Ad9:cK 52=false:=(rfl)
@[simp] theorem Af8:GS 52=[0,2,3,4,11]:=(rfl)
@[simp] theorem Ad8:cK 53=false:=(rfl)
@[simp] theorem Af7:GS 53=[0,2,3,4,11]:=(rfl)
@[simp] theorem Ad7:cK 55=false:=(rfl)
@[simp] theorem Ae2:keepR 55=false:=(rfl)
@[simp] theorem Af6:GS 55=[0,1,4,5,10,14,26]:=(rfl)
@[simp] theorem Ad6:cK 56=false:=(rfl)
@[simp] theorem Ae1:keepR 56=false:=(rfl)
@[simp] theorem Af5:GS 56=[0,1,4,5,10,14,26]:=(rfl)
@[simp] theorem Af4:GS 59=[0,2,3,4,5,6,7,14,38,39,40,76,77,78]:=(rfl)
@[simp] theorem Ad5:cK 60=false:=(rfl)
@[simp] theorem Ae0:keepR 60=true:=(rfl)
@[simp] theorem Af3:GS 60=[0,1,2,3,4]:=(rfl)
@[simp] theorem Ad4:cK 62=false:=(rfl)
@[simp] theorem AdZ:keepR 62=true:=(rfl)
@[simp] theorem Af2:GS 62=[0,1,2,3,4,5,19,37]:=(rfl)
@[simp] theorem Ad3:cK 64=false:=(rfl)
@[simp] theorem AdY:keepR 64=false:=(rfl)
@[simp] theorem Af1:GS 64=[0,1,2,4,5,6,7,8,9,11,20,24,42]:=(rfl)
@[simp] theorem Ad2:cK 65=false:=(rfl)
@[simp] theorem AdX:keepR 65=false:=(rfl)
@[simp] theorem Af0:GS 65=[0,1,2,3,5,6,7,8,9,10,19,30,40]:=(rfl)
@[simp] theorem Ad1:cK 68=false:=(rfl)
@[simp] theorem AdW:keepR 68=false:=(rfl)
@[simp] theorem AeZ:GS 68=[0,1,2,4,7]:=(rfl)
@[simp] theorem Ad0:cK 70=false:=(rfl)
@[simp] theorem AdV:keepR 70=false:=(rfl)
@[simp] theorem AeY:GS 70=[0,1,2,3,8,9,10,11,12,19,37]:=(rfl)
@[simp] theorem AcZ:cK 71=false:=(rfl)
@[simp] theorem AdU:keepR 71=false:=(rfl)
@[simp] theorem AeX:GS 71=[0,1,2,4,7]:=(rfl)
@[simp] theorem AdT:keepR 72=false:=(rfl)
@[simp] theorem AeW:GS 72=[0,1,4,5,9]:=(rfl)
@[simp] theorem AdS:keepR 73=false:=(rfl)
@[simp] theorem AeV:GS 73=[0,1,4,5,9]:=(rfl)
@[simp] theorem AcY:cK 74=false:=(rfl)
@[simp] theorem AdR:keepR 74=false:=(rfl)
@[simp] theorem AeU:GS 74=[0,1,4,5,9,17]:=(rfl)
@[simp] theorem AcX:cK 82=false:=(rfl)
@[simp] theorem AdQ:keepR 82=false:=(rfl)
@[simp] theorem AeT:GS 82=[0,1,2,4,10]:=(rfl)
@[simp] theorem AcW:cK 84=false:=(rfl)
@[simp] theorem AeS:GS 84=[0,1,2,3]:=(rfl)
@[simp] theorem AcV:cK 87=false:=(rfl)
@[simp] theorem AdP:keepR 87=false:=(rfl)
@[simp] theorem AeR:GS 87=[0,1,2,3,4,9,14,20,26]:=(rfl)
@[simp] theorem AcU:cK 91=false:=(rfl)
@[simp] theorem AdO:keepR 91=true:=(rfl)
@[simp] theorem AeQ:GS 91=[0,2,3,6]:=(rfl)
@[simp] theorem AcT:cK 92=true:=(rfl)
@[simp] theorem AeP:GS 92=[0,2,3,4,5,6,13,37,38,39]:=(rfl)
@[simp] theorem AcS:cK 93=false:=(rfl)
@[simp] theorem AdN:keepR 93=true:=(rfl)
@[simp] theorem AeO:GS 93=[0,2,3,6]:=(rfl)
@[simp] theorem AcR:cK 94=false:=(rfl)
@[simp] theorem AdM:keepR 94=true:=(rfl)
@[simp] theorem AeN:GS 94=[0,2,3,6]:=(rfl)
@[simp] theorem AdL:keepR 95=false:=(rfl)
@[simp] theorem AeM:GS 95=[0,1,2]:=(rfl)
@[simp] theorem AcQ:cK 96=false:=(rfl)
@[simp] theorem AdK:keepR 96=false:=(rfl)
@[simp] theorem AeL:GS 96=[0,1,2,3,8,9,11,12,14,28,35,40,41,42,58]:=(rfl)
@[simp] theorem AcP:cK 98=false:=(rfl)
@[simp] theorem AdJ:keepR 98=false:=(rfl)
@[simp] theorem AeK:GS 98=[0,1,2,3,4,16]:=(rfl)
@[simp] theorem AWT:cK 100=true:=(rfl)
@[simp] theorem AZ4:keepR 100=true:=(rfl)
@[simp] theorem AbK:GS 100=[0,1,2,4,6,7,18]:=(rfl)
@[simp] theorem AWS:cK 101=false:=(rfl)
@[simp] theorem AZ3:keepR 101=false:=(rfl)
@[simp] theorem AbJ:GS 101=[0,1,2,4,5,6,10,22]:=(rfl)
@[simp] theorem AWR:cK 102=false:=(rfl)
@[simp] theorem AZ2:keepR 102=false:=(rfl)
@[simp] theorem AbI:GS 102=[0,1,2,3,6,7,8,9,10,11,12,13,14,24,71,99,120]:=(rfl)
@[simp] theorem AWQ:cK 103=false:=(rfl)
@[simp] theorem AZ1:keepR 103=false:=(rfl)
@[simp] theorem AbH:GS 103=[0,1,2,3,5,6,7,10]:=(rfl)
@[simp] theorem AWP:cK 104=false:=(rfl)
@[simp] theorem AZ0:keepR 104=false:=(rfl)
@[simp] theorem AbG:GS 104=[0,1,2,3,6,7,8,9,23,28,41,47,48,55,61,70,74,82,106,114,122,126,131,144]:=(rfl)
@[simp] theorem AWO:cK 108=false:=(rfl)
@[simp] theorem AYZ:keepR 108=false:=(rfl)
@[simp] theorem AbF:GS 108=[0,2,4,12,13,14,15,16,21]:=(rfl)
@[simp] theorem AWN:cK 109=false:=(rfl)
@[simp] theorem AYY:keepR 109=false:=(rfl)
@[simp] theorem AbE:GS 109=[0,1,2,6,7,8,9,10,31,60,87,92,106,118,119,120,137]:=(rfl)
@[simp] theorem AWM:cK 110=false:=(rfl)
@[simp] theorem AYX:keepR 110=false:=(rfl)
@[simp] theorem AbD:GS 110=[0,4,5,6,7,8,16]:=(rfl)
@[simp] theorem AWL:cK 111=false:=(rfl)
@[simp] theorem AYW:keepR 111=false:=(rfl)
@[simp] theorem AbC:GS 111=[0,4,5,6,21]:=(rfl)
@[simp] theorem AWK:cK 112=false:=(rfl)
@[simp] theorem AYV:keepR 112=false:=(rfl)
@[simp] theorem AbB:GS 112=[0,1,4,5,6,7,8,16,38]:=(rfl)
@[simp] theorem AWJ:cK 113=false:=(rfl)
@[simp] theorem AYU:keepR 113=false:=(rfl)
@[simp] theorem AbA:GS 113=[0,1,4,5,6,7,8,9,10,18,34]:=(rfl)
@[simp] theorem AWI:cK 114=false:=(rfl)
@[simp] theorem AYT:keepR 114=false:=(rfl)
@[simp] theorem Ab9:GS 114=[0,4,5,6,7,8,16]:=(rfl)
@[simp] theorem AWH:cK 115=false:=(rfl)
@[simp] theorem AYS:keepR 115=false:=(rfl)
@[simp] theorem Ab8:GS 115=[0,1,4,5,6,7,8,9,10,15,37,38,39]:=(rfl)
@[simp] theorem AWG:cK 116=false:=(rfl)
@[simp] theorem AYR:keepR 116=false:=(rfl)
@[simp] theorem Ab7:GS 116=[0,1,4,5,6,7,8,9,10,11,19,36,49]:=(rfl)
@[simp] theorem AWF:cK 117=false:=(rfl)
@[simp] theorem AYQ:keepR 117=false:=(rfl)
@[simp] theorem Ab6:GS 117=[0,4,5,6,7,8,16]:=(rfl)
@[simp] theorem AWE:cK 118=false:=(rfl)
@[simp] theorem AYP:keepR 118=false:=(rfl)
@[simp] theorem Ab5:GS 118=[0,4,5,30]:=(rfl)
@[simp] theorem AWD:cK 119=false:=(rfl)
@[simp] theorem AYO:keepR 119=false:=(rfl)
@[simp] theorem Ab4:GS 119=[0,1,4,5,6,7,8,9,17]:=(rfl)
@[simp] theorem AWC:cK 120=false:=(rfl)
@[simp] theorem AYN:keepR 120=false:=(rfl)
@[simp] theorem Ab3:GS 120=[0,1,4,5,6,7,8,9,10,11,26,50,51,52,71]:=(rfl)
@[simp] theorem AWB:cK 121=false:=(rfl)
@[simp] theorem AYM:keepR 121=false:=(rfl)
@[simp] theorem Ab2:GS 121=[0,2,3,7,15]:=(rfl)
@[simp] theorem AWA:cK 123=false:=(rfl)
@[simp] theorem AYL:keepR 123=false:=(rfl)
@[simp] theorem Ab1:GS 123=[0,1,2,3]:=(rfl)
@[simp] theorem AW9:cK 124=false:=(rfl)
@[simp] theorem AYK:keepR 124=false:=(rfl)
@[simp] theorem Ab0:GS 124=[0,1,2,3,4,9,14]:=(rfl)
@[simp] theorem AW8:cK 132=false:=(rfl)
@[simp] theorem AYJ:keepR 132=false:=(rfl)
@[simp] theorem AaZ:GS 132=[0,1,2,6]:=(rfl)
@[simp] theorem AW7:cK 136=false:=(rfl)
@[simp] theorem AYI:keepR 136=false:=(rfl)
@[simp] theorem AaY:GS 136=[0,1,2,3,6,7,8,9,10,11,12,13,14,26,42,62,81,112,150,169,190,212]:=(rfl)
@[simp] theorem AW6:cK 137=false:=(rfl)
@[simp] theorem AYH:keepR 137=true:=(rfl)
@[simp] theorem AaX:GS 137=[0,1,4,5,6,10]:=(rfl)
@[simp] theorem AW5:cK 138=false:=(rfl)
@[simp] theorem AYG:keepR 138=false:=(rfl)
@[simp] theorem AaW:GS 138=[0,1,2,4,5,6,9,27]:=(rfl)
@[simp] theorem AW4:cK 139=false:=(rfl)
@[simp] theorem AYF:keepR 139=false:=(rfl)
@[simp] theorem AaV:GS 139=[0,1,2,3,4,6,7,9,12,14,16]:=(rfl)
@[simp] theorem AVZ:cK 140=false:=(rfl)
@[simp] theorem AYE:keepR 140=false:=(rfl)
@[simp] theorem AaU:GS 140=[0,1,2,4]:=(rfl)
@[simp] theorem AVY:cK 141=false:=(rfl)
@[simp] theorem AYD:keepR 141=false:=(rfl)
@[simp] theorem AaT:GS 141=[0,1,4,5,9,18,21]:=(rfl)
@[simp] theorem AVX:cK 142=false:=(rfl)
@[simp] theorem AYC:keepR 142=false:=(rfl)
@[simp] theorem AaS:GS 142=[0,1,4,5,9,35]:=(rfl)
@[simp] theorem AVW:cK 143=false:=(rfl)
@[simp] theorem AYB:keepR 143=false:=(rfl)
@[simp] theorem AaR:GS 143=[0,2]:=(rfl)
@[simp] theorem AVV:cK 146=false:=(rfl)
@[simp] theorem AYA:keepR 146=false:=(rfl)
@[simp] theorem AaQ:GS 146=[0,2,3,4,5,7,10,13,15]:=(rfl)
@[simp] theorem AVU:cK 147=false:=(rfl)
@[simp] theorem AY9:keepR 147=false:=(rfl)
@[simp] theorem AaP:GS 147=[0,1,2,6,7,8,13,14,21,22,26,27,35,46,47,48,59,65]:=(rfl)
@[simp] theorem AVT:cK 148=false:=(rfl)
@[simp] theorem AY8:keepR 148=false:=(rfl)
@[simp] theorem AaO:GS 148=[0,1,4,5,6,22]:=(rfl)
@[simp] theorem AVS:cK 149=false:=(rfl)
@[simp] theorem AY7:keepR 149=false:=(rfl)
@[simp] theorem AaN:GS 149=[0,1,2,3,4]:=(rfl)
@[simp] theorem AVR:cK 150=false:=(rfl)
@[simp] theorem AY6:keepR 150=false:=(rfl)
@[simp] theorem AaM:GS 150=[0,1,2,3,4]:=(rfl)
@[simp] theorem AVQ:cK 151=false:=(rfl)
@[simp] theorem AY5:keepR 151=false:=(rfl)
@[simp] theorem AaL:GS 151=[0,2,3,4,9,19,20,21]:=(rfl)
@[simp] theorem AVP:cK 152=false:=(rfl)
@[simp] theorem AY4:keepR 152=false:=(rfl)
@[simp] theorem AaK:GS 152=[0,1,2,3,5,6,7,8]:=(rfl)
@[simp] theorem AVO:cK 153=false:=(rfl)
@[simp] theorem AY3:keepR 153=false:=(rfl)
@[simp] theorem AaJ:GS 153=[0,1,3,4]:=(rfl)
@[simp] theorem AVN:cK 154=true:=(rfl)
@[simp] theorem AY2:keepR 154=false:=(rfl)
@[simp] theorem AaI:GS 154=[0,1,3]:=(rfl)
@[simp] theorem AVM:cK 155=true:=(rfl)
@[simp] theorem AY1:keepR 155=false:=(rfl)
@[simp] theorem AaH:GS 155=[0,1,2,4,7]:=(rfl)
@[simp] theorem AVL:cK 156=false:=(rfl)
@[simp] theorem AY0:keepR 156=false:=(rfl)
@[simp] theorem AaG:GS 156=[0,2]:=(rfl)
@[simp] theorem AVK:cK 157=false:=(rfl)
@[simp] theorem AXZ:keepR 157=false:=(rfl)
@[simp] theorem AaF:GS 157=[0,1,2,3,6,7,8,10,14,18,19,20,26,27,28,29,38]:=(rfl)
@[simp] theorem AVJ:cK 158=false:=(rfl)
@[simp] theorem AXY:keepR 158=false:=(rfl)
@[simp] theorem AaE:GS 158=[0,1,2,3,4,6,7,8,9,14,20,21,22,30,42]:=(rfl)
@[simp] theorem AVI:cK 165=false:=(rfl)
@[simp] theorem AXX:keepR 165=false:=(rfl)
@[simp] theorem AaD:GS 165=[0,1,2,3,6]:=(rfl)
@[simp] theorem AVH:cK 167=false:=(rfl)
@[simp] theorem AXW:keepR 167=false:=(rfl)
@[simp] theorem AaC:GS 167=[0,1,2,3,4]:=(rfl)
@[simp] theorem AVG:cK 168=false:=(rfl)
@[simp] theorem AXV:keepR 168=false:=(rfl)
@[simp] theorem AaB:GS 168=[0,1,2,3,6,7]:=(rfl)
@[simp] theorem AVF:cK 169=false:=(rfl)
@[simp] theorem AXU:keepR 169=false:=(rfl)
@[simp] theorem AaA:GS 169=[0,1,2,3,6]:=(rfl)
@[simp] theorem AVE:cK 170=false:=(rfl)
@[simp] theorem AXT:keepR 170=false:=(rfl)
@[simp] theorem Aa9:GS 170=[0,1,4,5,6,11]:=(rfl)
@[simp] theorem AVD:cK 171=false:=(rfl)
@[simp] theorem AXS:keepR 171=false:=(rfl)
@[simp] theorem Aa8:GS 171=[0,1,2,3,6,7,24,29,41,43,44,57]:=(rfl)
@[simp] theorem AVC:cK 174=false:=(rfl)
@[simp] theorem AXR:keepR 174=false:=(rfl)
@[simp] theorem Aa7:GS 174=[0,1,4,5,7,10,11,12,13,14,24]:=(rfl)
@[simp] theorem AVB:cK 175=false:=(rfl)
@[simp] theorem AXQ:keepR 175=false:=(rfl)
@[simp] theorem Aa6:GS 175=[0,1,2,4]:=(rfl)
@[simp] theorem AVA:cK 176=false:=(rfl)
@[simp] theorem AXP:keepR 176=false:=(rfl)
@[simp] theorem Aa5:GS 176=[0,1,4,5,6,12,39,40,41]:=(rfl)
@[simp] theorem AV9:cK 177=true:=(rfl)
@[simp] theorem AXO:keepR 177=false:=(rfl)
@[simp] theorem Aa4:GS 177=[0,1,3,8]:=(rfl)
@[simp] theorem AV8:cK 178=false:=(rfl)
@[simp] theorem AXN:keepR 178=false:=(rfl)
@[simp] theorem Aa3:GS 178=[0,1,4,5,6,10,11,20,37,38,50,54,59]:=(rfl)
@[simp] theorem AV7:cK 179=false:=(rfl)
@[simp] theorem AXM:keepR 179=false:=(rfl)
@[simp] theorem Aa2:GS 179=[0,2,3,4,9,10,11]:=(rfl)
@[simp] theorem AV6:cK 180=false:=(rfl)
@[simp] theorem AXL:keepR 180=false:=(rfl)
@[simp] theorem Aa1:GS 180=[0,1,2,6,7,27,32,33,34,46]:=(rfl)
@[simp] theorem AV5:cK 181=true:=(rfl)
@[simp] theorem AXK:keepR 181=false:=(rfl)
@[simp] theorem Aa0:GS 181=[0,1,3,8]:=(rfl)
@[simp] theorem AV4:cK 189=false:=(rfl)
@[simp] theorem AXJ:keepR 189=false:=(rfl)
@[simp] theorem AZZ:GS 189=[0,1,3,4,5,8,17]:=(rfl)
@[simp] theorem AV3:cK 190=false:=(rfl)
@[simp] theorem AXI:keepR 190=false:=(rfl)
@[simp] theorem AZY:GS 190=[0,1,2,4,5,6,7,9,10,17,29,30,42,46,49,66,76,84,89]:=(rfl)
@[simp] theorem AV2:cK 191=false:=(rfl)
@[simp] theorem AXH:keepR 191=false:=(rfl)
@[simp] theorem AZX:GS 191=[0,1,4,5,6,7,8,12,18,26]:=(rfl)
@[simp] theorem AV1:cK 192=false:=(rfl)
@[simp] theorem AXG:keepR 192=false:=(rfl)
@[simp] theorem AZW:GS 192=[0,2,3,4,7,10]:=(rfl)
@[simp] theorem AV0:cK 193=false:=(rfl)
@[simp] theorem AXF:keepR 193=false:=(rfl)
@[simp] theorem AZV:GS 193=[0,1,2]:=(rfl)
@[simp] theorem AUZ:cK 194=false:=(rfl)
@[simp] theorem AXE:keepR 194=false:=(rfl)
@[simp] theorem AZU:GS 194=[0,1,2,3,6]:=(rfl)
@[simp] theorem AUY:cK 195=false:=(rfl)
@[simp] theorem AXD:keepR 195=false:=(rfl)
@[simp] theorem AZT:GS 195=[0,1,2,6,7,8,28,62,90,95,96,97,109]:=(rfl)
@[simp] theorem AUX:cK 196=false:=(rfl)
@[simp] theorem AXC:keepR 196=false:=(rfl)
@[simp] theorem AZS:GS 196=[0,1,2,3,6]:=(rfl)
@[simp] theorem AUW:cK 197=false:=(rfl)
@[simp] theorem AXB:keepR 197=false:=(rfl)
@[simp] theorem AZR:GS 197=[0,1,2,6,7,9,11,17,19,20,21,22,26,27,28,29,46,54,66]:=(rfl)
@[simp] theorem AUV:cK 202=false:=(rfl)
@[simp] theorem AXA:keepR 202=false:=(rfl)
@[simp] theorem AZQ:GS 202=[0,1,4,5,6,18,32]:=(rfl)
@[simp] theorem AUU:cK 203=false:=(rfl)
@[simp] theorem AX9:keepR 203=false:=(rfl)
@[simp] theorem AZP:GS 203=[0,1,2,3,6]:=(rfl)
@[simp] theorem AUT:cK 204=false:=(rfl)
@[simp] theorem AX8:keepR 204=false:=(rfl)
@[simp] theorem AZO:GS 204=[0,1,2,6,7,8,9,11,15,29]:=(rfl)
@[simp] theorem AUS:cK 205=false:=(rfl)
@[simp] theorem AX7:keepR 205=false:=(rfl)
@[simp] theorem AZN:GS 205=[0,2,3,4,7,10]:=(rfl)
@[simp] theorem AUR:cK 206=false:=(rfl)
@[simp] theorem AX6:keepR 206=false:=(rfl)
@[simp] theorem AZM:GS 206=[0,1,2,4]:=(rfl)
@[simp] theorem AUQ:cK 207=false:=(rfl)
@[simp] theorem AX5:keepR 207=false:=(rfl)
@[simp] theorem AZL:GS 207=[0,2,3,5,9,10,11,12,19]:=(rfl)
@[simp] theorem AUP:cK 208=false:=(rfl)
@[simp] theorem AX4:keepR 208=false:=(rfl)
@[simp] theorem AZK:GS 208=[0,1,2,4,5,6,7,16,25,33,34,42,50,58]:=(rfl)
@[simp] theorem AUO:cK 209=false:=(rfl)
@[simp] theorem AX3:keepR 209=false:=(rfl)
@[simp] theorem AZJ:GS 209=[0,1,2,4,5,6,7,8,16,32,34,35,43,51,59]:=(rfl)
@[simp] theorem AUN:cK 210=false:=(rfl)
@[simp] theorem AX2:keepR 210=false:=(rfl)
@[simp] theorem AZI:GS 210=[0,2,3,4,7]:=(rfl)
@[simp] theorem AUM:cK 211=false:=(rfl)
@[simp] theorem AX1:keepR 211=false:=(rfl)
@[simp] theorem AZH:GS 211=[0,2]:=(rfl)
@[simp] theorem AUL:cK 212=false:=(rfl)
@[simp] theorem AX0:keepR 212=false:=(rfl)
@[simp] theorem AZG:GS 212=[0]:=(rfl)
@[simp] theorem AUK:cK 213=false:=(rfl)
@[simp] theorem AWZ:keepR 213=false:=(rfl)
@[simp] theorem AZF:GS 213=[0,2,4]:=(rfl)
@[simp] theorem AUJ:cK 214=false:=(rfl)
@[simp] theorem AWY:keepR 214=false:=(rfl)
@[simp] theorem AZE:GS 214=[0,2,3,7]:=(rfl)
@[simp] theorem AUI:cK 215=false:=(rfl)
@[simp] theorem AWX:keepR 215=false:=(rfl)
@[simp] theorem AZD:GS 215=[0,2,3]:=(rfl)
@[simp] theorem AUH:cK 216=false:=(rfl)
@[simp] theorem AWW:keepR 216=false:=(rfl)
@[simp] theorem AZC:GS 216=[0,2,4]:=(rfl)
@[simp] theorem AUG:cK 217=false:=(rfl)
@[simp] theorem AWV:keepR 217=false:=(rfl)
@[simp] theorem AZB:GS 217=[0,1,4,5,12]:=(rfl)
@[simp] theorem AUF:cK 218=false:=(rfl)
@[simp] theorem AWU:keepR 218=false:=(rfl)
@[simp] theorem AZA:GS 218=[0,2,4]:=(rfl)
@[simp] theorem AbM:GZ 113=true:=(rfl)
noncomputable def AJL:FuncId→Option (List AV→StL→Option (AV×StL))
 | 92=>some HV
 | 59=>some AFZ
 | _=>none
noncomputable def C0:Ctx:={ P:=Tryz.prog,G:=GS,ownArgs:=cK,keepRes:=keepR,eqT:=GZ,prim:=AJL }
@[simp] theorem dk3:bE Tryz.prog 3=some (.int .i64):=by kernel_rfl
@[simp] theorem sz3:gX Tryz.prog 3=some 1:=by kernel_rfl
@[simp] theorem by3:VG Tryz.prog 3=some 8:=by kernel_rfl
@[simp] theorem ze3:zeroOf Tryz.prog 3=some [(.int .i64 0)]:=by kernel_rfl
@[simp] theorem dk4:bE Tryz.prog 4=some .bool:=by kernel_rfl
@[simp] theorem sz4:gX Tryz.prog 4=some 1:=by kernel_rfl
@[simp] theorem AfY:bE Tryz.prog 22=some (.slice 111):=by kernel_rfl
@[simp] theorem AcM:gX Tryz.prog 22=some 1:=by kernel_rfl
@[simp] theorem AfX:bE Tryz.prog 23=some (.slice 3):=by kernel_rfl
@[simp] theorem AcL:gX Tryz.prog 23=some 1:=by kernel_rfl
@[simp] theorem Ag2:VG Tryz.prog 23=some 24:=by kernel_rfl
@[simp] theorem AcC:zeroOf Tryz.prog 23=some [(.slice none 0 0)]:=by kernel_rfl
@[simp] theorem AfW:bE Tryz.prog 24=some (.slice 26):=by kernel_rfl
@[simp] theorem AcK:gX Tryz.prog 24=some 1:=by kernel_rfl
@[simp] theorem AfV:bE Tryz.prog 26=some .strct:=by kernel_rfl
@[simp] theorem AcJ:gX Tryz.prog 26=some 5:=by kernel_rfl
@[simp] theorem ATT:dP Tryz.prog 26 0=some (3,0):=by kernel_rfl
@[simp] theorem ATS:dP Tryz.prog 26 1=some (3,1):=by kernel_rfl
@[simp] theorem ATR:dP Tryz.prog 26 2=some (22,2):=by kernel_rfl
@[simp] theorem ATQ:dP Tryz.prog 26 3=some (23,3):=by kernel_rfl
@[simp] theorem ATP:dP Tryz.prog 26 4=some (24,4):=by kernel_rfl
@[simp] theorem AfU:bE Tryz.prog 31=some (.slice 115):=by kernel_rfl
@[simp] theorem AcI:gX Tryz.prog 31=some 1:=by kernel_rfl
@[simp] theorem AfT:bE Tryz.prog 32=some (.slice 34):=by kernel_rfl
@[simp] theorem AcH:gX Tryz.prog 32=some 1:=by kernel_rfl
@[simp] theorem AfS:bE Tryz.prog 34=some .strct:=by kernel_rfl
@[simp] theorem AcG:gX Tryz.prog 34=some 5:=by kernel_rfl
@[simp] theorem Ag1:VG Tryz.prog 34=some 88:=by kernel_rfl
@[simp] theorem AcB:zeroOf Tryz.prog 34=some [(.int .i64 0),(.int .i64 0),(.slice none 0 0),(.slice none 0 0),(.slice none 0 0)]:=by kernel_rfl
@[simp] theorem ATO:dP Tryz.prog 34 0=some (3,0):=by kernel_rfl
@[simp] theorem ATN:dP Tryz.prog 34 1=some (3,1):=by kernel_rfl
@[simp] theorem ATM:dP Tryz.prog 34 2=some (31,2):=by kernel_rfl
@[simp] theorem ATL:dP Tryz.prog 34 3=some (23,3):=by kernel_rfl
@[simp] theorem ATK:dP Tryz.prog 34 4=some (32,4):=by kernel_rfl
@[simp] theorem AfR:bE Tryz.prog 37=some (.slice 48):=by kernel_rfl
@[simp] theorem AcF:gX Tryz.prog 37=some 1:=by kernel_rfl
@[simp] theorem AcA:zeroOf Tryz.prog 37=some [(.slice none 0 0)]:=by kernel_rfl
@[simp] theorem AfQ:bE Tryz.prog 48=some .strct:=by kernel_rfl
@[simp] theorem AcE:gX Tryz.prog 48=some 2:=by kernel_rfl
@[simp] theorem Ag0:VG Tryz.prog 48=some 32:=by kernel_rfl
@[simp] theorem Ac9:zeroOf Tryz.prog 48=some [(.int .i64 0),(.slice none 0 0)]:=by kernel_rfl
@[simp] theorem ATJ:dP Tryz.prog 48 0=some (3,0):=by kernel_rfl
@[simp] theorem ATI:dP Tryz.prog 48 1=some (23,1):=by kernel_rfl
@[simp] theorem AfP:bE Tryz.prog 83=some .other:=by kernel_rfl
@[simp] theorem AcD:gX Tryz.prog 83=some 1:=by kernel_rfl
@[simp] theorem AfZ:VG Tryz.prog 83=some 8:=by kernel_rfl
@[simp] theorem Ac8:zeroOf Tryz.prog 83=some [(.pointer none)]:=by kernel_rfl
@[simp] theorem AbZ:bE Tryz.prog 109=some .strct:=by kernel_rfl
@[simp] theorem AUB:gX Tryz.prog 109=some 2:=by kernel_rfl
@[simp] theorem ASN:dP Tryz.prog 109 0=some (4,0):=by kernel_rfl
@[simp] theorem ASM:dP Tryz.prog 109 1=some (3,1):=by kernel_rfl
@[simp] theorem AbY:bE Tryz.prog 111=some .strct:=by kernel_rfl
@[simp] theorem AUA:gX Tryz.prog 111=some 5:=by kernel_rfl
@[simp] theorem ASL:dP Tryz.prog 111 0=some (3,0):=by kernel_rfl
@[simp] theorem ASJ:dP Tryz.prog 111 1=some (3,1):=by kernel_rfl
@[simp] theorem ASI:dP Tryz.prog 111 2=some (109,2):=by kernel_rfl
@[simp] theorem ASH:dP Tryz.prog 111 3=some (22,4):=by kernel_rfl
@[simp] theorem AbX:bE Tryz.prog 113=some .strct:=by kernel_rfl
@[simp] theorem AU9:gX Tryz.prog 113=some 2:=by kernel_rfl
@[simp] theorem Ac5:VG Tryz.prog 113=some 16:=by kernel_rfl
@[simp] theorem AU3:zeroOf Tryz.prog 113=some [(.bool false),(.int .i64 0)]:=by kernel_rfl
@[simp] theorem ASG:dP Tryz.prog 113 0=some (4,0):=by kernel_rfl
@[simp] theorem ASF:dP Tryz.prog 113 1=some (3,1):=by kernel_rfl
@[simp] theorem AbW:bE Tryz.prog 115=some .strct:=by kernel_rfl
@[simp] theorem AU8:gX Tryz.prog 115=some 5:=by kernel_rfl
@[simp] theorem Ac4:VG Tryz.prog 115=some 56:=by kernel_rfl
@[simp] theorem AU2:zeroOf Tryz.prog 115=some [(.int .i64 0),(.int .i64 0),(.bool false),(.int .i64 0),(.slice none 0 0)]:=by kernel_rfl
@[simp] theorem ASE:dP Tryz.prog 115 0=some (3,0):=by kernel_rfl
@[simp] theorem ASD:dP Tryz.prog 115 1=some (3,1):=by kernel_rfl
@[simp] theorem ASC:dP Tryz.prog 115 2=some (113,2):=by kernel_rfl
@[simp] theorem ASB:dP Tryz.prog 115 3=some (31,4):=by kernel_rfl
@[simp] theorem AbV:bE Tryz.prog 118=some .other:=by kernel_rfl
@[simp] theorem AU7:gX Tryz.prog 118=some 1:=by kernel_rfl
@[simp] theorem Ac3:VG Tryz.prog 118=some 8:=by kernel_rfl
@[simp] theorem AU1:zeroOf Tryz.prog 118=some [(.pointer none)]:=by kernel_rfl
@[simp] theorem AbU:bE Tryz.prog 124=some (.slice 83):=by kernel_rfl
@[simp] theorem AbT:bE Tryz.prog 132=some (.slice 23):=by kernel_rfl
@[simp] theorem AbS:bE Tryz.prog 141=some .other:=by kernel_rfl
@[simp] theorem AU6:gX Tryz.prog 141=some 1:=by kernel_rfl
@[simp] theorem AbR:bE Tryz.prog 142=some (.array 12 141):=by kernel_rfl
@[simp] theorem AU5:gX Tryz.prog 142=some 12:=by kernel_rfl
@[simp] theorem AU0:zeroOf Tryz.prog 142=some [(.nilFunc),(.nilFunc),(.nilFunc),(.nilFunc),(.nilFunc),(.nilFunc),(.nilFunc),(.nilFunc),(.nilFunc),(.nilFunc),(.nilFunc),(.nilFunc)]:=by kernel_rfl
@[simp] theorem AbQ:bE Tryz.prog 150=some .other:=by kernel_rfl
@[simp] theorem AU4:gX Tryz.prog 150=some 1:=by kernel_rfl
@[simp] theorem AbP:bE Tryz.prog 158=some (.slice 118):=by kernel_rfl
@[simp] theorem AbO:bE Tryz.prog 167=some (.array 2 3):=by kernel_rfl
@[simp] theorem ATZ:zeroOf Tryz.prog 167=some [(.int .i64 0),(.int .i64 0)]:=by kernel_rfl
@[simp] theorem AbN:bE Tryz.prog 184=some (.slice 113):=by kernel_rfl
end Go.Proofs.YtjdfjgmebalaaaaGreat
namespace Go.Av
def fnT (fn:Func):Bool:=(fn.name != "runtime.NumGoroutine") && match fn.body with
 | some c=>codeOk fn.ntmps c
 | none=>true
theorem YK {α:Type} {p:α→Bool} {l:List α} (c n:Nat) (hc:0<c) (hl:l.length≤c*n) (h:∀ i,i<n→((l.drop (c*i)).take c).all p=true):l.all p=true:=by
 rw[zO];intro x hx;obtain⟨j,hj,rfl⟩:=List.getElem_of_mem hx;have hd:c*(j / c)+j % c=j:=Nat.div_add_mod j c;have hm:j % c<c:=Nat.mod_lt _ hc
 have hi:j / c<n:=by
  rw[Nat.div_lt_iff_lt_mul hc,zB];omega
 refine zO.1 (h (j / c) hi) _ ?_;refine zV (i:=j % c) ?_;rw[zF,if_pos hm,yM,hd,zX hj]
theorem ABR {P:Program} (h:P.funcs.toList.all fnT=true):UY P=true:=h
end Go.Av
namespace Go.Proofs.YtjdfjgmebalaaaaGreat
open Go Go.Av
set_option maxHeartbeats 2000000
theorem ft:GQ Tryz.prog=true:=by kernel_rfl
theorem nt0:((Tryz.prog.funcs.toList.drop (25*0)).take 25).all fnT=true:=by kernel_rfl
theorem nt1:((Tryz.prog.funcs.toList.drop (25*1)).take 25).all fnT=true:=by kernel_rfl
theorem nt2:((Tryz.prog.funcs.toList.drop (25*2)).take 25).all fnT=true:=by kernel_rfl
theorem nt3:((Tryz.prog.funcs.toList.drop (25*3)).take 25).all fnT=true:=by kernel_rfl
theorem nt4:((Tryz.prog.funcs.toList.drop (25*4)).take 25).all fnT=true:=by kernel_rfl
theorem nt5:((Tryz.prog.funcs.toList.drop (25*5)).take 25).all fnT=true:=by kernel_rfl
theorem nt6:((Tryz.prog.funcs.toList.drop (25*6)).take 25).all fnT=true:=by kernel_rfl
theorem nt7:((Tryz.prog.funcs.toList.drop (25*7)).take 25).all fnT=true:=by kernel_rfl
theorem nt8:((Tryz.prog.funcs.toList.drop (25*8)).take 25).all fnT=true:=by kernel_rfl
theorem nt9:((Tryz.prog.funcs.toList.drop (25*9)).take 25).all fnT=true:=by kernel_rfl
theorem ntl:Tryz.prog.funcs.toList.length≤25*10:=zS (by kernel_rfl)
theorem nt:UY Tryz.prog=true:=ABR (YK 25 10 (by decide) ntl fun i hi=>by
 have h:i=0∨i=1∨i=2∨i=3∨i=4∨i=5∨i=6∨i=7∨i=8∨i=9:=by omega
 rcases h with rfl|rfl|rfl|rfl|rfl|rfl|rfl|rfl|rfl|rfl
 ·exact nt0
 ·exact nt1
 ·exact nt2
 ·exact nt3
 ·exact nt4
 ·exact nt5
 ·exact nt6
 ·exact nt7
 ·exact nt8
 ·exact nt9)
theorem mo:Tryz.prog.follows .mixedOrders=true:=by kernel_rfl
theorem eqS:∀ t,GZ t=true→V5 Tryz.prog t=true:=by
 intro t h;unfold GZ at h;split at h
 ·kernel_rfl
 ·kernel_rfl
 ·kernel_rfl
 ·cases h
@[simp] theorem C_P:C0.P=Tryz.prog:=(rfl)
@[simp] theorem C_G (f):C0.G f=GS f:=(rfl)
@[simp] theorem C_o (f):C0.ownArgs f=cK f:=(rfl)
@[simp] theorem C_k (f):C0.keepRes f=keepR f:=(rfl)
@[simp] theorem C_e (f):C0.eqT f=GZ f:=(rfl)
@[simp] theorem C_t:C0.tree=false:=(rfl)
theorem wrap64 {x:Int} (h1:-9223372036854775808≤x) (h2:x<9223372036854775808):IntKind.i64.wrap x=x:=by
 unfold IntKind.wrap;simp[IntKind.signed,IntKind.bits];omega
theorem wrO {n:Int} (h1:-9223372036854775808≤n:=by omega) (h2:n<9223372036854775808:=by omega):IntKind.i64.wrap n=n:=wrap64 h1 h2
abbrev Rd (l:List UInt8) (p:Int):Option Blk:=some (.box [.i (.isl (nV l)), .int p])
set_option maxHeartbeats 4000000
set_option maxRecDepth 4000
theorem P5 (n:Int):n=1∨n=2∨n=3∨n=4∨n=5∨n=6∨n=7∨n=8∨n=9∨n=10∨n=11∨(n≠1∧n≠2∧n≠3∧n≠4∧n≠5∧n≠6∧n≠7∧n≠8∧n≠9∧n≠10∧n≠11):=by omega
@[simp] theorem AFD (n:Int):aI C0 205 [.int n] []=some (.int (bQ n),[]):=by
  rw[aD rfl Tryz.func205 rfl rfl]
  rcases P5 n with rfl|rfl|rfl|rfl|rfl|rfl|rfl|rfl|rfl|rfl|rfl|⟨h1,h2,h3,h4,h5,h6,h7,h8,h9,h10,h11⟩
  all_goals first
   | (simp[bQ];done)
   | (have e:bQ n=-1:=by
       unfold bQ;rw[if_neg (by omega),if_neg (by omega),if_neg (by omega)]
      simp[e,h1,h2,h3,h4,h5,h6,h7,h8,h9,h10,h11])
@[simp] theorem AOV (n:Int):aI C0 192 [.int n] []=some (.int (bQ n),[]):=by
  rw[aD rfl Tryz.func192 rfl rfl]
  rcases P5 n with rfl|rfl|rfl|rfl|rfl|rfl|rfl|rfl|rfl|rfl|rfl|⟨h1,h2,h3,h4,h5,h6,h7,h8,h9,h10,h11⟩
  all_goals first
   | (simp[bQ];done)
   | (have e:bQ n=-1:=by
       unfold bQ;rw[if_neg (by omega),if_neg (by omega),if_neg (by omega)]
      simp[e,h1,h2,h3,h4,h5,h6,h7,h8,h9,h10,h11])
@[simp] theorem ADV (n:Int):aI C0 143 [.int n] []=some (.bool (bJ n),[]):=by
  rw[aD rfl Tryz.func143 rfl rfl];by_cases h1:1≤n<;>by_cases h2:n≤6<;>simp[bJ,h1,h2]
@[simp] theorem JX (n a b:Int):aI C0 132 [.int n, .int a, .int b] []=some (.bool (decide (a≤n∧n≤b)),[]):=by
  rw[aD rfl Tryz.func132 rfl rfl];by_cases h1:a≤n<;>by_cases h2:n≤b<;>simp[h1,h2]
@[simp] theorem valid_eq (b:Bool) (n:Int):aI C0 206 [.i (.agg [.bool b, .int n])] []=some (.bool (Val.ok ⟨b,n⟩),[]):=by
  rw[aD rfl Tryz.func206 rfl rfl]
  cases b
  ·by_cases h1:-9999≤n<;>by_cases h2:n≤9999<;>simp[Val.ok,h1,h2]
  ·by_cases h1:n=0<;>simp[Val.ok,h1]
@[simp] theorem ADW (b:Bool) (n:Int):aI C0 193 [.i (.agg [.bool b, .int n])] []=some (.bool (Val.ok ⟨b,n⟩),[]):=by
  rw[aD rfl Tryz.func193 rfl rfl]
  cases b
  ·by_cases h1:-9999≤n<;>by_cases h2:n≤9999<;>simp[Val.ok,h1,h2]
  ·by_cases h1:n=0
   ·subst h1;simp[Val.ok]
   ·by_cases h2:-9999≤n<;>by_cases h3:n≤9999<;>simp[Val.ok,h1,h2,h3]
theorem AGS {e:Ex} {w:Int} (n:Nat) (hk:¬ (e.kids.length:Int)=bQ e.kind):aI C0 195 [.i (.iref e.cells), .int w, .int n] []=some (.bool false,[]):=by
 rw[aD rfl Tryz.func195 rfl rfl,Ex.aA];simp[Ex.aV,hk]
theorem AID {e:Ex} {w:Int} (hk:(e.kids.length:Int)=bQ e.kind) (hz:0<bQ e.kind):aI C0 195 [.i (.iref e.cells), .int w, .int 0] []=some (.bool false,[]):=by
 rw[aD rfl Tryz.func195 rfl rfl,Ex.aA];simp[Ex.aV,hk,hz]
theorem ZA {e:Ex} {w:Int} (n:Nat) (hk:(e.kids.length:Int)=bQ e.kind) (hz:0<bQ e.kind→n≠0) (hh:e.headOk w=false) :
 aI C0 195 [.i (.iref e.cells), .int w, .int n] []=some (.bool false,[]):=by
 rw[aD rfl Tryz.func195 rfl rfl,Ex.aA];unfold Ex.headOk at hh;by_cases h1:e.kind=1
 ·rw[h1]at hz hk;simp[h1,bQ]at hh hk;by_cases h2:0≤e.col
  ·by_cases h3:e.col<w
   ·cases h4:e.val.null with
    | true=>simp[Ex.aV,hk,h1,xG.2 h2,zD0.2 h3,h4,bQ]
    | false=>simp[Ex.aV,hk,h1,xG.2 h2,zD0.2 h3,h4,hh h2 h3 h4,bQ]
   ·simp[Ex.aV,hk,h1,xG.2 h2,xG.1 h3,bQ]
  ·simp[Ex.aV,hk,h1,zD0.1 h2,bQ]
 ·by_cases h2:e.kind=2
  ·rw[h2]at hz hk;simp[h2,bQ]at hh hk;by_cases h3:e.col=0
   ·have h4:Val.ok ⟨e.val.null,e.val.n⟩=false:=hh h3;simp[Ex.aV,hk,h2,h3,h4,bQ]
   ·simp[Ex.aV,hk,h2,h3,bQ]
  ·simp[h1,h2]at hh;by_cases h0:0<bQ e.kind
   ·have hn:=hz h0;by_cases h3:e.col=0
    ·cases h4:e.val.null with
     | true=>simp[Ex.aV,hk,h1,h2,h3,h4,h0,hn,hz h0]
     | false=>simp[Ex.aV,hk,h1,h2,h3,h4,hh h3 h4,h0,hn,hz h0]
    ·simp[Ex.aV,hk,h1,h2,h3,h0,hn,hz h0]
   ·by_cases h3:e.col=0
    ·cases h4:e.val.null with
     | true=>simp[Ex.aV,hk,h1,h2,h3,h4,h0]
     | false=>simp[Ex.aV,hk,h1,h2,h3,h4,hh h3 h4,h0]
    ·simp[Ex.aV,hk,h1,h2,h3,h0]
def VX (e:Ex) (w n:Int) (i:Nat):AS :=
 { env:=[(0, .i (.iref [.int e.kind, .int 0, .bool false, .int 0, .isl (Ex.aB e.kids)])),(1, .int w),(2, .int n),(6, .bool false),(7, .int (bQ e.kind)),(8,jk i (.int (i-1))),(28, .bool (n == 0)),(62, .bool false),(90, .bool false),(95, .int (bQ e.kind)),(96, .int i),(97,jk i (.bool true)),(109,jk i (.bool false))],st:=[] }
theorem AMS {e:Ex} {w:Int} (n:Nat) (hn:n≤8) (hk:(e.kids.length:Int)=bQ e.kind) (hz:0<bQ e.kind→n≠0) (hh:e.headOk w=true) (ih:∀ k∈e.kids,0<bQ e.kind→aI C0 195 [.i (.iref k.cells), .int w, .int ((n:Int)-1)] []=some (.bool (Ex.vB w (n-1) k),[])) :
 aI C0 195 [.i (.iref e.cells), .int w, .int n] []=some (.bool (e.kids.all (Ex.vB w (n-1))),[]):=by
 rw[aD rfl Tryz.func195 rfl rfl,Ex.aA]
 rcases Ex.XQ w e with h|⟨-,⟨hA,hB,hC,hD,hE,hF⟩|⟨hA,hB,hC,hD,hE,hF⟩|⟨hA,hB,hC,hD,hE,hF⟩⟩
 ·simp[h]at hh
 ·have h2:e.kids=[]:=by rw[hF]at hk;simpa using hk
  simp[h2,Ex.aB,hA,hD,hE,xG.2 hB,zD0.2 hC,bQ];rw[aG];simp
 ·have h2:e.kids=[]:=by rw[hF]at hk;simpa using hk
  simp[h2,Ex.aB,hA,hB,hC,bQ];rw[aG];simp
 ·by_cases h0:0<bQ e.kind
  ·have hn:=hz h0;simp[Ex.aV,hk,hA,hB,hC,hD,hE,h0,hn,hz h0];obtain⟨j,h1,h2⟩:=gK (Ex.vB w (n-1)) e.kids;have w1:IntKind.i64.wrap ((n:Int)-1)=n-1:=wrO
   have rd:∀ (i:Nat) (k:Ex),e.kids[i]?=some k→k∈e.kids→i<e.kids.length∧fJ (Ex.aB e.kids) i=some k.cells∧aI C0 195 [.i (.iref k.cells), .int w, .int ((n:Int)-1)] []=some (.bool (Ex.vB w (n-1) k),[]) :=
    fun i k a b=>⟨(zY.1 a).1,Ex.aN a,ih k b h0⟩
   have hlen:e.kids.length≤2:=by have:bQ e.kind≤2:=by
                                  unfold bQ;split;· omega
                                  split;· omega
                                  split<;>omega
                                 omega
   rw[aS (VX e w n) j (by simp[VX])]
   ·rw[aG]
    rcases h2 with ⟨hj,ha⟩|⟨k,h3,h4,h5,ha⟩
    ·have l1:¬ ((j:Int)<bQ e.kind):=by omega
     simp[VX,l1,ha]
    ·obtain⟨r1,r2,r3⟩:=rd j k h3 h4;have l1:(j:Int)<bQ e.kind:=by omega
     rw[Ex.aA]at r2 r3;simp[VX,l1,r1,ha,r2,r3,w1,h5]
   ·intro i hi;obtain⟨k,h3,h4,h5⟩:=h1 i hi;obtain⟨r1,r2,r3⟩:=rd i k h3 h4;have l1:(i:Int)<bQ e.kind:=by omega
    have w2:IntKind.i64.wrap ((i:Int)+1)=i+1:=wrO;rw[Ex.aA]at r2 r3;simp[VX,l1,r1,r2,r3,w1,w2,h5]
  ·have h2:e.kids=[]:=by cases h:e.kids with
    | nil=>rfl
    | cons a l=>rw[h]at hk;simp at hk;omega
   rw[h2]at hk;simp at hk;simp[h2,Ex.aB,hA,hB,hC,hD,hE,← hk];rw[aG];simp
@[simp] theorem uX {w:Int}:∀ (n:Nat) (e:Ex),n≤8→aI C0 195 [.i (.iref e.cells), .int w, .int n] []=some (.bool (Ex.vB w n e),[])
  | 0,e,hn=>by
   by_cases hk:(e.kids.length:Int)=bQ e.kind
   ·by_cases hz:0<bQ e.kind
    ·rw[show((0:Nat):Int)=0 from rfl,AID hk hz];simp[Ex.vB,zD0.2 hz]
    ·cases hh:e.headOk w with
     | false=>rw[ZA 0 hk (fun h=>absurd h hz) hh];simp[Ex.vB,hh]
     | true =>
      rw[AMS 0 hn hk (fun h=>absurd h hz) hh (fun k _ h=>absurd h hz)]
      have:e.kids=[]:=by cases h:e.kids with
       | nil=>rfl
       | cons a l=>rw[h]at hk;simp at hk;omega
      have h3:bQ e.kind=0:=by rw[this]at hk;simpa using hk.symm
      simp[Ex.vB,hh,h3,this]
   ·rw[AGS 0 hk];simp[Ex.vB,hk]
  | n+1,e,hn=>by
   by_cases hk:(e.kids.length:Int)=bQ e.kind
   ·cases hh:e.headOk w with
    | false=>rw[ZA (n+1) hk (fun _=>by omega) hh];simp[Ex.vB,hh]
    | true =>
     rw[AMS (n+1) hn hk (fun _=>by omega) hh (fun k _ _=>by
      have:=uX (w:=w) n k (by omega);rw[show(((n+1:Nat):Int)-1)=(n:Int)by omega]
      exact this)]
     simp[Ex.vB,hh,hk]
   ·rw[AGS (n+1) hk];simp[Ex.vB,hk]
theorem AGR {e:Ex} {w:Int} (n:Nat) (hk:¬ (e.kids.length:Int)=bQ e.kind):aI C0 171 [.i (.agg e.cells), .int w, .int n] []=some (.bool false,[]):=by
 rw[aD rfl Tryz.func171 rfl rfl,Ex.aA];simp[hk]
theorem AIC {e:Ex} {w:Int} (hk:(e.kids.length:Int)=bQ e.kind) (hz:0<bQ e.kind):aI C0 171 [.i (.agg e.cells), .int w, .int 0] []=some (.bool false,[]):=by
 rw[aD rfl Tryz.func171 rfl rfl,Ex.aA];simp[hk,hz]
def EX (e:Ex) (w n:Int) (v:AV) (i:Nat):AS :=
 { env:=[(0, .i (.agg [.int e.kind, .int e.col, .bool e.val.null, .int e.val.n, .isl (Ex.aB e.kids)])),(1, .int w),(2, .int n),(3, .own 0 0),(6, .bool false),(7, .int i),(24,v),(29,jk i (.bool true)),(41,jk i (.bool false)),(43, .junk),(44, .junk),(57, .junk)],
   st:=[some (.box [.int e.kind, .int e.col, .bool e.val.null, .int e.val.n, .i (.isl (Ex.aB e.kids))])] }
theorem AMR {e:Ex} {w:Int} (n:Nat) (hn:n≤8) (hk:(e.kids.length:Int)=bQ e.kind) (hz:0<bQ e.kind→n≠0)  (hw:1≤w∧w≤6)
 (ih:∀ k∈e.kids,0<bQ e.kind→aI C0 171 [.i (.agg k.cells), .int w, .int ((n:Int)-1)] []=some (.bool (Ex.vB w (n-1) k),[])) :
  aI C0 171 [.i (.agg e.cells), .int w, .int n] []=some (.bool (e.kids.all (Ex.vB w (n-1)) && e.headOk w),[]):=by
 rw[aD rfl Tryz.func171 rfl rfl,Ex.aA];have w0:IntKind.i64.wrap (w-1)=w-1:=wrO;by_cases h0:0<bQ e.kind
 ·have hn:=hz h0;simp[hk,h0,hn];obtain⟨j,h1,h2⟩:=gK (Ex.vB w (n-1)) e.kids;have w1:IntKind.i64.wrap ((n:Int)-1)=n-1:=wrO
  have rd:∀ (i:Nat) (k:Ex),e.kids[i]?=some k→k∈e.kids→i<e.kids.length∧fJ (Ex.aB e.kids) i=some k.cells∧aI C0 171 [.i (.agg k.cells), .int w, .int ((n:Int)-1)] []=some (.bool (Ex.vB w (n-1) k),[]) :=
   fun i k a b=>⟨(zY.1 a).1,Ex.aN a,ih k b h0⟩
  have hlen:e.kids.length≤2:=by have:bQ e.kind≤2:=by
                                 unfold bQ;split;· omega
                                 split;· omega
                                 split<;>omega
                                omega
  have hk1:e.kind≠1:=fun h=>by rw[h]at h0;simp[bQ]at h0
  have hk2:e.kind≠2:=fun h=>by rw[h]at h0;simp[bQ]at h0
  rw[aS (EX e w n (.bool ((n:Int) == 0)) ) j (by simp[EX])]
  ·rw[aG]
   rcases h2 with ⟨hj,ha⟩|⟨k,h3,h4,h5,ha⟩
   ·have l1:¬ ((j:Int)<bQ e.kind):=by omega
    by_cases h6:e.col=0
    ·cases h7:e.val.null with
     | true=>simp[EX,l1,hk,ha,Ex.headOk,hk1,hk2,h6,h7]
     | false=>simp[EX,l1,hk,ha,Ex.headOk,hk1,hk2,h6,h7]
    ·simp[EX,l1,hk,ha,Ex.headOk,hk1,hk2,h6]
   ·obtain⟨r1,r2,r3⟩:=rd j k h3 h4;have l1:(j:Int)<bQ e.kind:=by omega
    rw[Ex.aA]at r2 r3;simp[EX,l1,r1,hk,ha,r2,r3,w1,h5]
  ·intro i hi;obtain⟨k,h3,h4,h5⟩:=h1 i hi;obtain⟨r1,r2,r3⟩:=rd i k h3 h4;have l1:(i:Int)<bQ e.kind:=by omega
   have w2:IntKind.i64.wrap ((i:Int)+1)=i+1:=wrO;rw[Ex.aA]at r2 r3;simp[EX,l1,r1,hk,r2,r3,w1,w2,h5]
 ·have h2:e.kids=[]:=by cases h:e.kids with
   | nil=>rfl
   | cons a l=>rw[h]at hk;simp at hk;omega
  rw[h2]at hk;simp at hk;simp[h2,Ex.aB,← hk];rw[aG];by_cases h1:e.kind=1
  ·by_cases h4:0≤e.col
   ·by_cases h5:e.col<w
    ·cases h7:e.val.null with
     | true=>simp[h1,w0,Ex.headOk,h4,h5,h7,show e.col≤w-1 by omega]
     | false=>simp[h1,w0,Ex.headOk,h4,h5,h7,show e.col≤w-1 by omega]
    ·simp[h1,w0,Ex.headOk,h4,h5,show ¬ e.col≤w-1 by omega]
   ·simp[h1,w0,Ex.headOk,h4]
  ·by_cases h3:e.kind=2
   ·by_cases h4:e.col=0
    ·simp[h3,Ex.headOk,h4]
    ·simp[h3,Ex.headOk,h4]
   ·by_cases h4:e.col=0
    ·cases h7:e.val.null with
     | true=>simp[h1,h3,Ex.headOk,h4,h7]
     | false=>simp[h1,h3,Ex.headOk,h4,h7]
    ·simp[h1,h3,Ex.headOk,h4]
theorem BH {w:Int} (hw:1≤w∧w≤6):∀ (n:Nat) (e:Ex),n≤8→aI C0 171 [.i (.agg e.cells), .int w, .int n] []=some (.bool (Ex.vB w n e),[])
 | 0,e,hn=>by
  by_cases hk:(e.kids.length:Int)=bQ e.kind
  ·by_cases hz:0<bQ e.kind
   ·rw[show((0:Nat):Int)=0 from rfl,AIC hk hz];simp[Ex.vB,zD0.2 hz]
   ·rw[AMR 0 hn hk (fun h=>absurd h hz) hw (fun k _ h=>absurd h hz)]
    have:e.kids=[]:=by cases h:e.kids with
     | nil=>rfl
     | cons a l=>rw[h]at hk;simp at hk;omega
    have h3:bQ e.kind=0:=by rw[this]at hk;simpa using hk.symm
    simp[Ex.vB,h3,this]
  ·rw[AGR 0 hk];simp[Ex.vB,hk]
 | n+1,e,hn=>by
  by_cases hk:(e.kids.length:Int)=bQ e.kind
  ·rw[AMR (n+1) hn hk (fun _=>by omega) hw (fun k _ _=>by
      have:=BH (w:=w) hw n k (by omega);rw[show(((n+1:Nat):Int)-1)=(n:Int)by omega]
      exact this)]
   simp[Ex.vB,hk,Bool.and_comm]
  ·rw[AGR (n+1) hk];simp[Ex.vB,hk]
theorem ok_eq (w:Int) (e:Ex):aI C0 175 [.i (.agg e.cells), .int w] []=some (.bool (e.ok w),[]):=by
 rw[aD rfl Tryz.func175 rfl rfl];have h:=uX (w:=w) 8 e (by omega);rw[Ex.aA]at h ⊢;have e8:((8:Nat):Int)=8:=rfl;rw[e8]at h
 cases hw:bJ w with
 | false=>simp[hw,Ex.ok]
 | true=>simp[hw,Ex.ok,h]
theorem NU (w:Int) (e:Ex):aI C0 140 [.i (.agg e.cells), .int w] []=some (.bool (e.ok w),[]):=by
 rw[aD rfl Tryz.func140 rfl rfl];by_cases hw:1≤w∧w≤6
 ·have h:=BH hw 8 e (by omega);rw[Ex.aA]at h ⊢;have e8:((8:Nat):Int)=8:=rfl;rw[e8]at h;simp[hw,Ex.ok,bJ,h]
 ·rw[Ex.aA];simp[hw,Ex.ok,bJ]
theorem dE:IntKind.i64.wrap 1=1:=wrO
def CX (e:Ex) (i:Nat):AS :=
 { env:=[(0, .i (.agg [.int e.kind, .int e.col, .bool e.val.null, .int e.val.n, .isl (Ex.aB e.kids)])),(1, .own 0 0),(2, .own 1 0),(3, .own 2 0),(4, .int i),(16,jk i (.bool true))],
   st:=some (.box [.int e.kind, .int e.col, .bool e.val.null, .int e.val.n, .i (.isl (Ex.aB e.kids))])::some (.box [.int 0, .int 0, .bool false, .int 0, .nils]) ::
    some (.box [.int e.kind, .int e.col, .bool e.val.null, .int e.val.n,gro 3 5 i])::YY 5 (Ex.aB (e.kids.take i)) i }
theorem AKR {e:Ex} (hl:e.kids.length<1000000000) (ih:∀ a∈e.kids,aI C0 98 [.i (.agg a.cells)] []=some (.i (.agg a.cells),[])) :
 aI C0 98 [.i (.agg e.cells)] []=some (.i (.agg e.cells),[]):=by
 rw[aD rfl Tryz.func98 rfl rfl,Ex.aA];simp;rw[aS (CX e) e.kids.length (by simp[CX])]
 ·rw[aG]
  cases hn:e.kids.length with
  | zero =>
   have:e.kids=[]:=zW.1 hn;simp[CX,this,Ex.aB]
  | succ n =>
   have:e.kids.take (n+1)=e.kids:=zZ (by omega);simp[CX,hn,this]
 ·intro i hi;have h3:=zX hi;have hc:=ih _ (zV h3);have r2:=Ex.aN h3;generalize e.kids[i]=a at h3 hc r2;have w2:IntKind.i64.wrap ((i:Int)+1)=i+1:=wrO;by_cases h0:i=0
  ·subst h0;simp[CX,hi,r2,hc,dE,aJ h3,Ex.aB]
  ·simp[CX,aP h0,aM h0,bY h0,hi,r2,hc,w2,aJ h3,Ex.aW,show min i e.kids.length=i by omega,show(i+1)*56≤140737488355328 by omega,zK]
theorem uH:∀ (e:Ex),e.thin→aI C0 98 [.i (.agg e.cells)] []=some (.i (.agg e.cells),[]):=by
 intro e
 induction e using Ex.ind with
 | h k c v ks ih =>
  intro ht;have ht':=(Ex.bI _).1 ht;exact AKR ht'.1 fun a ha=>ih a ha (ht'.2 a ha)
def SX (e:Ex) (l:List Ex) (f:Ex→Ex) (i:Nat):AS :=
 { env:=[(0, .i (.agg [.int e.kind, .int e.col, .bool e.val.null, .int e.val.n, .isl (Ex.aB e.kids)])),(1, .i (.isl (Ex.aB l))),(2, .own 0 0),(4, .own 1 0),(5, .own 2 0),(6, .int i),(9, .bool false),(27,jk i (.bool true))],
   st:=some (.box [.int e.kind, .int e.col, .bool e.val.null, .int e.val.n, .i (.isl (Ex.aB e.kids))])::some (.box [.int 0, .int 0, .bool false, .int 0, .nils]) ::
    some (.box [.int e.kind, .int e.col, .bool e.val.null, .int e.val.n,gro 3 5 i])::YY 5 (Ex.aB ((e.kids.take i).map f)) i }
theorem tH {e b:Ex} {l:List Ex} (h1:e.kind=1) (h0:0≤e.col) (hb:l[e.col.toNat]?=some b) (ht:b.thin) :
 aI C0 138 [.i (.agg e.cells), .i (.isl (Ex.aB l))] []=some (.i (.agg b.cells),[]):=by
 rw[aD rfl Tryz.func138 rfl rfl,Ex.aA];have hc:=uH b ht;have r2:=Ex.aN hb;have r1:=(zY.1 hb).1;rw[Ex.aA]at hc r2 ⊢;simp[h1,h0,r2,hc,show e.col<l.length by omega]
theorem AE4 {e:Ex} {l:List Ex} {f:Ex→Ex} (h1:e.kind≠1) (hl:e.kids.length<1000000000) (ih:∀ a∈e.kids,aI C0 138 [.i (.agg a.cells), .i (.isl (Ex.aB l))] []=some (.i (.agg (f a).cells),[])) :
 aI C0 138 [.i (.agg e.cells), .i (.isl (Ex.aB l))] []=some (.i (.agg (Ex.mk e.kind e.col e.val (e.kids.map f)).cells),[]):=by
 rw[aD rfl Tryz.func138 rfl rfl,Ex.aA];simp[h1];rw[aS (SX e l f) e.kids.length (by simp[SX,h1])]
 ·rw[aG]
  cases hn:e.kids.length with
  | zero =>
   have:e.kids=[]:=zW.1 hn;simp[SX,this,Ex.aB,Ex.cells]
  | succ n =>
   have:e.kids.take (n+1)=e.kids:=zZ (by omega);simp[SX,hn,this,Ex.cells,← List.map_take]
 ·intro i hi;have h3:=zX hi;have hc:=ih _ (zV h3);have r2:=Ex.aN h3;generalize e.kids[i]=a at h3 hc r2;have w2:IntKind.i64.wrap ((i:Int)+1)=i+1:=wrO;by_cases h0:i=0
  ·subst h0;simp[SX,hi,r2,hc,dE,aJ h3,Ex.aB]
  ·simp[SX,aP h0,aM h0,bY h0,hi,r2,hc,w2,aJ h3,Ex.aW,show min i e.kids.length=i by omega,show(i+1)*56≤140737488355328 by omega,← List.map_take,zK]
theorem kT (l:List Ex) (hlt:∀ b∈l,b.thin):∀ (e:Ex),e.thin→e.T9 l.length→aI C0 138 [.i (.agg e.cells), .i (.isl (Ex.aB l))] []=some (.i (.agg (e.sub l).cells),[]):=by
 intro e
 induction e using Ex.ind with
 | h k c v ks ih =>
  intro ht hc;have ht':=(Ex.bI _).1 ht;have hc':=(Ex.PV _ _).1 hc;by_cases hk:k=1
  ·obtain⟨h0,h1⟩:=hc'.1 hk;have hi:c.toNat<l.length:=by simp[Ex.col]at h0 h1;omega
   have hb:=zX hi;rw[Ex.tH l (e:=.mk k c v ks) hk hb];exact tH hk h0 hb (hlt _ (xN hi))
  ·rw[Ex.tF l (e:=.mk k c v ks) hk];exact AE4 hk ht'.1 fun a ha=>ih a ha (ht'.2 a ha) (hc'.2 hk a ha)
def HX (e:Ex) (i:Nat):AS :=
 { env:=[(0, .i (.iref [.int e.kind, .int e.col, .bool e.val.null, .int e.val.n, .isl (Ex.aB e.kids)])),(2, .int 0),(3, .int (Ex.htL (e.kids.take i):Nat)),(4,jk i (.int (i-1))),(9, .int e.kids.length),(10, .int i),(11,jk i (.bool true))],st:=[] }
theorem S9 {e:Ex} (hs:e.size<1000000000) (ih:∀ k∈e.kids,aI C0 179 [.i (.iref k.cells)] []=some (.int (k.ht:Nat),[])) :
 aI C0 179 [.i (.iref e.cells)] []=some (.int (e.ht:Nat),[]):=by
 rw[aD rfl Tryz.func179 rfl rfl,Ex.aA];simp;have hl:=Ex.bM e.kids;rw[Ex.size_eq]at hs;rw[aS (HX e) e.kids.length (by simp[HX,Ex.htL])]
 ·rw[aG];simp[HX,Ex.AFI e]
 ·intro i hi;have h3:=zX hi;have hm:=zV h3;have hc:=ih _ hm;have r2:=Ex.aN h3;have hz:=Ex.gT hm;generalize e.kids[i]=a at h3 hc r2 hz;have ha:=Ex.ABJ a;have w2:IntKind.i64.wrap ((i:Int)+1)=i+1:=wrO;have w1:IntKind.i64.wrap (1+(a.ht:Int))=1+a.ht:=wrO;rw[Ex.aA]at hc r2;have hmax:Ex.htL (e.kids.take (i+1))=max (Ex.htL (e.kids.take i)) (1+a.ht):=by rw[aJ h3,Ex.UT]
  by_cases hg:1+a.ht > Ex.htL (e.kids.take i)
  ·simp[HX,hi,r2,hc,w1,w2,hmax,show max (Ex.htL (e.kids.take i)) (1+a.ht)=1+a.ht by omega,show(Ex.htL (e.kids.take i):Int)<1+a.ht by omega]
  ·simp[HX,hi,r2,hc,w1,w2,hmax,show max (Ex.htL (e.kids.take i)) (1+a.ht)=Ex.htL (e.kids.take i)by omega,show ¬ (Ex.htL (e.kids.take i):Int)<1+a.ht by omega]
theorem ABO:∀ (e:Ex),e.size<1000000000→aI C0 179 [.i (.iref e.cells)] []=some (.int (e.ht:Nat),[]):=by
 intro e
 induction e using Ex.ind with
 | h k c v ks ih =>
  intro hs;exact S9 hs fun a ha=>ih a ha (by have:=Ex.gT ha;simp only[Ex.size,Ex.kids]at hs this;omega)
theorem AFO {e:Ex} {hs:List Nat} {n:Int} (hn:n<0):aI C0 180 [.i (.iref e.cells), .i (.isl (nS hs)), .int n] []=some (.bool false,[]):=by
 rw[aD rfl Tryz.func180 rfl rfl,Ex.aA];simp[hn]
theorem AFP {e:Ex} {hs:List Nat} {n:Int} {h:Nat} (hn:0≤n) (hk:e.kind=1) (hks:e.kids=[]) (h0:0≤e.col) (hh:hs[e.col.toNat]?=some h) :
 aI C0 180 [.i (.iref e.cells), .i (.isl (nS hs)), .int n] []=some (.bool (decide ((h:Int)≤n)),[]):=by
 rw[aD rfl Tryz.func180 rfl rfl,Ex.aA];have r2:=OI hh;have r1:=(zY.1 hh).1;by_cases hc:n<h
 ·simp[xG.2 hn,hk,h0,r2,hc,show e.col<hs.length by omega]
 ·simp[xG.2 hn,hk,h0,r2,hc,xG.1 hc,show e.col<hs.length by omega,hks,Ex.aB];rw[aG];simp
def FX (e:Ex) (hs:List Nat) (n:Int) (i:Nat):AS :=
 { env:=[(0, .i (.iref [.int e.kind, .int e.col, .bool e.val.null, .int e.val.n, .isl (Ex.aB e.kids)])),(1, .i (.isl (nS hs))),(2, .int n),(6, .bool false),(7,jk i (.int (i-1))),(27, .bool false),(32, .int e.kids.length),(33, .int i),(34,jk i (.bool true)),(46,jk i (.bool false))],st:=[] }
theorem ABS {e:Ex} {hs:List Nat} {n:Int} (hn:0≤n) (hn8:n≤8) (hl:e.kids.length<1000000000) (hk:e.kind≠1)
 (ih:∀ k∈e.kids,aI C0 180 [.i (.iref k.cells), .i (.isl (nS hs)), .int (n-1)] []=some (.bool (decide ((k.htS hs:Int)≤n-1)),[])) :
  aI C0 180 [.i (.iref e.cells), .i (.isl (nS hs)), .int n] []=some (.bool (e.kids.all fun k=>decide ((k.htS hs:Int)≤n-1)),[]):=by
 rw[aD rfl Tryz.func180 rfl rfl,Ex.aA];simp[xG.2 hn,hk];obtain⟨j,h1,h2⟩:=gK (fun k:Ex=>decide ((k.htS hs:Int)≤n-1)) e.kids;have w1:IntKind.i64.wrap (n-1)=n-1:=wrO;rw[aS (FX e hs n) j (by simp[FX])]
 ·rw[aG]
  rcases h2 with ⟨hj,ha⟩|⟨k,h3,h4,h5,ha⟩
  ·simp[FX,hj,ha]
  ·have r1:=(zY.1 h3).1;have r2:=Ex.aN h3;have r3:=ih k h4;rw[Ex.aA]at r2 r3;rw[h5]at r3;simp[FX,r1,ha,r2,r3,w1]
 ·intro i hi;obtain⟨k,h3,h4,h5⟩:=h1 i hi;have r1:=(zY.1 h3).1;have r2:=Ex.aN h3;have r3:=ih k h4;have w2:IntKind.i64.wrap ((i:Int)+1)=i+1:=wrO;rw[Ex.aA]at r2 r3;rw[h5]at r3;simp[FX,r1,r2,r3,w1,w2]
theorem AKM {m:Int} {hs:List Nat} (hm:m=hs.length):∀ (e:Ex),e.wf m=true→e.size<1000000000→∀ n:Int,n≤8→aI C0 180 [.i (.iref e.cells), .i (.isl (nS hs)), .int n] []=some (.bool (decide ((e.htS hs:Int)≤n)),[]):=by
 intro e
 induction e using Ex.ind with
 | h k c v ks ih =>
  intro hw hs' n hn;by_cases h0:n<0
  ·rw[AFO h0,show decide ((Ex.htS hs (.mk k c v ks):Int)≤n)=false by simp;omega]
  ·by_cases hk:k=1
   ·obtain⟨c0,c1,ck⟩:=Ex.sM hw hk;have hi:c.toNat<hs.length:=by simp[Ex.col]at c0 c1;omega
    have hb:=zX hi;rw[Ex.ABL hs (e:=.mk k c v ks) (h:=hs[c.toNat]) hk hb];exact AFP (by omega) hk ck c0 hb
   ·have hl:=Ex.bM ks;have hsz:Ex.aQ ks<1000000000:=by simp[Ex.size]at hs';omega
    have hn0:=xG.1 h0;rw[ABS (e:=.mk k c v ks) (n:=n) hn0 hn (by simp only[Ex.kids];omega) hk fun x hx=>ih x hx (Ex.mU hw hx) (by have:=Ex.gT hx;simp only[Ex.kids]at this;omega) (n-1) (by omega)];rw[Ex.ABK hs (e:=.mk k c v ks) hk]
    suffices hsf:(ks.all fun x=>decide ((x.htS hs:Int)≤n-1))=decide ((Ex.ADC hs ks:Int)≤n)by simp only[Ex.kids];rw[hsf];rfl
    rw[zA5];have:=Ex.ABM hs (n:=n.toNat) ks;simp only[zO,zL];constructor
    ·intro h;have h2:=this.2 fun x hx=>by have:=h x hx;omega
     omega
    ·intro h x hx;have h2:=this.1 (by omega) x hx;omega
@[simp] theorem PR {e:Ex} (h:e.size<1000000000):aI C0 92 [.i (.iref e.cells)] []=some (.i (.agg e.cells),[]):=by
  rw[bK (p:=HV) rfl];exact V9 h
theorem AE6 {e b:Ex} {l:List Ex} (hk:e.kind=1) (h0:0≤e.col) (hb:l[e.col.toNat]?=some b) (hs:b.size<1000000000) :
 aI C0 181 [.i (.iref e.cells), .own 0 0] [some (.box [.i (.isl (Ex.aB l))])]=some (.i (.agg b.cells),[some (.box [.i (.isl (Ex.aB l))])]):=by
 rw[aD rfl Tryz.func181 rfl rfl];have hc:=PR hs;have r2:=Ex.aN hb;have r1:=(zY.1 hb).1;rw[Ex.aA]at hc r2 ⊢;rw[Ex.aA];simp[hk,h0,r2,hc,show e.col<l.length by omega]
theorem AE5 {e:Ex} {l:List Ex} (hk:e.kind≠1) (hs:e.size<1000000000) :
 aI C0 181 [.i (.iref e.cells), .own 0 0] [some (.box [.i (.isl (Ex.aB l))])]=some (.i (.agg e.cells),[some (.box [.i (.isl (Ex.aB l))])]):=by
 rw[aD rfl Tryz.func181 rfl rfl];have hc:=PR hs;rw[Ex.aA]at hc ⊢;simp[hk,hc]
def Z0:List IV:=[.int 0, .int 0, .bool false, .int 0, .isl []]
def RX (e:Ex) (l:List Ex) (f:Ex→Ex) (i:Nat):AS :=
 { env:=[(0, .i (.iref [.int e.kind, .int e.col, .bool e.val.null, .int e.val.n, .isl (Ex.aB e.kids)])),(1, .fn (.func 181) [.own 0 0]),(4, .own 1 0),(5, .own 2 0),(6,jk i (.int (i-1))),(12, .bool ((e.kids.length:Int) == 0)),(39, .int e.kids.length),(40, .int i),(41,jk i (.bool true))],
   st:=[some (.box [.i (.isl (Ex.aB l))]),some (.box [.int 0, .int 0, .bool false, .int 0, .nils]),some (.box [.int e.kind, .int e.col, .bool e.val.null, .int e.val.n, .osl 3 5 0 e.kids.length]),some (.arr 5 (Ex.aB ((e.kids.map f).take i)++List.replicate (e.kids.length-i) Z0))] }
theorem AEQ {e:Ex} {l:List Ex} {f:Ex→Ex} (hk:e.kids≠[]) (hl:e.kids.length<1000000000) (ih:∀ a∈e.kids,aI C0 176 [.i (.iref a.cells), .fn (.func 181) [.own 0 0]] [some (.box [.i (.isl (Ex.aB l))])]=some (.i (.agg (f a).cells),[some (.box [.i (.isl (Ex.aB l))])])) :
 aI C0 176 [.i (.iref e.cells), .fn (.func 181) [.own 0 0]] [some (.box [.i (.isl (Ex.aB l))])]=some (.i (.agg (Ex.mk e.kind e.col e.val (e.kids.map f)).cells),[some (.box [.i (.isl (Ex.aB l))])]):=by
 rw[aD rfl Tryz.func176 rfl rfl,Ex.aA];have hb:56*(e.kids.length:Int)≤281474976710656:=by omega
 simp[hk,hb];rw[aS (RX e l f) e.kids.length (by simp[RX,Ex.aB,Z0])]
 ·rw[aG];have ht:(e.kids.map f).take e.kids.length=e.kids.map f:=zZ (by simp);simp[RX,Ex.cells,ht]
 ·intro i hi;have h3:=zX hi;have hm:=zV h3;have hc:=ih _ hm;have r2:=Ex.aN h3;generalize e.kids[i]=a at h3 hc r2;have w2:IntKind.i64.wrap ((i:Int)+1)=i+1:=wrO;rw[Ex.aA]at hc r2;have hD:(Ex.aB ((e.kids.map f).take i)).length=i:=by simp;omega
  have hS:Ex.aB ((e.kids.map f).take i)++[(f a).cells]=Ex.aB ((e.kids.map f).take (i+1)):=by rw[aJ (a:=f a) (by simp[h3]),Ex.aW]
  have g1:=rR (n:=e.kids.length) (z:=Z0) hD hi;have g2:=rQ (n:=e.kids.length) (z:=Z0) (x:=(f a).cells) hD hi;have g3:splice Z0 0 (f a).cells=some (f a).cells:=l7 (by simp[Z0]);rw[hS]at g2;simp[RX,hi,r2,hc,w2,g1,g2,g3]
theorem U8 {e x:Ex} {l:List Ex} (hk:e.kids=[]) (h:aI C0 181 [.i (.iref e.cells), .own 0 0] [some (.box [.i (.isl (Ex.aB l))])]=some (.i (.agg x.cells),[some (.box [.i (.isl (Ex.aB l))])])) :
 aI C0 176 [.i (.iref e.cells), .fn (.func 181) [.own 0 0]] [some (.box [.i (.isl (Ex.aB l))])]=some (.i (.agg x.cells),[some (.box [.i (.isl (Ex.aB l))])]):=by
 rw[aD rfl Tryz.func176 rfl rfl];rw[Ex.aA e]at h ⊢;rw[Ex.aA x]at h ⊢;simp[hk,Ex.aB]at h ⊢;simp[h]
theorem O3 {m:Int} (l:List Ex) (hm:m=l.length) (hl:∀ b∈l,b.size<1000000000):∀ (e:Ex),e.wf m=true→e.size<1000000000 →
 aI C0 176 [.i (.iref e.cells), .fn (.func 181) [.own 0 0]] [some (.box [.i (.isl (Ex.aB l))])]=some (.i (.agg (e.sub l).cells),[some (.box [.i (.isl (Ex.aB l))])]):=by
 intro e
 induction e using Ex.ind with
 | h k c v ks ih =>
  intro hw hs;have hsz:=hs;rw[Ex.size_eq]at hsz;have hkl:=Ex.bM ks;by_cases hk:k=1
  ·obtain⟨c0,c1,ck⟩:=Ex.sM hw hk;have hi:c.toNat<l.length:=by simp[Ex.col]at c0 c1;omega
   have hb:=zX hi;rw[Ex.tH l (e:=.mk k c v ks) hk hb];exact U8 ck (AE6 (e:=.mk k c v ks) hk c0 hb (hl _ (xN hi)))
  ·cases ks with
   | nil =>
    have hn:=AE5 (e:=.mk k c v []) (l:=l) hk hs;rw[Ex.tF l (e:=.mk k c v []) hk];exact U8 (e:=.mk k c v []) rfl hn
   | cons a ks =>
    rw[Ex.tF l (e:=.mk k c v (a::ks)) hk];refine AEQ (e:=.mk k c v (a::ks)) (by simp[Ex.kids]) (by simp only[Ex.kids]at hsz ⊢;omega) fun x hx=>ih x hx (Ex.mU hw hx) ?_
    have:=Ex.gT hx;omega
end Go.Proofs.YtjdfjgmebalaaaaGreat
namespace Go.Av
def Ex.subst (e:Ex) (l:List Ex) (w:Int):Option Ex:=if e.ok l.length && (l.all (Ex.ok w) && (e.sub l).ok w)then some (e.sub l)else none
def AJC:Option Ex→AV
 | some e=>.tup [.i (.agg e.cells), .bool true]
 | none=>.tup [.i (.agg Ex.zero.cells), .bool false]
theorem aT:Ex.zero.cells=[.int 0, .int 0, .bool false, .int 0, .isl []]:=by simp[Ex.zero,Ex.cells,Ex.aB,Val.zero]
end Go.Av
namespace Go.Proofs.YtjdfjgmebalaaaaGreat
open Go Go.Av
set_option maxRecDepth 4000
theorem AK1 {e:Ex} {l:List Ex} {w:Int} (h:e.ok l.length=false):aI C0 158 [.i (.agg e.cells), .i (.isl (Ex.aB l)), .int w] []=some (AJC (e.subst l w),[]):=by
 rw[aD rfl Tryz.func158 rfl rfl];have hc:=ok_eq l.length e;rw[h]at hc;rw[Ex.aA e]at hc ⊢;simp[hc,Ex.subst,h,AJC,aT]
theorem JL:∀ (hs:List Nat) (h:Nat),nS hs++[[.int h]]=nS (hs++[h])
 | [],_=>rfl
 | _::hs,h=>by simp[nS,JL hs h]
def IX (e:Ex) (l:List Ex) (w:Int) (i:Nat):AS :=
 { env:=[(0, .i (.agg [.int e.kind, .int e.col, .bool e.val.null, .int e.val.n, .isl (Ex.aB e.kids)])),(1, .i (.isl (Ex.aB l))),(2, .int w),(3, .own 0 0),(4, .own 1 0),(6, .own 2 0),(7, .bool false),(8, .osl 3 1 0 l.length),(9,jk i (.int (i-1))),(14, .bool false),(20, .int l.length),(21, .int i),(22,jk i (.bool true)),(30,jk i (.bool false)),(42, .junk)],
   st:=[some (.box [.int e.kind, .int e.col, .bool e.val.null, .int e.val.n, .i (.isl (Ex.aB e.kids))]),some (.box [.i (.isl (Ex.aB l))]),some (.box [.int 0, .int 0, .bool false, .int 0, .nils]),some (.arr 1 (nS ((l.map Ex.ht).take i)++List.replicate (l.length-i) [.int 0]))] }
theorem AK2 {e:Ex} {l:List Ex} {w:Int} (h:e.ok l.length=true):aI C0 158 [.i (.agg e.cells), .i (.isl (Ex.aB l)), .int w] []=some (AJC (e.subst l w),[]):=by
 rw[aD rfl Tryz.func158 rfl rfl];have hc:=ok_eq l.length e;rw[h]at hc;have hw:1≤(l.length:Int)∧(l.length:Int)≤6:=by simp[Ex.ok,bJ]at h;omega
 have hwf:e.wf l.length=true:=by simp[Ex.ok,Ex.NG]at h;exact h.2.1
 have hsz:=Ex.gP h;rw[Ex.aA e]at hc ⊢;have hb:8*(l.length:Int)≤281474976710656:=by omega
 simp[hc,hb];obtain⟨j,h1,h2⟩:=gK (Ex.ok w) l;rw[aS (IX e l w) j (by simp[IX,nS])]
 ·rw[aG]
  rcases h2 with ⟨hj,ha⟩|⟨k,h3,h4,h5,ha⟩
  ·have ht:(l.map Ex.ht).take l.length=l.map Ex.ht:=zZ (by simp);have ht2:(nS (l.map Ex.ht)).take l.length=nS (l.map Ex.ht):=zZ (by simp);have hf:=AKM (m:=l.length) (hs:=l.map Ex.ht) (by simp) e hwf (by omega) 8 (by omega);have hr:=O3 (m:=l.length) l rfl (fun b hb=>by have:=Ex.gP (zO.1 ha b hb);omega) e hwf (by omega)
   have hwl:∀ b∈l,b.wf w=true:=fun b hb=>by
    have:=zO.1 ha b hb;simp[Ex.ok,Ex.NG]at this;exact this.2.1
   have hww:bJ w=true:=by
    cases l with
    | nil=>simp at hw
    | cons b l=>simp[Ex.ok]at ha;exact ha.1.1
   have hq:(e.sub l).ok w=decide ((e.htS (l.map Ex.ht):Int)≤8):=by
    simp only[Ex.ok,Ex.NG,Ex.AMN (m:=l.length) l rfl hwl e hwf,Ex.APA (w:=l.length) l rfl e hwf,hww,Bool.true_and];rw[zA5];simp;omega
   rw[Ex.aA e]at hf hr;rw[← hq]at hf
   cases hq':(e.sub l).ok w with
   | true=>rw[hq']at hf;simp[IX,hj,ht,ht2,hf,hr,Ex.subst,h,ha,hq',AJC]
   | false=>rw[hq']at hf;simp[IX,hj,ht,ht2,hf,Ex.subst,h,ha,hq',AJC,aT]
  ·have r1:=(zY.1 h3).1;have r2:=Ex.aN h3;have r3:=ok_eq w k;rw[h5]at r3;simp[IX,r1,r2,r3,Ex.subst,h,ha,AJC,aT]
 ·intro i hi;obtain⟨k,h3,h4,h5⟩:=h1 i hi;have r1:=(zY.1 h3).1;have r2:=Ex.aN h3;have r3:=ok_eq w k;have w2:IntKind.i64.wrap ((i:Int)+1)=i+1:=wrO;have hh:=ABO k (by have:=Ex.gP h5;omega);rw[h5]at r3;have hD:(nS ((l.map Ex.ht).take i)).length=i:=by simp;omega
  have g1:=rR (n:=l.length) (z:=[IV.int 0]) hD r1;have g2:=rQ (n:=l.length) (z:=[IV.int 0]) (x:=[IV.int k.ht]) hD r1;rw[JL,← aJ (a:=k.ht) (by simp[h3])]at g2;simp[IX,r1,r2,r3,w2,hh,g1,g2]
end Go.Proofs.YtjdfjgmebalaaaaGreat
namespace Go.Av
end Go.Av
namespace Go.Proofs.YtjdfjgmebalaaaaGreat
open Go Go.Av
set_option maxRecDepth 4000
set_option maxHeartbeats 1000000
end Go.Proofs.YtjdfjgmebalaaaaGreat
namespace Go.Av
end Go.Av
namespace Go.Proofs.YtjdfjgmebalaaaaGreat
open Go Go.Av
set_option maxRecDepth 4000
set_option maxHeartbeats 1000000
end Go.Proofs.YtjdfjgmebalaaaaGreat
namespace Go.Av
def Ac0 (i:Nat):Ex:=.mk 1 i Val.zero []
def ASW (n:Nat):List Ex:=(List.range n).map Ac0
def AFL (o:Option Ex):Ex:=o.getD Ex.zero
theorem AJB (o:Option Ex):AJC o=.tup [.i (.agg (AFL o).cells), .bool o.isSome]:=by cases o<;>rfl
end Go.Av
namespace Go.Proofs.YtjdfjgmebalaaaaGreat
open Go Go.Av
set_option maxRecDepth 4000
set_option maxHeartbeats 1000000
theorem ABC (e:Ex) (l:List Ex) (w:Int):aI C0 158 [.i (.agg e.cells), .i (.isl (Ex.aB l)), .int w] []=some (.tup [.i (.agg (AFL (e.subst l w)).cells), .bool (e.subst l w).isSome],[]):=by
 rw[← AJB]
 cases h:e.ok l.length with
 | true=>exact AK2 h
 | false=>exact AK1 h
def WX (code:List UInt8) (e:Ex) (l:List Ex) (w:Int) (i:Nat):AS :=
 { env:=[(0, .i (.isl (nV code))),(2, .bool false),(3, .own 0 0),(4, .i (.isl (Ex.aB l))),(5, .int w),(6, .own 1 0),(7, .bool (e.subst l w).isSome),(8, .own 2 0),(9, .bool (e.subst l w).isSome),(10, .osl 3 5 0 i),(11, .int i),(12, .junk),(13, .junk),(16, .bool false),(52, .bool false),(65,jk i (.bool true))],
   st:=[some (.box (lW e.cells)),some (.box (lW (AFL (e.subst l w)).cells)),some (.box (lW (AFL (e.subst l w)).cells)),some (.arr 5 (Ex.aB (ASW i)))] }
noncomputable def C1:Ctx:={ P:=Tryz.prog,G:=GS,ownArgs:=cK,keepRes:=keepR,eqT:=GZ,prim:=fun _=>none }
@[simp] theorem AhJ:C1.P=Tryz.prog:=(rfl)
@[simp] theorem AhK (f):C1.G f=GS f:=(rfl)
@[simp] theorem AhG (f):C1.ownArgs f=cK f:=(rfl)
@[simp] theorem AhH (f):C1.keepRes f=keepR f:=(rfl)
@[simp] theorem AhI (f):C1.eqT f=GZ f:=(rfl)
@[simp] theorem AhF:C1.tree=false:=(rfl)
theorem AKQ:aI C1 91 [.i (.isl [])] []=some (.nils,[]):=by
 rw[aD rfl Tryz.func91 rfl rfl];simp
theorem AFY {ks:List Ex} (h:ks≠[]) (hl:ks.length<1000000000):aI C1 91 [.i (.isl (Ex.aB ks))] []=some (.osl 0 5 0 ks.length,[some (.arr 5 (Ex.aB ks))]):=by
 rw[aD rfl Tryz.func91 rfl rfl];have h1:56*(ks.length:Int)≤281474976710656:=by omega
 simp[h,h1];unfold over;simp
theorem pU:SoundOk C1:=rF (C:=C1) ft nt eqS mo (AAF fun _=>rfl)
def ptr (p:Nat×Nat):IV:=.lit (.pointer (some ⟨p.1,p.2,none⟩))
def zc:List AV:=[.int 0, .int 0, .bool false, .int 0, .nils]
def ALF (p:Nat×Nat):AS:={ env:=[(0, .i (ptr p))],st:=[] }
def AT4 (e:Ex) (p:Nat×Nat):AS:={ env:=[(0, .i (ptr p)),(2, .own 0 0),(3, .own 1 0),(4, .junk),(5, .junk),(6, .junk),(13, .junk),(37, .junk),(38, .junk),(39, .junk)],st:=[some (.box zc),some (.box (lW e.cells))] }
def SL (b3:Nat) (todo X:KL):AS :=
 { env:=[(0, .junk),(2, .own 0 0),(3, .i (ptr (b3,0))),(4, .osl 1 1 0 todo.length),(5, .junk),(6, .junk),(13, .junk),(37, .junk),(38, .junk),(39, .junk)],st:=[some (.box zc),some (.arr 1 ((todo++X).map fun k=>[ptr k.1]))] }
theorem AAE:∀ (l:KL),∀ c∈(l.map fun k=>[ptr k.1]).flatten,∃ v,c=.lit v
 | [],c,h=>by simp at h
 | k::l,c,h=>by
  simp only[yR,zA,zU,List.mem_singleton]at h
  rcases h with rfl|h
  ·exact⟨_,rfl⟩
  ·exact AAE l c h
def PP (b3:Nat) (b o n:Nat) (x:Ex) (ES:List (List IV)) (env:Nat→AV) (st:Store):Prop :=
 env 2=.own 0 0∧env 3=.i (ptr (b3,0))∧env 4=.osl 1 1 0 n∧env 5=.i (ptr (b,o))∧env 32=.i (ptr (b,o+4))∧st 0=some (.box zc)∧st 1=some (.arr 1 ES) ∧
  ((env 30=.nils∧x.kids=[])∨∃ id,env 30=.osl id 5 0 x.kids.length∧x.kids≠[]∧st id=some (.arr 5 (Ex.aB x.kids))∧2≤id)
theorem AI9:IntKind.i64.wrap 1=1:=wrO
def RW (init:KL) (b' i:Nat):List (List IV):=(init.map fun k=>[ptr k.1])++(List.range i).map fun j=>[ptr (b',j*5)]
theorem AI7 (init:KL) (b' i:Nat):(RW init b' i).length=init.length+i:=by simp[RW]
theorem AD0 (init:KL) (b' i:Nat):RW init b' i++[[ptr (b',i*5)]]=RW init b' (i+1):=by simp[RW,zB3]
theorem JS (b:Nat):∀ (o:Nat) (l:List Ex),(iJ b o l).map (fun k=>[ptr k.1])=(List.range l.length).map fun j=>[ptr (b,o+j*5)]
 | _,[]=>by simp[iJ]
 | o,a::l=>by
  simp only[iJ,yR,JS b (o+5) l,zM,List.range_succ_eq_map,List.map_map];simp only[List.cons.injEq,Nat.zero_mul,xB,true_and];apply List.map_congr_left;intro j _;simp only[Function.comp,Nat.succ_eq_add_one];rw[show o+5+j*5=o+(j+1)*5 by omega]
theorem JU (b:Nat):∀ (o:Nat) (l:List Ex),(iJ b o l).length=l.length
 | _,[]=>rfl
 | o,a::l=>by simp[iJ,JU b (o+5) l]
theorem JR (b:Nat):∀ (o:Nat) (l:List Ex),((iJ b o l).map fun k=>k.2.size).sum=Ex.aQ l
 | _,[]=>rfl
 | o,a::l=>by simp[iJ,Ex.aQ,JR b (o+5) l]
def YS (b3 b' cap:Nat) (x:Ex) (init:KL) (ES:List (List IV)) (i:Nat):AS :=
 { env:=[(0, .junk),(2, .own 0 0),(3, .i (ptr (b3,0))),(4,if i=0 then .osl 1 1 0 init.length else .osl 2 1 0 (init.length+i)),(5, .i (.iref [.int x.kind, .int x.col, .bool x.val.null, .int x.val.n, .lit (.slice (some ⟨b',0,none⟩) x.kids.length cap)])),(6,jk i (.int (i-1))),(13, .junk),(37, .int x.kids.length),(38, .int i),(39,jk i (.bool true))],
   st:=some (.box zc)::if i=0 then [some (.arr 1 ES)]else [none,some (.arr 1 (RW init b' i))] }
set_option maxHeartbeats 1000000
theorem PS {e:Ex} (he:e.size<1000000000) {wi:World} {mi:Mem} {b o:Nat} (hi:Inv wi mi (fun _=>none) (bF []))
 (hrun:∀ w',wi.heap.size≤w'.heap.size→(∀ f,f<wi.heap.size→w'.heap[f]?=wi.heap[f]?)→∃ y,(Instr.loadAt 115 (.pointer (some ⟨b,o,none⟩))).run C1.P w'=.ok y w'∧IRep mi (.agg e.cells) y) :
 Calls Tryz.prog 92 #[.pointer (some ⟨b,o,none⟩)] wi (eZ wi mi (fun _=>none) (.i (.agg e.cells)) []):=by
 refine calls_of_wp (fn:=Tryz.f92) Tryz.func92 rfl ?_
 have g0:GG wi mi 52 (fun id=>id<(ALF (b,o)).st.length) [] (aZ (ALF (b,o)).env) (bF (ALF (b,o)).st) { tmps:=[Value.pointer (some ⟨b,o,none⟩)].toArray++Array.replicate (52-1) undef,defers:=[] } wi:=by
  refine⟨⟨mi,fun _=>none,hi,?_, .refl _ _ _,fun id h=>absurd rfl h,fun k hk=>by simp at hk⟩,by simp,rfl⟩;intro t;have:=H5 (m:=mi) (φ:=fun _=>none) (52-1) (show RepL mi (fun _=>none) [.i (ptr (b,o))] [.pointer (some ⟨b,o,none⟩)]from .cons (.i (.lit _)) .nil) t
  cases t with
  | zero=>simpa [ALF,aZ,I6]using this
  | succ t=>simp only[ALF,aZ];simp;exact .junk _
 refine wp_seq (wp_mono (GG.lQ pU (G:=GS 92) (S:=ALF (b,o)) (e:=.normal) (S':={ env:=[(0, .i (ptr (b,o))),(2, .own 0 0),(3, .junk),(4, .junk),(5, .junk),(6, .junk),(13, .junk),(37, .junk),(38, .junk),(39, .junk)],st:=[some (.box zc)] }) (by kernel_rfl) (by simp[ALF,zc,ptr]) g0) ?_);rintro _ a1 w1 ⟨rfl,g1⟩
 refine wp_seq (GG.AJE pU (os1:=[_,_]) (os2:=[_,_]) (G:=GS 92) (S:={ env:=[(0, .i (ptr (b,o))),(2, .own 0 0),(3, .junk),(4, .junk),(5, .junk),(6, .junk),(13, .junk),(37, .junk),(38, .junk),(39, .junk)],st:=[some (.box zc)] }) (S':=AT4 e (b,o)) rfl (by
  have h:∀ ops:Array Oper,ops.all (jK 52)=true→∀ o∈ops,jK 52 o=true:=fun ops h o ho=>yF.1 h o ho
  exact h _ (by kernel_rfl)) g1 (by decide) hrun ?_ ?_)
 ·rw[Ex.aA];simp[AT4,zc,ptr,Ex.aA]
 intro a2 w2 g2
 obtain⟨b3,g3⟩:=g2.pub (u:=3) (id:=1) (e:=e) (st':=bF [some (.box zc)]) (ok':=fun id=>id<1) rfl rfl (by
  intro i blk h
  cases i with
  | zero=>simp[bF]at h;subst h;exact⟨by omega,rfl,by simp[iM,zc]⟩
  | succ i=>simp[bF]at h) (by
  intro i h
  cases i with
  | zero=>omega
  | succ i=>simp[bF]at h)
 have g3:=g3 (aZ [(2, .own 0 0),(3, .i (ptr (b3,0)))]) (by
  intro t;simp only[aZ];by_cases h2:t=2
  ·subst h2;exact .inr (.inr ⟨rfl,by simp[AT4,aZ,l6,bF]⟩)
  ·by_cases h3:t=3
   ·subst h3;exact .inr (.inl ⟨rfl,rfl⟩)
   ·simp[h2,h3])
 refine wp_seq (wp_mono (GG.lQ pU (G:=GS 92) (S:={ env:=[(2, .own 0 0),(3, .i (ptr (b3,0)))],st:=[some (.box zc)] }) (e:=.normal) (S':=SL b3 [((b3,0),e)] []) (by kernel_rfl) (by simp[SL,ptr,zc]) g3) ?_);rintro _ a3 w3 ⟨rfl,g4⟩;refine wp_seq (wp_block ?_);refine ED (fun n a w=>∃ todo X K:KL,(∀ k∈todo,k∈K)∧((b3,0),e)∈K∧(todo.map fun k=>k.2.size).sum=n∧n<1000000000∧GG wi mi 52 (fun id=>id<(SL b3 todo X).st.length) K (aZ (SL b3 todo X).env) (bF (SL b3 todo X).st) a w) ?_ (n:=e.size) ⟨[((b3,0),e)],[],[((b3,0),e)],fun k hk=>hk,by simp,by simp,he,g4⟩;rintro n a w ⟨todo,X,K,hsub,hb3,hsum,hn,g⟩
 rcases List.eq_nil_or_concat todo with rfl|⟨init,k,rfl⟩
 ·refine wp_mono (GG.lQ pU (G:=GS 92) (S:=SL b3 [] X) (e:=.exit 0) (S':={ env:=[(0, .junk),(2, .own 0 0),(3, .i (ptr (b3,0))),(4, .osl 1 1 0 0),(5, .junk),(6, .junk),(13, .bool false),(37, .junk),(38, .junk),(39, .junk)],st:=[some (.box zc),some (.arr 1 (X.map fun k=>[ptr k.1]))] }) (by kernel_rfl) (by simp[SL,ptr,zc]) g) ?_;rintro _ a5 w5 ⟨rfl,g5⟩;simp only[kG,Exit.then,Exit.inBlock,if_true]
  have g6:=(g5.see (u:=3) (b:=b3) (o:=0) rfl hb3).envTo (env':=aZ [(2, .own 0 0),(3, .i (.iref e.cells))]) (by
   intro t;simp only[aZ,upd];by_cases h2:t=2
   ·subst h2;simp
   ·by_cases h3:t=3
    ·subst h3;simp
    ·simp[h2,h3])
  refine wp_mono (GG.lQ pU (G:=GS 92) (S:={ env:=[(2, .own 0 0),(3, .i (.iref e.cells))],st:=[some (.box zc),some (.arr 1 (X.map fun k=>[ptr k.1]))] }) (e:=.ret) (S':={ env:=[(0, .junk),(2, .own 0 0),(3, .i (.iref e.cells)),(4, .junk),(5, .junk),(6, .junk),(13, .junk),(37, .junk),(38, .junk),(39, .junk)],st:=[some (.box (lW e.cells)),some (.arr 1 (X.map fun k=>[ptr k.1]))] }) (by kernel_rfl) (by simp[zc]) g6) ?_;rintro _ a6 w6 ⟨rfl,g7⟩;obtain⟨⟨m,φ,q1,q2,q3,q4,q5⟩,q6,q7⟩:=g7
  obtain⟨v,k1,k2⟩:=mP (C:=C1) (fn:=Tryz.f92) (keep:=false) (na:=0) (S:={ env:=[(0, .junk),(2, .own 0 0),(3, .i (.iref e.cells)),(4, .junk),(5, .junk),(6, .junk),(13, .junk),(37, .junk),(38, .junk),(39, .junk)],st:=[some (.box (lW e.cells)),some (.arr 1 (X.map fun k=>[ptr k.1]))] }) (r:=.i (.agg e.cells)) (stl':=[]) (fun id h=>absurd rfl h) ⟨⟨⟨m,φ,q1,q2,q3,q4, .nil _ _ _⟩,q6,q7⟩,zB8 _⟩ (by
   show finish C1 false [ResultVar.cell 2 115] 0 _=_
   simp)
  exact⟨q7,v,k1,k2⟩
 ·clear g0 g4 g3 g1 g2;obtain⟨⟨b,o⟩,x⟩:=k
  have hlen:∀ l:KL,l.length≤(l.map fun k=>k.2.size).sum:=by
   intro l
   induction l with
   | nil=>simp
   | cons a l ih=>have:=Ex.kU a.2;simp;omega
  have hil:=hlen init;simp at hsum;have hxk:((b,o),x)∈K:=hsub _ (by simp);have hxs:=Ex.size_eq x;have hkl:=Ex.bM x.kids;have hne:¬ ((init.length:Int)+1≤0):=by omega
  have hpos:(0:Int)<(init.length:Int)+1:=by omega
  have w1:IntKind.i64.wrap (init.length:Int)=init.length:=wrO;generalize hES:((init++[((b,o),x)]++X).map fun k=>[ptr k.1])=ES
  have hnth:fJ ES init.length=some [ptr (b,o)]:=by
   rw[gH,← hES];simp
  have hlit:∀ c∈ES.flatten,∃ v,c=.lit v:=by rw[← hES];exact AAE _
  have hlt:(init.length:Int)<(init.length:Int)+1:=by omega
  have hlt2:(init.length:Int)≤(init.length:Int)+1:=by omega
  refine wp_seq (wp_mono (GG.lQ pU (G:=GS 92) (S:=SL b3 (init++[((b,o),x)]) X) (e:=.normal) (S':={ env:=[(0, .junk),(2, .own 0 0),(3, .i (ptr (b3,0))),(4, .osl 1 1 0 (init.length+1)),(5, .junk),(6, .junk),(13, .bool true),(37, .junk),(38, .junk),(39, .junk)],st:=[some (.box zc),some (.arr 1 ES)] }) (by kernel_rfl) (by simp only[SL,hES];simp[ptr,zc,hpos]) (by simpa using g)) ?_);rintro _ a5 w5 ⟨rfl,g5⟩;clear g;refine wp_block ?_;refine wp_seq (wp_mono (GG.lQ pU (G:=GS 92) (S:={ env:=[(0, .junk),(2, .own 0 0),(3, .i (ptr (b3,0))),(4, .osl 1 1 0 (init.length+1)),(5, .junk),(6, .junk),(13, .bool true),(37, .junk),(38, .junk),(39, .junk)],st:=[some (.box zc),some (.arr 1 ES)] }) (e:=.normal) (S':={ env:=[(0, .junk),(2, .own 0 0),(3, .i (ptr (b3,0))),(4, .osl 1 1 0 (init.length+1)),(5,(.i (ptr (b,o)))),(6, .junk),(13, .bool true),(37, .junk),(38, .junk),(39, .junk)],st:=[some (.box zc),some (.arr 1 ES)] }) (by kernel_rfl) (by simp only[ptr]at hnth;simp[ptr,zc,hnth,w1,hlt]) g5) ?_);rintro _ a6 w6 ⟨rfl,g6⟩;clear g5;refine wp_seq (wp_mono (GG.lQ pU (G:=GS 92) (S:={ env:=[(0, .junk),(2, .own 0 0),(3, .i (ptr (b3,0))),(4, .osl 1 1 0 (init.length+1)),(5,(.i (ptr (b,o)))),(6, .junk),(13, .bool true),(37, .junk),(38, .junk),(39, .junk)],st:=[some (.box zc),some (.arr 1 ES)] }) (e:=.normal) (S':={ env:=[(0, .junk),(2, .own 0 0),(3, .i (ptr (b3,0))),(4, .osl 1 1 0 init.length),(5,(.i (ptr (b,o)))),(6, .junk),(13, .bool true),(37, .junk),(38, .junk),(39, .junk)],st:=[some (.box zc),some (.arr 1 ES)] }) (by kernel_rfl) (by simp[ptr,zc,w1,hlt2]) g6) ?_);rintro _ a7 w7 ⟨rfl,g7⟩;clear g6
  refine wp_seq (GG.region pU (os1:=[_,_]) (os2:=[_,_,_,_,_,_]) (u:=26) (PP:=PP b3 b o init.length x ES) rfl (by
   have h:∀ ops:Array Oper,ops.all (jK 52)=true→∀ o∈ops,jK 52 o=true:=fun ops h o ho=>yF.1 h o ho
   exact h _ (by kernel_rfl)) g7 hxk ?_ ?_)
  ·rw[Ex.aA];by_cases hx:x.kids=[]
   ·simp[ptr,zc,hx,PP,Ex.aB,AKQ]
   ·simp[ptr,zc,PP,AFY hx (by omega),hx]
  ·rintro env st a8 w8 ⟨p2,p3,p4,p5,p32,q0,q1,p30⟩ g8;clear g7
   obtain⟨w9,b',ao,cap,e1,e2,hrun,hG⟩:=GG.turn (C:=C1) (ok':=fun id=>id<2) (st':=bF [some (.box zc),some (.arr 1 ES)]) (u:=30) (t:=31) g8 (by simp) hi.mem hxk rfl (by
    rcases p30 with ⟨h1,h2⟩|⟨id,h1,h2,h3,h4⟩
    ·refine .inl ⟨h1,h2,?_⟩;intro i blk h
     rcases i with _|_|i
     ·simp[bF]at h;subst h;exact q0
     ·simp[bF]at h;subst h;exact q1
     ·simp[bF]at h
    ·refine .inr ⟨id,h1,h2,h3,?_⟩;intro i blk h
     rcases i with _|_|i
     ·simp[bF]at h;subst h;exact⟨by omega,q0⟩
     ·simp[bF]at h;subst h;exact⟨by omega,q1⟩
     ·simp[bF]at h) (by
    intro i blk h
    rcases i with _|_|i
    ·simp[bF]at h;subst h;simp[iM,zc]
    ·simp[bF]at h;subst h;exact hlit
    ·simp[bF]at h) (by
    intro i h
    rcases i with _|_|i
    ·omega
    ·omega
    ·simp[bF]at h)
   have ev5:=g8.AJY (t:=5) p5;have ev32:=g8.AJY (t:=32) p32
   refine VY (C:=C1) (w':=w9) rfl (by
    show(Instr.storeAt 31 (a8.tmps.getD 32 undef) (a8.tmps.getD 30 undef)).run C1.P w8=_
    rw[ev32];exact hrun) ?_
   have g9:=hG (aZ [(2, .own 0 0),(3, .i (ptr (b3,0))),(4, .osl 1 1 0 init.length),(5,(.i (.iref [.int x.kind, .int x.col, .bool x.val.null, .int x.val.n, .lit (.slice ao x.kids.length cap)])))]) (by
    intro t;simp only[aZ];by_cases h2:t=2
    ·subst h2;exact .inr (.inr ⟨by simp[p2],by rw[p2];simp[l6,bF]⟩)
    by_cases h3:t=3
    ·subst h3;exact .inr (.inr ⟨by simp[p3],by rw[p3];simp[l6,ptr]⟩)
    by_cases h4:t=4
    ·subst h4;exact .inr (.inr ⟨by simp[p4],by rw[p4];simp[l6,bF]⟩)
    by_cases h5:t=5
    ·subst h5;exact .inr (.inl ⟨ev5,by simp⟩)
    ·simp[h2,h3,h4,h5])
   clear hG g8;show Code.wp _ _ _ _ _;refine wp_seq (wp_mono (GG.lQ pU (G:=GS 92) (S:={ env:=[(2, .own 0 0),(3, .i (ptr (b3,0))),(4, .osl 1 1 0 init.length),(5,(.i (.iref [.int x.kind, .int x.col, .bool x.val.null, .int x.val.n, .lit (.slice ao x.kids.length cap)])))],st:=[some (.box zc),some (.arr 1 ES)] }) (e:=.normal) (S':={ env:=[(0, .junk),(2, .own 0 0),(3, .i (ptr (b3,0))),(4, .osl 1 1 0 init.length),(5,(.i (.iref [.int x.kind, .int x.col, .bool x.val.null, .int x.val.n, .lit (.slice ao x.kids.length cap)]))),(6, .junk),(13, .junk),(37, .int x.kids.length),(38, .int 0),(39, .junk)],st:=[some (.box zc),some (.arr 1 ES)] }) (by kernel_rfl) (by simp[ptr,zc]) g9) ?_);rintro _ a10 w10 ⟨rfl,g10⟩;clear g9;by_cases hx:x.kids=[]
   ·refine wp_mono (GG.lQ pU (G:=GS 92) (S:={ env:=[(0, .junk),(2, .own 0 0),(3, .i (ptr (b3,0))),(4, .osl 1 1 0 init.length),(5,(.i (.iref [.int x.kind, .int x.col, .bool x.val.null, .int x.val.n, .lit (.slice ao x.kids.length cap)]))),(6, .junk),(13, .junk),(37, .int x.kids.length),(38, .int 0),(39, .junk)],st:=[some (.box zc),some (.arr 1 ES)] }) (e:=.normal) (S':={ env:=[(0, .junk),(2, .own 0 0),(3, .i (ptr (b3,0))),(4, .osl 1 1 0 init.length),(5,(.i (.iref [.int x.kind, .int x.col, .bool x.val.null, .int x.val.n, .lit (.slice ao x.kids.length cap)]))),(6, .junk),(13, .junk),(37, .int x.kids.length),(38, .int 0),(39, .bool false)],st:=[some (.box zc),some (.arr 1 ES)] }) (by kernel_rfl) (by
     simp only[hx,yK];simp;rw[aG]
     simp[ptr,zc]) g10) ?_
    rintro _ a11 w11 ⟨rfl,g11⟩;simp only[kG,Exit.then,Exit.inBlock];refine⟨n-1,by omega,init,((b,o),x)::X,K++iJ b' 0 x.kids,fun k hk=>xY _ (hsub k (by simp[hk])),xY _ hb3,?_,by omega,?_⟩
    ·rw[hx]at hxs;simp[Ex.aQ]at hxs;omega
    ·have hES2:((init++((b,o),x)::X).map fun k=>[ptr k.1])=ES:=by rw[← hES];simp
     simp only[SL,hES2]
     exact g11.envTo (by
      intro t;simp only[aZ];by_cases h2:t=2
      ·subst h2;simp
      by_cases h3:t=3
      ·subst h3;simp
      by_cases h4:t=4
      ·subst h4;simp
      ·simp[h2,h3,h4])
   ·obtain rfl:=e2 hx;have hET:ES.take init.length=RW init b' 0:=by rw[← hES];simp[RW]
    have hEL:init.length≤ES.length:=by rw[← hES];simp
    have hlim:∀ i,i≤x.kids.length→(init.length+i+1)*8≤140737488355328:=fun i hi=>by omega
    have hk0:x.kids.length≠0:=fun h=>hx (zW.1 h)
    refine wp_mono (GG.lQ pU (G:=GS 92) (S:={ env:=[(0, .junk),(2, .own 0 0),(3, .i (ptr (b3,0))),(4, .osl 1 1 0 init.length),(5,(.i (.iref [.int x.kind, .int x.col, .bool x.val.null, .int x.val.n, .lit (.slice (some ⟨b',0,none⟩) x.kids.length cap)]))),(6, .junk),(13, .junk),(37, .int x.kids.length),(38, .int 0),(39, .junk)],st:=[some (.box zc),some (.arr 1 ES)] }) (e:=.normal) (S':={ env:=[(0, .junk),(2, .own 0 0),(3, .i (ptr (b3,0))),(4, .osl 2 1 0 (init.length+x.kids.length)),(5,(.i (.iref [.int x.kind, .int x.col, .bool x.val.null, .int x.val.n, .lit (.slice (some ⟨b',0,none⟩) x.kids.length cap)]))),(6, .int (x.kids.length-1)),(13, .junk),(37, .int x.kids.length),(38, .int x.kids.length),(39, .bool false)],st:=[some (.box zc),none,some (.arr 1 (RW init b' x.kids.length))] }) (by kernel_rfl) (by
     simp;rw[aS (YS b3 b' cap x init ES) x.kids.length (by simp[YS])]
     ·rw[aG];simp[YS,hk0,bY hk0,zc,ptr]
     ·intro i hi;have w2:IntKind.i64.wrap ((i:Int)+1)=i+1:=wrO;have hi0:(i:Int)<x.kids.length:=by omega
      by_cases h0:i=0
      ·subst h0;have hl:(init.length+1)*8≤140737488355328:=by omega
       have hR:RW init b' 0++[[.lit (.pointer (some ⟨b',0,none⟩))]]=RW init b' 1:=by simpa [ptr]using AD0 init b' 0
       simp[YS,zc,ptr,AI9,hi,hET,hEL,hl,hR]
      ·have hl:=hlim i (by omega);have hT:(RW init b' i).take (init.length+i)=RW init b' i:=zZ (by rw[AI7];omega);have hR:RW init b' i++[[.lit (.pointer (some ⟨b',i*5,none⟩))]]=RW init b' (i+1):=by simpa [ptr]using AD0 init b' i
       simp[YS,h0,bY h0,zc,ptr,w2,hi,hT,AI7,hl,hR,← Nat.add_assoc]) g10) ?_
    rintro _ a11 w11 ⟨rfl,g11⟩;simp only[kG,Exit.then,Exit.inBlock];refine⟨n-1,by omega,init++iJ b' 0 x.kids,[],K++iJ b' 0 x.kids,?_,xY _ hb3,?_,by omega,?_⟩
    ·intro k hk
     rcases zU.1 hk with h|h
     ·exact xY _ (hsub k (by simp[h]))
     ·exact List.mem_append_right _ h
    ·rw[xW,List.sum_append,JR];omega
    ·have g12:=g11.settle [2,3,4]
     have hR:List.map (fun k:(Nat×Nat)×Ex=>[ptr k.1]) (init++iJ b' 0 x.kids++[])=RW init b' x.kids.length:=by
      rw[yB,xW,JS];simp[RW]
     have hl:(init++iJ b' 0 x.kids).length=init.length+x.kids.length:=by rw[zQ,JU]
     simp only[SL,hR,hl]
     have hs:Av.settle [2,3,4] 0 (aZ [(0, .junk),(2, .own 0 0),(3, .i (ptr (b3,0))),(4, .osl 2 1 0 (init.length+x.kids.length)),(5, .i (.iref [.int x.kind, .int x.col, .bool x.val.null, .int x.val.n, .lit (.slice (some ⟨b',0,none⟩) x.kids.length cap)])),(6, .int (x.kids.length-1)),(13, .junk),(37, .int x.kids.length),(38, .int x.kids.length),(39, .bool false)]) (bF [some (.box zc),none,some (.arr 1 (RW init b' x.kids.length))])={ env:=[(2, .own 0 0),(3, .i (ptr (b3,0))),(4, .osl 1 1 0 (init.length+x.kids.length))],st:=[some (.box zc),some (.arr 1 (RW init b' x.kids.length))] }:=by
      simp[zc,ptr]
     rw[hs]at g12
     exact g12.envTo (by
      intro t;simp only[aZ];by_cases h2:t=2
      ·subst h2;simp
      by_cases h3:t=3
      ·subst h3;simp
      by_cases h4:t=4
      ·subst h4;simp
      ·simp[h2,h3,h4])
theorem UI {w:World} {m:Mem} {φ:Pl} {st:Store} {t:TypeId} {a v:AV} {x:Value} (hi:Inv w m φ st) (hr:Rep m φ a x) (h:FO C1 t a st=some v):∃ y,(Instr.loadAt t x).run C1.P w=.ok y w∧Rep m φ v y:=by
 obtain⟨ad,y,k1,k2,k3⟩:=uA hi hr h;exact⟨y,by subst k1;simpa [Instr.loadAt,Instr.sureAddr]using k2,k3⟩
theorem AFF {w:World} {m:Mem} (h:nG w m):Inv w m (fun _=>none) (bF []):=⟨h,fun id blk e=>(by simp[bF]at e),fun i j b b' n n' b1 b2 f e=>(by simp[bF]at e),fun _ _ _ _ e=>(by cases e)⟩
theorem CK {e:Ex} (he:e.size<1000000000) {wi:World} {mi:Mem} {φ:Pl} {vs:List Value} (hi:Inv wi mi φ (bF [])) (hr:RepL mi φ [.i (.iref e.cells)] vs) (h0:∀ id,φ id≠none→id<0) :
 Calls Tryz.prog 92 vs.toArray wi (eZ wi mi φ (.i (.agg e.cells)) []):=by
 obtain rfl:φ=fun _=>none:=by
  funext id
  cases h:φ id with
  | none=>rfl
  | some p=>exact absurd (h0 id (by rw[h];simp)) (zC8 _)
 cases hr with
 | cons h1 h2 =>
  cases h2
  have hp:=h1
  cases h1 with
  | i h1=>cases h1 with
   | iref ha =>
    refine PS he hi fun w' hs hw=>?_
    obtain⟨y,k1,k2⟩:=UI (t:=115) (v:=.i (.agg e.cells)) (hi.later hs hw) hp (by rw[Ex.aA];simp)
    cases k2 with
    | i k2=>exact⟨y,k1,k2⟩
theorem KE {e:Ex} (he:e.size<1000000000) {w:World} {m:Mem} {φ:Pl} {vs:List Value} {es:List (List IV)} {j:Nat} (hes:es[j]?=some e.cells) (hi:Inv w m φ (bF [some (.arr 5 es)])) (hr:RepL m φ [.ownE 0 5 j 0] vs) (h0:∀ id,φ id≠none→id<1) :
 Calls Tryz.prog 92 vs.toArray w (eZ w m φ (.i (.agg e.cells)) [some (.arr 5 es)]):=by
 cases hr with
 | cons h1 h2 =>
  cases h2
  have hp:=h1
  cases h1 with
  | ownE hφ =>
   refine(PS he (AFF hi.mem) fun w' hs hw=>?_).mono ?_
   ·obtain⟨y,k1,k2⟩:=UI (t:=115) (v:=.i (.agg e.cells)) (hi.later hs hw) hp (by
     have h5:=hes;rw[← gH]at h5
     rw[Ex.aA]at h5 ⊢;simp[h5])
    cases k2 with
    | i k2=>exact⟨y,k1,k2⟩
   ·rintro en w' ⟨v,m',φ',rfl,j1,j2,j3,j4⟩;have free0:∀ b,jW (fun _=>none) b:=fun b id r n e=>by cases e
    have hsame:∀ f,f<w.heap.size→w'.heap[f]?=w.heap[f]?:=fun f hf=>j3.block f hf (free0 f)
    refine⟨v,m',φ,rfl,?_,⟨j2.mem,fun id blk hb=>?_,hi.inj,fun id b n f e ho=>zJ (hi.low id b n f e ho) j3.size⟩,⟨j3.size,j3.os,j3.tape,j3.output,fun b hb' _=>hsame b hb',j3.mle,fun b hb' _ o=>j3.mnew b hb' (free0 b) o, .refl _,fun _ _ _ _ e ho=>.inr (jW.not e ho)⟩,h0⟩
    ·cases j1 with
     | i j1=>exact .i j1
    ·obtain⟨b,n,k1,k2,k3⟩:=hi.live id blk hb;exact⟨b,n,k1,⟨k2.1,fun f hf=>zJ (k2.2 f hf) j3.size⟩,k3.mono k2.1 (fun f hf=>hsame f (k2.2 f hf)) j3.mle (.refl _) fun f hf o=>j3.mnew f (k2.2 f hf) (free0 f) o⟩
end Go.Proofs.YtjdfjgmebalaaaaGreat
namespace Go.Proofs.YtjdfjgmebalaaaaGreat.G
open Go Go.Av
set_option maxRecDepth 4000
set_option maxHeartbeats 4000000
noncomputable def AJM:FuncId→Option (List AV→StL→Option (AV×StL))
 | 92=>some HV
 | _=>none
noncomputable def C2:Ctx:={ P:=Tryz.prog,G:=GS,ownArgs:=cK,keepRes:=keepR,eqT:=GZ,prim:=AJM }
@[simp] theorem AhD:C2.P=Tryz.prog:=(rfl)
@[simp] theorem AhE (f):C2.G f=GS f:=(rfl)
@[simp] theorem AhA (f):C2.ownArgs f=cK f:=(rfl)
@[simp] theorem AhB (f):C2.keepRes f=keepR f:=(rfl)
@[simp] theorem AhC (f):C2.eqT f=GZ f:=(rfl)
@[simp] theorem Ah9:C2.tree=false:=(rfl)
theorem AEV:PrimOk C2:=by
 have key:∀ g q,C2.prim g=some q→g=92∧q=HV:=by
  intro g q h;have h:AJM g=some q:=h;unfold AJM at h;split at h
  ·injection h with h;exact⟨rfl,h.symm⟩
  ·cases h
 constructor
 ·intro g args st p h;unfold fB at h
  cases hq:C2.prim g with
  | none=>rw[hq]at h;cases h
  | some q =>
   obtain⟨rfl,rfl⟩:=key g q hq;exact⟨Tryz.f92,Tryz.func92,by decide,rfl⟩
 ·intro g args stl r stl' h w m φ vs hi hr h0;unfold fB at h
  cases hq:C2.prim g with
  | none=>rw[hq]at h;cases h
  | some q =>
   obtain⟨rfl,rfl⟩:=key g q hq;rw[hq]at h;obtain⟨e,he,hres,hor⟩:=KC h;injection hres with h1 h2;subst h1;subst h2
   rcases hor with ⟨rfl,rfl⟩|⟨j,es,rfl,rfl,hes⟩
   ·exact CK he hi hr h0
   ·exact KE he hes hi hr h0
theorem nO:SoundOk C2:=rF (C:=C2) ft nt eqS mo AEV
theorem APM:aI C2 91 [.i (.isl [])] []=some (.nils,[]):=by
 rw[aD rfl Tryz.func91 rfl rfl];simp
theorem AL0 {ks:List Ex} (h:ks≠[]) (hl:ks.length<1000000000):aI C2 91 [.i (.isl (Ex.aB ks))] []=some (.osl 0 5 0 ks.length,[some (.arr 5 (Ex.aB ks))]):=by
 rw[aD rfl Tryz.func91 rfl rfl];have h1:56*(ks.length:Int)≤281474976710656:=by omega
 simp[h,h1];unfold over;simp
theorem AI4:aI C2 93 [.i (.isl [])] []=some (.nils,[]):=by
 rw[aD rfl Tryz.func93 rfl rfl];simp
theorem AC7 {l:List Int} (h:l≠[]) (hl:l.length<1000000000):aI C2 93 [.i (.isl (aF l))] []=some (.osl 0 1 0 l.length,[some (.arr 1 (aF l))]):=by
 rw[aD rfl Tryz.func93 rfl rfl];have h1:8*(l.length:Int)≤281474976710656:=by omega
 simp[h,h1];unfold over;simp
theorem VF:aI C2 94 [.i (.isl [])] []=some (.nils,[]):=by
 rw[aD rfl Tryz.func94 rfl rfl];simp
theorem MC {ks:List Pn} (h:ks≠[]) (hl:ks.length<1000000000):aI C2 94 [.i (.isl (Pn.aB ks))] []=some (.osl 0 5 0 ks.length,[some (.arr 5 (Pn.aB ks))]):=by
 rw[aD rfl Tryz.func94 rfl rfl];have h1:88*(ks.length:Int)≤281474976710656:=by omega
 simp[h,h1];unfold over;simp
theorem APL {e:Ex} {es:List (List IV)} {j:Nat} (h:e.size<1000000000) (he:fJ es j=some e.cells):aI C2 92 [.ownE 0 5 j 0] [some (.arr 5 es)]=some (.i (.agg e.cells),[some (.arr 5 es)]):=by
 rw[bK (p:=HV) rfl];exact AC1 h (by rw[← gH];exact he)
def zp:List AV:=[.int 0, .int 0, .nils, .nils, .nils]
def EV (b3:Nat) (v4 v5 v6 v7 v14 v38 v39 v40 v76 v77 v78:AV):List (Nat×AV):=[(0, .junk),(2, .own 0 0),(3, .i (ptr (b3,0))),(4,v4),(5,v5),(6,v6),(7,v7),(14,v14),(38,v38),(39,v39),(40,v40),(76,v76),(77,v77),(78,v78)]
def kM (l:PL):List (List IV):=l.map fun k=>[ptr k.1]
def SLp (b3:Nat) (todo X:PL):AS:={ env:=EV b3 (.osl 1 1 0 todo.length) .junk .junk .junk .junk .junk .junk .junk .junk .junk .junk,st:=[some (.box zp),some (.arr 1 (kM (todo++X)))] }
def SRp (b3 n o:Nat) (ES:List (List IV)) (v6 v7 v14 v38 v39 v40 v76 v77 v78:AV) (cells:List AV) (L:StL):AS:={ env:=EV b3 (.osl 1 1 0 n) (.own 2 o) v6 v7 v14 v38 v39 v40 v76 v77 v78,st:=some (.box zp)::some (.arr 1 ES)::some (.box cells)::L }
theorem LA:∀ (l:PL),∀ c∈(kM l).flatten,∃ v,c=.lit v
 | [],c,h=>by simp[kM]at h
 | k::l,c,h=>by
  simp only[kM,yR,zA,zU,List.mem_singleton]at h
  rcases h with rfl|h
  ·exact⟨_,rfl⟩
  ·exact LA l c h
theorem ER (a b x:Option Blk):upd (bF [a,b]) 2 x=bF [a,b,x]:=by
 funext i;rcases i with _|_|_|i<;>simp[bF,upd]
theorem ASR (b3:Nat) (v4 v5 v5' v6 v7 v14 v38 v39 v40 v76 v77 v78:AV):upd (aZ (EV b3 v4 v5 v6 v7 v14 v38 v39 v40 v76 v77 v78)) 5 v5'=aZ (EV b3 v4 v5' v6 v7 v14 v38 v39 v40 v76 v77 v78):=by
 funext t;simp only[upd,EV,aZ];by_cases h5:t=5
 ·subst h5;simp
 ·simp only[h5,if_false]
def XS (b3 n:Nat) (ES:List (List IV)) (pre post:List Value) (k t:Int) (es:List Ex) (aC aK:AV) (v14:AV) (i:Nat):AS :=
 SRp b3 n pre.length ES (jk i (.int (i-1))) .junk v14 (.int es.length) (.int i) (jk i (.bool true)) .junk .junk .junk (nE pre [.int k, .int t, .osl 3 5 0 es.length,aC,aK] post) [some (.arr 5 (Ex.aB es))]
end Go.Proofs.YtjdfjgmebalaaaaGreat.G

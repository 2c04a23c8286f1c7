/- Part 7 of what the proof rests on: the executor and what it is worth, and the program's functions as it runs them. No condition. -/
import Derived.Test.YtiailccmofdhfaaGreatT6
import Derived.Test.YtiailccmofdhfaaGreatRows
import Derived.WalkKit
import Derived.ProofKit
import Derived.Below
import Derived.JoinedOf
set_option linter.unusedVariables false
set_option linter.unusedSimpArgs false
namespace Go.Av
def tIn (l:List Int) (k t:Int):List Int:=if k=1 then insN l t else l
mutual
def addT (l:List Int):Pn→List Int
 | .mk k t _ _ ks=>addTL (tIn l k t) ks
def addTL:List Int→List Pn→List Int
 | l,[]=>l
 | l,p::ps=>addTL (addT l p) ps
end
theorem addT_eq (l:List Int) (p:Pn):addT l p=addTL (tIn l p.kind p.table) p.kids:=by
 cases p;rw[addT];rfl
theorem addTL_snoc (a:Pn):∀ (ps:List Pn) (l:List Int),addTL l (ps++[a])=addT (addTL l ps) a
 | [],l=>by simp[addTL]
 | p::ps,l=>by simp[addTL,addTL_snoc a ps]
theorem addT_mem:∀ (p:Pn) (l:List Int) (x:Int),x∈addT l p↔x∈l∨scP x p=true:=by
 intro p
 induction p using Pn.ind with
 | h k t es cs ks ih =>
  intro l x
  have key:∀ (xs:List Pn) (l:List Int),(∀ e∈xs,e∈ks)→(x∈addTL l xs↔x∈l∨scPL x xs=true):=by
   intro xs
   induction xs with
   | nil=>intro l _;simp[addTL,scPL]
   | cons a xs ihx =>
    intro l h1
    simp only[addTL,scPL]
    rw[ihx _ fun e he=>h1 e (by simp[he]),ih a (h1 a (by simp)) l x]
    simp[or_assoc]
  rw[addT_eq,scP_eq]
  simp only[Pn.kind,Pn.table,Pn.kids]
  rw[key ks _ fun e he=>he]
  unfold tIn
  by_cases h1:k=1
  ·simp only[h1,if_true,insN_mem,Pn.hit,Pn.kind,Pn.table]
   simp only[Bool.or_eq_true,Bool.and_eq_true,decide_eq_true_eq,beq_iff_eq]
   constructor
   ·rintro((h|rfl)|h)
    ·exact .inl h
    ·exact .inr (.inl (by simp))
    ·exact .inr (.inr h)
   ·rintro(h|h|h)
    ·exact .inl (.inl h)
    ·exact .inl (.inr (by first|exact h.2.symm|exact(of_decide_eq_true h.2).symm))
    ·exact .inr h
  ·simp[h1,Pn.hit,Pn.kind]
theorem addT_asc:∀ (p:Pn) (l:List Int),Asc l→Asc (addT l p):=by
 intro p
 induction p using Pn.ind with
 | h k t es cs ks ih =>
  intro l hl
  rw[addT_eq]
  have:∀ (xs:List Pn) (l:List Int),(∀ e∈xs,∀ l,Asc l→Asc (addT l e))→Asc l→Asc (addTL l xs):=by
   intro xs
   induction xs with
   | nil=>intro l _ h;simpa [addTL]using h
   | cons a xs ihx=>intro l h1 h2;exact ihx _ (fun e he=>h1 e (by simp[he])) (h1 a (by simp) l h2)
  refine this _ _ (fun e he=>ih e (by simpa [Pn.kids]using he)) ?_
  unfold tIn
  split
  ·exact insN_asc hl
  ·exact hl
theorem addT_len:∀ (p:Pn) (l:List Int),(addT l p).length≤l.length+p.size:=by
 intro p
 induction p using Pn.ind with
 | h k t es cs ks ih =>
  intro l
  have hi:∀ (l:List Int) (n:Int),(insN l n).length≤l.length+1:=by
   intro l n
   unfold insN
   split
   ·omega
   ·simp only[List.length_append,List.length_take,List.length_cons,List.length_drop];omega
  have key:∀ (xs:List Pn) (l:List Int),(∀ e∈xs,e∈ks)→(addTL l xs).length≤l.length+Pn.sizeL xs:=by
   intro xs
   induction xs with
   | nil=>intro l _;simp[addTL]
   | cons a xs ihx =>
    intro l h1
    have h2:=ihx (addT l a) fun e he=>h1 e (by simp[he])
    have h3:=ih a (h1 a (by simp)) l
    simp only[addTL,Pn.sizeL];omega
  rw[addT_eq]
  have h1:=key ks (tIn l k t) fun e he=>he
  have h2:(tIn l k t).length≤l.length+1:=by
   unfold tIn
   split
   ·exact hi l t
   ·omega
  simp only[Pn.kind,Pn.table,Pn.kids,Pn.size]at *
  omega
theorem asc_uniq:∀ {l m:List Int},Asc l→Asc m→(∀ x,x∈l↔x∈m)→l=m
 | [],[],_,_,_=>rfl
 | [],b::m,_,_,h=>by have:=(h b).2 (by simp);simp at this
 | a::l,[],_,_,h=>by have:=(h a).1 (by simp);simp at this
 | a::l,b::m,hl,hm,h=>by
  have hl':=List.pairwise_cons.1 hl
  have hm':=List.pairwise_cons.1 hm
  have hab:a=b:=by
   have h1:=(h a).1 (by simp)
   have h2:=(h b).2 (by simp)
   rcases List.mem_cons.1 h1 with e|h1
   ·exact e
   ·rcases List.mem_cons.1 h2 with e|h2
    ·exact e.symm
    ·have:=hm'.1 a h1;have:=hl'.1 b h2;omega
  subst hab
  rw[asc_uniq hl'.2 hm'.2 fun x=>?_]
  have:=h x
  constructor
  ·intro hx
   rcases List.mem_cons.1 (this.1 (by simp[hx]))with rfl|hx'
   ·exact absurd (hl'.1 x hx) (by omega)
   ·exact hx'
  ·intro hx
   rcases List.mem_cons.1 (this.2 (by simp[hx]))with rfl|hx'
   ·exact absurd (hm'.1 x hx) (by omega)
   ·exact hx'
theorem tabsN_asc (p:Pn):∀ n:Nat,Asc (tabsN p n)
 | 0=>by simp[tabsN,Asc]
 | n+1=>by
  have ih:=tabsN_asc p n
  unfold tabsN
  split
  ·refine List.pairwise_append.2 ⟨ih,by simp,fun x hx y hy=>?_⟩
   simp at hy
   have:=(tabsN_mem.1 hx).2.1
   omega
  ·rw[List.append_nil];exact ih
theorem scP_rng {ws:List Int} {x:Int}:∀ (p:Pn) (lv:Nat),p.wd ws lv≠0→scP x p=true→0≤x∧x<ws.length:=by
 intro p
 induction p using Pn.ind with
 | h k t es cs ks ih =>
  intro lv h hs
  have hsh:=wd_shape h
  generalize hp:Pn.mk k t es cs ks=p at hsh h hs
  have hk:ks=p.kids:=by rw[← hp];rfl
  subst hk
  have hkid:∀ a∈p.kids,scP x a=true→∀ m,a.wd ws m≠0→0≤x∧x<ws.length:=fun a ha h1 m h2=>ih a ha m h2 h1
  rw[scP_eq]at hs
  cases hsh with
  | scan t W h0 h1 hW =>
   have hi:=(List.getElem?_eq_some_iff.1 h1).1
   simp[Pn.hit,Pn.scan,Pn.kind,Pn.table,Pn.kids,scPL]at hs
   have hx:t=x:=of_decide_eq_true hs
   omega
  | filt m e a h1 ha he =>
   simp[Pn.hit,filt,Pn.kind,Pn.kids,scPL]at hs
   exact hkid a (by simp[filt]) hs m ha
  | proj m es a h1 ha hl he =>
   simp[Pn.hit,proj,Pn.kind,Pn.kids,scPL]at hs
   exact hkid a (by simp[proj]) hs m ha
  | pair m k e a b h1 hk ha hb hl he =>
   have hk1:¬ k=1:=by omega
   simp[Pn.hit,pairP,Pn.kind,Pn.kids,scPL,hk1]at hs
   rcases hs with hs|hs
   ·exact hkid a (by simp[pairP]) hs m ha
   ·exact hkid b (by simp[pairP]) hs m hb
  | union m a b h1 ha hb =>
   simp[Pn.hit,unionP,Pn.kind,Pn.kids,scPL]at hs
   rcases hs with hs|hs
   ·exact hkid a (by simp[unionP]) hs m ha
   ·exact hkid b (by simp[unionP]) hs m (by rw[hb];exact ha)
  | dist m a h1 ha =>
   simp[Pn.hit,Pn.kind,Pn.kids,scPL]at hs
   exact hkid a (by simp) hs m ha
  | group m cs a h1 ha hc ho =>
   simp[Pn.hit,Pn.kind,Pn.kids,scPL]at hs
   exact hkid a (by simp) hs m ha
theorem addT_tabsN {ws:List Int} {p:Pn} (h:p.wd ws 8≠0):addT [] p=tabsN p ws.length:=by
 refine asc_uniq (addT_asc p [] (by simp[Asc])) (tabsN_asc p _) fun x=>?_
 rw[addT_mem,tabsN_mem]
 constructor
 ·rintro(h1|h1)
  ·simp at h1
  ·obtain⟨h2,h3⟩:=scP_rng p 8 h h1
   exact⟨h2,h3,h1⟩
 ·rintro⟨_,_,h1⟩;exact .inr h1
end Go.Av
namespace Go.Proofs.YtiailccmofdhfaaGreat.P
open Go Go.Av
set_option maxRecDepth 4000
set_option maxHeartbeats 4000000
def PHX (p:Pn) (i:Nat):AS :=
 { env:=[(0, .i (.iref [.int p.kind, .int p.table, .isl (Ex.cellsL p.exprs), .isl (intsL p.cols), .isl (Pn.cellsL p.kids)])),(2, .int 0),(3, .int (htPL (p.kids.take i):Nat)),(4,jk i (.int (i-1))),(9, .int p.kids.length),(10, .int i),(11,jk i (.bool true))],st:=[] }
theorem pheight_eq:∀ (p:Pn),p.thin→p.size<1000000000→callA C0 89 [.i (.iref p.cells)] []=some (.int (htP p:Nat),[]):=by -- 88
 intro p
 induction p using Pn.ind with
 | h k tb es cs ks ih =>
  intro ht hn
  generalize hp:Pn.mk k tb es cs ks=p at *
  have hks:ks=p.kids:=by rw[← hp];rfl
  subst hks
  obtain⟨t1,t2,t3,t4,t5⟩:=(Pn.thin_iff _).1 ht
  have hsz:=Pn.size_eq p
  rw[callA_eq rfl Tryz.func89 rfl rfl,Pn.cells_eq,htP_eq]
  simp
  rw[loop_to (PHX p) p.kids.length (by simp[PHX,htPL])]
  ·rw[execA_loop]
   simp[PHX]
  ·intro i hi
   have h3:=List.getElem?_eq_getElem hi
   have hm:=List.mem_of_getElem? h3
   have r2:=Pn.cellsL_nth h3
   have htk:=take_snoc h3
   generalize p.kids[i]=a at h3 hm r2 htk
   have hle:a.size≤Pn.sizeL p.kids:=by
    have h:=Pn.sizeL_append (p.kids.take (i+1)) (p.kids.drop (i+1))
    rw[List.take_append_drop,htk,Pn.sizeL_append]at h
    simp only[Pn.sizeL]at h;omega
   have hk:=ih a hm (t5 a hm) (by omega)
   have hh:=htP_size a
   have w2:IntKind.i64.wrap ((i:Int)+1)=i+1:=wrap64 (by omega) (by omega)
   have w3:IntKind.i64.wrap (1+(htP a:Int))=1+htP a:=wrap64 (by omega) (by omega)
   rw[Pn.cells_eq a]at r2 hk
   have hmx:max (htPL (p.kids.take i):Int) (1+(htP a:Int))=((max (htPL (p.kids.take i)) (1+htP a):Nat):Int):=by omega
   by_cases h0:i=0
   ·subst h0;simp[htPL]at hmx;simp[PHX,hi,r2,hk,wrap_1,w3,htk,htPL_snoc,htPL,hmx];omega
   ·simp[PHX,jk_pos h0,hi,r2,hk,w2,w3,htk,htPL_snoc,hmx];split<;>omega
def PDX (p:Pn) (t:Int) (i:Nat):AS :=
 { env:=[(0, .i (.iref [.int p.kind, .int p.table, .isl (Ex.cellsL p.exprs), .isl (intsL p.cols), .isl (Pn.cellsL p.kids)])),(1, .int t),(4, .int 0),(5, .int (dsPL t (p.kids.take i))),(6,jk i (.int (i-1))),(19, .bool false),(24, .int p.kids.length),(25, .int i),(26,jk i (.bool true))],st:=[] }
theorem deepest_eq:∀ (p:Pn),p.thin→p.size<1000000000→∀ t:Int,callA C0 88 [.i (.iref p.cells), .int t] []=some (.int (dsP t p),[]):=by
 intro p
 induction p using Pn.ind with
 | h k tb es cs ks ih =>
  intro ht hn t
  generalize hp:Pn.mk k tb es cs ks=p at *
  have hks:ks=p.kids:=by rw[← hp];rfl
  subst hks
  obtain⟨t1,t2,t3,t4,t5⟩:=(Pn.thin_iff _).1 ht
  have hsz:=Pn.size_eq p
  cases hh:p.hit t with
  | true =>
   rw[dsP_hit hh]
   simp only[Pn.hit,Bool.and_eq_true,decide_eq_true_eq]at hh
   rw[callA_eq rfl Tryz.func88 rfl rfl,Pn.cells_eq]
   simp[hh.1,hh.2]
  | false =>
   have hge:=dsPL_ge t p.kids
   have hmx0:max (-17:Int) (dsPL t p.kids)=dsPL t p.kids:=by omega
   rw[dsP_miss hh,hmx0]
   rw[callA_eq rfl Tryz.func88 rfl rfl,Pn.cells_eq]
   simp only[Pn.hit,Bool.and_eq_false_iff,decide_eq_false_iff_not]at hh
   have hc:p.kind≠1∨(p.kind=1∧p.table≠t):=by
    rcases hh with h|h
    ·exact .inl h
    ·by_cases h1:p.kind=1
     ·exact .inr ⟨h1,h⟩
     ·exact .inl h1
   rcases hc with hc|⟨hc1,hc2⟩
   ·simp[hc]
    rw[loop_to (PDX p t) p.kids.length (by simp[PDX,dsPL])]
    ·rw[execA_loop]
     simp[PDX]
    ·intro i hi
     have h3:=List.getElem?_eq_getElem hi
     have hm:=List.mem_of_getElem? h3
     have r2:=Pn.cellsL_nth h3
     have htk:=take_snoc h3
     generalize p.kids[i]=a at h3 hm r2 htk
     have hle:a.size≤Pn.sizeL p.kids:=by
      have h:=Pn.sizeL_append (p.kids.take (i+1)) (p.kids.drop (i+1))
      rw[List.take_append_drop,htk,Pn.sizeL_append]at h
      simp only[Pn.sizeL]at h;omega
     have hk:=ih a hm (t5 a hm) (by omega) t
     have hr:=dsP_range t a
     have hs:=htP_size a
     have w2:IntKind.i64.wrap ((i:Int)+1)=i+1:=wrap64 (by omega) (by omega)
     have w3:IntKind.i64.wrap (1+dsP t a)=1+dsP t a:=wrap64 (by omega) (by omega)
     rw[Pn.cells_eq a]at r2 hk
     by_cases h0:i=0
     ·subst h0;simp[PDX,hi,r2,hk,wrap_1,w3,htk,dsPL_snoc,dsPL];split<;>omega
     ·simp[PDX,jk_pos h0,hi,r2,hk,w2,w3,htk,dsPL_snoc];split<;>omega
   ·simp[hc1,hc2]
    rw[loop_to (PDX p t) p.kids.length (by simp[PDX,dsPL,hc1,hc2])]
    ·rw[execA_loop]
     simp[PDX]
    ·intro i hi
     have h3:=List.getElem?_eq_getElem hi
     have hm:=List.mem_of_getElem? h3
     have r2:=Pn.cellsL_nth h3
     have htk:=take_snoc h3
     generalize p.kids[i]=a at h3 hm r2 htk
     have hle:a.size≤Pn.sizeL p.kids:=by
      have h:=Pn.sizeL_append (p.kids.take (i+1)) (p.kids.drop (i+1))
      rw[List.take_append_drop,htk,Pn.sizeL_append]at h
      simp only[Pn.sizeL]at h;omega
     have hk:=ih a hm (t5 a hm) (by omega) t
     have hr:=dsP_range t a
     have hs:=htP_size a
     have w2:IntKind.i64.wrap ((i:Int)+1)=i+1:=wrap64 (by omega) (by omega)
     have w3:IntKind.i64.wrap (1+dsP t a)=1+dsP t a:=wrap64 (by omega) (by omega)
     rw[Pn.cells_eq a]at r2 hk
     by_cases h0:i=0
     ·subst h0;simp[PDX,hi,r2,hk,wrap_1,w3,htk,dsPL_snoc,dsPL];split<;>omega
     ·simp[PDX,jk_pos h0,hi,r2,hk,w2,w3,htk,dsPL_snoc];split<;>omega
theorem scan_part {p:Pn} {b:Bool} {t:Int}:callA C0 127 [.i (.iref p.cells), .own 0 0, .own 1 0] [some (.box [.bool b]),some (.box [.int t])]=some (.tup [],[some (.box [.bool (b || p.hit t)]),some (.box [.int t])]):=by
 rw[callA_eq rfl Tryz.func127 rfl rfl,Pn.cells_eq]
 unfold Pn.hit
 cases b
 ·by_cases h1:p.kind=1
  ·by_cases h2:p.table=t
   ·simp[h1,h2]
   ·simp[h1,h2]
  ·simp[h1]
 ·simp
def SPX (p:Pn) (b:Bool) (t:Int) (i:Nat):AS :=
 { env:=[(0, .i (.iref [.int p.kind, .int p.table, .isl (Ex.cellsL p.exprs), .isl (intsL p.cols), .isl (Pn.cellsL p.kids)])),(1, .fn (.func 127) [.own 0 0, .own 1 0]),(4,jk i (.int (i-1))),(12, .int p.kids.length),(13, .int i),(14,jk i (.bool true))],
   st:=[some (.box [.bool ((b || p.hit t) || scPL t (p.kids.take i))]),some (.box [.int t])] }
theorem eachScan_eq:∀ (p:Pn),p.thin→∀ (b:Bool) (t:Int),callA C0 126 [.i (.iref p.cells), .fn (.func 127) [.own 0 0, .own 1 0]] [some (.box [.bool b]),some (.box [.int t])]=some (.tup [],[some (.box [.bool (b || scP t p)]),some (.box [.int t])]):=by
 intro p
 induction p using Pn.ind with
 | h k tb es cs ks ih =>
  intro ht b t
  generalize hp:Pn.mk k tb es cs ks=p at *
  have hks:ks=p.kids:=by rw[← hp];rfl
  subst hks
  obtain⟨t1,t2,t3,t4,t5⟩:=(Pn.thin_iff _).1 ht
  have hone:=scan_part (p:=p) (b:=b) (t:=t)
  rw[callA_eq rfl Tryz.func126 rfl rfl,scP_eq]
  rw[Pn.cells_eq]at hone ⊢
  simp[hone]
  rw[loop_to (SPX p b t) p.kids.length (by simp[SPX,scPL])]
  ·rw[execA_loop]
   simp[SPX,Bool.or_assoc]
  ·intro i hi
   have h3:=List.getElem?_eq_getElem hi
   have hm:=List.mem_of_getElem? h3
   have r2:=Pn.cellsL_nth h3
   have htk:=take_snoc h3
   generalize p.kids[i]=a at h3 hm r2 htk
   have hk:=ih a hm (t5 a hm) ((b || p.hit t) || scPL t (p.kids.take i)) t
   have w2:IntKind.i64.wrap ((i:Int)+1)=i+1:=wrap64 (by omega) (by omega)
   rw[Pn.cells_eq a]at r2 hk
   by_cases h0:i=0
   ·subst h0;simp[scPL]at hk;simp[SPX,hi,r2,hk,wrap_1,htk,scPL_snoc,scPL,Bool.or_assoc]
   ·simp only[Bool.or_assoc]at hk;simp[SPX,jk_pos h0,hi,r2,hk,w2,htk,scPL_snoc,Bool.or_assoc]
theorem scans_eq (p:Pn) (hp:p.thin) (t:Int):callA C0 75 [.i (.iref p.cells), .int t] []=some (.bool (scP t p),[]):=by
 have h:=eachScan_eq p hp false t
 rw[callA_eq rfl Tryz.func75 rfl rfl]
 rw[Pn.cells_eq]at h ⊢
 simp at h
 simp[h]
def TBX (p:Pn) (ws:List Int) (i:Nat):AS :=
 { env:=[(0, .i (.agg [.int p.kind, .int p.table, .isl (Ex.cellsL p.exprs), .isl (intsL p.cols), .isl (Pn.cellsL p.kids)])),(1, .i (.isl (intsL ws))),(2, .own 0 0),(4, .nils),(5,gro 1 1 (tabsN p i).length),(6,jk i (.int (i-1))),(10, .bool false),(12, .int ws.length),(13, .int i),(14,jk i (.bool true)),(17,jk i (.bool (scP ((i:Int)-1) p)))],
   st:=(if i=0 then some (.box (impI p.cells))else some (.fbox p.cells))::groB 1 (intsL (tabsN p i)) (tabsN p i).length }
theorem tables_eq (p:Pn) (hp:p.thin) (ws:List Int) (hl:ws.length<1000) (hw:p.width ws≠0):callA C0 46 [.i (.agg p.cells), .i (.isl (intsL ws))] []=some (.i (.isl (intsL (tabsN p ws.length))),[]):=by
 have e1:=planWidth_eq p ws
 rw[callA_eq rfl Tryz.func46 rfl rfl]
 rw[Pn.cells_eq]at *
 simp[e1,hw]
 rw[loop_to (TBX p ws) ws.length (by simp[TBX,tabsN,Pn.cells_eq,hw])]
 ·rw[execA_loop]
  by_cases h0:ws.length=0
  ·simp[TBX,h0,tabsN,intsL]
  ·by_cases hm:(tabsN p ws.length).length=0
   ·have:=List.length_eq_zero_iff.1 hm
    simp[TBX,this,intsL,h0]
   ·simp[TBX,h0,gro_pos hm,groB_pos hm]
 ·intro i hi
  have hs:=scans_eq p hp i
  have w2:IntKind.i64.wrap ((i:Int)+1)=i+1:=wrap64 (by omega) (by omega)
  have hlen:=tabsN_len (p:=p) (n:=i)
  rw[Pn.cells_eq]at hs
  cases hsc:scP (i:Int) p with
  | false =>
   rw[hsc]at hs
   have ht:tabsN p (i+1)=tabsN p i:=by simp[tabsN,hsc]
   by_cases hm:(tabsN p i).length=0
   ·by_cases h0:i=0
    ·subst h0;simp at hs hsc;simp[TBX,hi,hs,ht,wrap_1,hsc,Pn.cells_eq,tabsN]
    ·have:=List.length_eq_zero_iff.1 hm
     simp[TBX,hi,hs,ht,w2,hsc,Pn.cells_eq,jk_pos h0,this,h0]
   ·have h0:i≠0:=fun e=>by subst e;simp[tabsN]at hm
    simp[TBX,hi,hs,ht,w2,hsc,Pn.cells_eq,jk_pos h0,h0,gro_pos hm,groB_pos hm]
  | true =>
   rw[hsc]at hs
   have ht:tabsN p (i+1)=tabsN p i++[(i:Int)]:=by simp[tabsN,hsc]
   by_cases hm:(tabsN p i).length=0
   ·have hz:=List.length_eq_zero_iff.1 hm
    by_cases h0:i=0
    ·subst h0;simp at hs hsc;simp[TBX,hi,hs,ht,wrap_1,hsc,Pn.cells_eq,tabsN,intsL]
    ·simp[TBX,hi,hs,ht,w2,hsc,Pn.cells_eq,jk_pos h0,hz,h0,intsL]
   ·have h0:i≠0:=fun e=>by subst e;simp[tabsN]at hm
    have hl1:((tabsN p i).length+1)*8≤140737488355328:=by omega
    simp[TBX,hi,hs,ht,w2,hsc,Pn.cells_eq,jk_pos h0,h0,gro_pos hm,groB_pos hm,intsL_snoc,hl1]
set_option maxHeartbeats 2000000
def ANX (l:List Int) (n:Int) (i:Nat):AS :=
 { env:=[(0, .i (.isl (intsL l))),(1, .int n),(4, .nils),(5, .int i),(6, .junk),(18,jk i (.bool true)),(32, .junk)],st:=[] }
theorem addNumber_eq (l:List Int) (n:Int) (hl:l.length<1000000):callA C0 128 [.i (.isl (intsL l)), .int n] []=some (.i (.isl (intsL (insN l n))),[]):=by
 rw[callA_eq rfl Tryz.func128 rfl rfl]
 have hlt:∀ i,i<l.findIdx (fun x=>!decide (x<n))→∃ x,l[i]?=some x∧x<n:=by
  intro i hi
  have hle:=List.findIdx_le_length (xs:=l) (p:=fun x=>!decide (x<n))
  have:=List.not_of_lt_findIdx hi
  exact⟨l[i]'(by omega),List.getElem?_eq_getElem (by omega),by simpa using this⟩
 have hat:∀ x,l[l.findIdx fun x=>!decide (x<n)]?=some x→¬ x<n:=by
  intro x hx
  obtain⟨h1,rfl⟩:=List.getElem?_eq_some_iff.1 hx
  have:=List.findIdx_getElem (w:=h1)
  simpa using this
 have hle:=List.findIdx_le_length (xs:=l) (p:=fun x=>!decide (x<n))
 unfold insN
 generalize l.findIdx (fun x=>!decide (x<n))=j at *
 simp
 rw[loop_to (ANX l n) j (by simp[ANX])]
 ·rw[execA_loop]
  cases hj:l[j]? with
  | none =>
   have hjl:j=l.length:=by have:=List.getElem?_eq_none_iff.1 hj;omega
   subst hjl
   have hb:((l.length:Int)+1)*8≤140737488355328:=by omega
   have hb1:(l.length+1)*8≤140737488355328:=by omega
   have hb2:l.length*8≤140737488355328:=by omega
   have ht:List.take (l.length+1) (intsL l++[[IV.lit (Value.int IntKind.i64 n)]])=intsL l++[[IV.lit (Value.int IntKind.i64 n)]]:=List.take_of_length_le (by simp)
   simp[ANX,hb1,hb2,intsL_append,intsL,ht]
  | some x =>
   have hx:=hat x hj
   have hjl:=(List.getElem?_eq_some_iff.1 hj).1
   have r2:=intsL_nth hj
   by_cases hxn:x=n
   ·subst hxn
    simp[ANX,hjl,r2]
   ·have hb1:(j+1)*8≤140737488355328:=by omega
    have hb2:j*8≤140737488355328:=by omega
    have hb3:(j+1+(l.length-j))*8≤140737488355328:=by omega
    have t1:(l.take j).length=j:=by simp;omega
    have t2:(intsL (l.take j)++[[IV.lit (Value.int IntKind.i64 n)]]).take (j+1)=intsL (l.take j)++[[IV.lit (Value.int IntKind.i64 n)]]:=List.take_of_length_le (by simp;omega)
    have t3:(l.drop j).take (l.length-j)=l.drop j:=List.take_of_length_le (by simp)
    have t4:(intsL (l.take j)++[[IV.lit (Value.int IntKind.i64 n)]]++intsL (l.drop j)).take (j+1+(l.length-j))=intsL (l.take j)++[[IV.lit (Value.int IntKind.i64 n)]]++intsL (l.drop j):=List.take_of_length_le (by simp;omega)
    have t5:(l.take j).take j=l.take j:=List.take_of_length_le (by omega)
    simp[ANX,hjl,hle,r2,hx,hxn,hb1,hb2,hb3,intsL_append,intsL]
    rw[t5,t2,t3,t4]
    simp
 ·intro i hi
  obtain⟨x,h3,hx⟩:=hlt i hi
  have r2:=intsL_nth h3
  have hil:=(List.getElem?_eq_some_iff.1 h3).1
  have w2:IntKind.i64.wrap ((i:Int)+1)=i+1:=wrap64 (by omega) (by omega)
  simp[ANX,hil,r2,hx,w2]
end Go.Proofs.YtiailccmofdhfaaGreat.P
namespace Go.Proofs.YtiailccmofdhfaaGreat.P
open Go Go.Av G
set_option maxRecDepth 4000
set_option maxHeartbeats 8000000
def ATX (p:Pn) (l:List Int) (i:Nat):AS :=
 { env:=[(0, .i (.isl (intsL (addTL l (p.kids.take i))))),(1, .i (.agg [.int p.kind, .int p.table, .isl (Ex.cellsL p.exprs), .isl (intsL p.cols), .isl (Pn.cellsL p.kids)])),(3, .own 0 0),(4, .nils),(5, .int i),(8, .bool (p.kind == 1)),(17,jk i (.bool true))],
   st:=[some (.box [.i (.int p.kind), .i (.int p.table), .i (.isl (Ex.cellsL p.exprs)), .i (.isl (intsL p.cols)), .i (.isl (Pn.cellsL p.kids))])] }
theorem addTables_eq:∀ p:Pn,∀ l:List Int,l.length+p.size<1000000→callA C0 77 [.i (.isl (intsL l)), .i (.agg p.cells)] []=some (.i (.isl (intsL (addT l p))),[]):=by
 intro p
 induction p using Pn.ind with
 | h k t es cs ks ih =>
  intro l hs
  generalize he:Pn.mk k t es cs ks=p at *
  have hks:ks=p.kids:=by rw[← he];rfl
  subst hks
  have hsz:=Pn.size_eq p
  have hadd:∀ (xs:List Pn) (l:List Int),(addTL l xs).length≤l.length+Pn.sizeL xs:=by
   intro xs
   induction xs with
   | nil=>intro l;simp[addTL]
   | cons a xs ihx=>intro l;have h1:=ihx (addT l a);have h2:=addT_len a l;simp only[addTL,Pn.sizeL];omega
  have hsum:∀ (xs ys:List Pn),Pn.sizeL (xs++ys)=Pn.sizeL xs+Pn.sizeL ys:=by
   intro xs
   induction xs with
   | nil=>intro ys;simp[Pn.sizeL]
   | cons a xs ihx=>intro ys;simp[Pn.sizeL,ihx,Nat.add_assoc]
  have hln:p.kids.length≤Pn.sizeL p.kids:=by
   generalize p.kids=xs
   induction xs with
   | nil=>simp
   | cons a xs ihx=>have:=Pn.size_eq a;simp only[List.length_cons,Pn.sizeL];omega
  have hrd:∀ l':List Int,l'.length≤l.length+1→∀ i,i<p.kids.length→∃ a,p.kids[i]?=some a∧p.kids.take (i+1)=p.kids.take i++[a]∧nthE (Pn.cellsL p.kids) i=some a.cells∧callA C0 77 [.i (.isl (intsL (addTL l' (p.kids.take i)))), .i (.agg a.cells)] []=some (.i (.isl (intsL (addT (addTL l' (p.kids.take i)) a))),[]):=by
   intro l' hl' i hi
   have h3:=List.getElem?_eq_getElem hi
   have hm:=List.mem_of_getElem? h3
   have htk:=take_snoc h3
   refine⟨p.kids[i],h3,htk,Pn.cellsL_nth h3,ih _ hm _ ?_⟩
   have h1:=hadd (p.kids.take i) l'
   have h2:=hsum (p.kids.take (i+1)) (p.kids.drop (i+1))
   rw[List.take_append_drop,htk,hsum]at h2
   simp only[Pn.sizeL]at h2
   omega
  rw[callA_eq rfl Tryz.func77 rfl rfl,Pn.cells_eq,addT_eq]
  by_cases h1:p.kind=1
  ·have hn:=addNumber_eq l p.table (by omega)
   have hil:(insN l p.table).length≤l.length+1:=by
    unfold insN
    split
    ·omega
    ·simp only[List.length_append,List.length_take,List.length_cons,List.length_drop];omega
   simp[h1,hn,tIn]
   rw[loop_to (ATX p (insN l p.table)) p.kids.length (by simp[ATX,addTL,h1])]
   ·rw[execA_loop]
    simp[ATX]
   ·intro i hi
    obtain⟨a,h3,htk,r2,hk⟩:=hrd _ hil i hi
    have w2:IntKind.i64.wrap ((i:Int)+1)=i+1:=wrap64 (by omega) (by omega)
    rw[Pn.cells_eq a]at r2 hk
    simp[ATX,hi,r2,hk,w2,htk,addTL_snoc]
  ·simp[h1,tIn]
   rw[loop_to (ATX p l) p.kids.length (by simp[ATX,addTL,h1])]
   ·rw[execA_loop]
    simp[ATX]
   ·intro i hi
    obtain⟨a,h3,htk,r2,hk⟩:=hrd l (by omega) i hi
    have w2:IntKind.i64.wrap ((i:Int)+1)=i+1:=wrap64 (by omega) (by omega)
    rw[Pn.cells_eq a]at r2 hk
    simp[ATX,hi,r2,hk,w2,htk,addTL_snoc]
def IsLX (l:List Int) (t:Int) (i:Nat):AS :=
 { env:=[(0, .i (.isl (intsL l))),(1, .int t),(4, .bool false),(5, .int i),(9,jk i (.bool true)),(17,jk i (.bool false))],st:=[] }
theorem isInL_eq (l:List Int) (t:Int) (hl:l.length<1000000000):callA C0 47 [.i (.isl (intsL l)), .int t] []=some (.bool (!l.all fun x=>!decide (x=t)),[]):=by
 rw[callA_eq rfl Tryz.func47 rfl rfl]
 obtain⟨j,h1,h2⟩:=upto_bad (fun x:Int=>!decide (x=t)) l
 have hj:j≤l.length:=by
  rcases h2 with ⟨rfl,-⟩|⟨k,hk,-⟩
  ·exact Nat.le_refl _
  ·exact Nat.le_of_lt (List.getElem?_eq_some_iff.1 hk).1
 simp
 rw[loop_to (IsLX l t) j (by simp[IsLX])]
 ·rcases h2 with ⟨rfl,ha⟩|⟨k,hk,-,hb,ha⟩
  ·rw[execA_loop,ha]
   simp[IsLX]
  ·rw[execA_loop,ha]
   have r2:=intsL_nth hk
   have hlt:=(List.getElem?_eq_some_iff.1 hk).1
   simp at hb
   simp[IsLX,hlt,r2,hb]
 ·intro i hi
  obtain⟨k,hk,-,hb⟩:=h1 i hi
  have r2:=intsL_nth hk
  have hlt:=(List.getElem?_eq_some_iff.1 hk).1
  have w2:IntKind.i64.wrap ((i:Int)+1)=i+1:=wrap64 (by omega) (by omega)
  simp at hb
  simp[IsLX,hlt,r2,hb,w2]
@[simp] theorem ce_TablesOf (a:List AV) (st:StL):callA CE 46 a st=callA C0 46 a st:=by
  rw[callA_prim (p:=callA CR 46) rfl,callA_prim (p:=callA C0 46) rfl]
@[simp] theorem ce_isIn (a:List AV) (st:StL):callA CE 47 a st=callA C0 47 a st:=by
  rw[callA_prim (p:=callA CR 47) rfl,callA_prim (p:=callA C0 47) rfl]
theorem isIn_tabN (p:Pn) {n:Nat} (hn:n≤3) (i:Nat) (hi:i<n):callA C0 47 [.i (.isl (intsL (tabsN p n))), .int (i:Int)] []=some (.bool (scP i p),[]):=by
 have hlen:=tabsN_len (p:=p) (n:=n)
 rw[isInL_eq _ _ (by omega)]
 congr 3
 have hm:=tabsN_mem (p:=p) (t:=(i:Int)) (n:=n)
 cases hs:scP (i:Int) p with
 | true =>
  have:(i:Int)∈tabsN p n:=hm.2 ⟨by omega,by omega,hs⟩
  simp
  exact this
 | false =>
  simp
  intro x hx e
  rw[e]at hx
  rw[(hm.1 hx).2.2]at hs
  cases hs
end Go.Proofs.YtiailccmofdhfaaGreat.P
namespace Go.Proofs.YtiailccmofdhfaaGreat.P
open Go Go.Av
set_option maxRecDepth 4000
def bsL (l:List Bool):List (List IV):=l.map fun b=>[.bool b]
end Go.Proofs.YtiailccmofdhfaaGreat.P
namespace Go.Proofs.YtiailccmofdhfaaGreat.P
open Go Go.Av G
set_option maxRecDepth 4000
set_option maxHeartbeats 8000000
end Go.Proofs.YtiailccmofdhfaaGreat.P
namespace Go.Av
end Go.Av
namespace Go.Proofs.YtiailccmofdhfaaGreat.P
open Go Go.Av G
set_option maxRecDepth 4000
set_option maxHeartbeats 8000000
end Go.Proofs.YtiailccmofdhfaaGreat.P
namespace Go.Proofs.YtiailccmofdhfaaGreat.P
open Go Go.Av
set_option maxRecDepth 4000
set_option maxHeartbeats 4000000
@[simp] theorem p64n:(2:Nat) ^ IntKind.i64.bits=18446744073709551616:=rfl
@[simp] theorem p64i:(2:Int) ^ IntKind.i64.bits=18446744073709551616:=rfl
end Go.Proofs.YtiailccmofdhfaaGreat.P
namespace Go.Av
end Go.Av
namespace Go.Proofs.YtiailccmofdhfaaGreat.P
open Go Go.Av
set_option maxRecDepth 4000
set_option maxHeartbeats 4000000
def jz (i:Nat) (v:AV):AV:=if i=0 then .junk else v
@[simp] theorem jz_0 (v:AV):jz 0 v=.junk:=rfl
@[simp] theorem jz_s (i:Nat) (v:AV):jz (i+1) v=v:=rfl
set_option maxHeartbeats 8000000
end Go.Proofs.YtiailccmofdhfaaGreat.P
namespace Go.Av
end Go.Av
namespace Go.Proofs.YtiailccmofdhfaaGreat.P
open Go Go.Av
set_option maxRecDepth 4000
set_option maxHeartbeats 8000000
end Go.Proofs.YtiailccmofdhfaaGreat.P
namespace Go.Av
end Go.Av
namespace Go.Proofs.YtiailccmofdhfaaGreat.P
open Go Go.Av
set_option maxRecDepth 4000
set_option maxHeartbeats 8000000
def bbL (l:List (List Bool)):List (List IV):=l.map fun b=>[.isl (bsL b)]
def mixB (fl gl:List Bool) (i:Nat):List Bool:=(List.zipWith (· || ·) fl gl).take i++fl.drop i
def NUX (p:List IV) (flags:List (List Bool)) (fl gl:List Bool) (n:Nat) (i:Nat):AS :=
 { env:=[(0, .i (.iref p)),(1, .i (.isl (bbL flags))),(4, .nils),(5, .osl 0 1 0 n),(6, .junk),(7, .junk),(8, .junk),(9,jk i (.int ((i:Int)-1))),(10,jk i (.bool ((gl[i-1]?).getD false))),(11, .junk),(13, .junk),(18, .bool false),(37, .int 6),(38, .bool false),(43, .bool false),(57, .junk),(58, .junk),(59, .junk),(76, .bool false),(87, .bool false),(96, .junk),(97, .junk),(98, .junk),(104, .bool true),(112, .osl 1 1 0 n),(113, .int n),(114, .int i),(115,jk i (.bool true)),(131, .junk),(136, .junk),(137, .junk),(138, .junk),(139, .junk)],st:=[some (.arr 1 (bsL (mixB fl gl i))),some (.arr 1 (bsL gl))] }
end Go.Proofs.YtiailccmofdhfaaGreat.P
namespace Go.Av
theorem evP_len (db:List Tbl) (p:Pn):(p.evP db).rows.length≤400:=by
 rw[Pn.evP_eq]
 unfold evK
 repeat' split
 all_goals exact(tab_len _ _).1
theorem fit_filt {db:List Tbl} {e:Ex} {a:Pn}:(filt e a).fit db=true↔a.fit db=true:=by
 rw[Pn.fit_iff,raw_filt]
 have h1:=List.length_filter_le (isT e) (a.evP db).rows
 have h2:=evP_len db a
 simp only[filt,Pn.kids_mk,List.mem_singleton,forall_eq]
 exact⟨fun h=>h.2,fun h=>⟨by omega,h⟩⟩
theorem fit_proj {db:List Tbl} {es:List Ex} {a:Pn}:(proj es a).fit db=true↔a.fit db=true:=by
 rw[Pn.fit_iff,raw_proj,List.length_map]
 have h2:=evP_len db a
 simp only[proj,Pn.kids_mk,List.mem_singleton,forall_eq]
 exact⟨fun h=>h.2,fun h=>⟨h2,h⟩⟩
theorem fit_pair {db:List Tbl} {k:Int} (hk:k=4∨k=5) {e:Ex} {a b:Pn}:(pairP k e a b).fit db=true↔(joinR e (decide (k=5)) (a.evP db) (b.evP db)).length≤400∧a.fit db=true∧b.fit db=true:=by
 rw[Pn.fit_iff,raw_pair db hk]
 simp only[pairP,Pn.kids_mk,List.mem_cons,List.not_mem_nil,or_false,forall_eq_or_imp,forall_eq]
theorem fit_union {db:List Tbl} {a b:Pn}:(unionP a b).fit db=true↔((a.evP db).rows++(b.evP db).rows).length≤400∧a.fit db=true∧b.fit db=true:=by
 rw[Pn.fit_iff,raw_union]
 simp only[unionP,Pn.kids_mk,List.mem_cons,List.not_mem_nil,or_false,forall_eq_or_imp,forall_eq]
theorem fit_seven {db:List Tbl} {a:Pn}:(Pn.mk 7 0 [] [] [a]).fit db=true↔a.fit db=true:=by
 rw[Pn.fit_iff,raw_dist]
 have h1:=(dedup_sub (a.evP db).rows).length_le
 have h2:=evP_len db a
 simp only[Pn.kids_mk,List.mem_singleton,forall_eq]
 exact⟨fun h=>h.2,fun h=>⟨by omega,h⟩⟩
theorem fit_group {db:List Tbl} {cs:List Int} {a:Pn}:(Pn.mk 8 0 [] cs [a]).fit db=true↔a.fit db=true:=by
 rw[Pn.fit_iff,raw_group]
 have h1:=(groups_facts cs (fun _=>True) (a.evP db).rows (fun _ _=>trivial)).2.1
 have h2:=evP_len db a
 unfold groupRows
 rw[List.length_map]
 simp only[Pn.kids_mk,List.mem_singleton,forall_eq]
 exact⟨fun h=>h.2,fun h=>⟨by omega,h⟩⟩
theorem fit_scan {db:List Tbl} {t:Int}:(Pn.scan t).fit db=true↔((db[t.toNat]?).getD tblZ).rows.length≤400:=by
 rw[Pn.fit_iff,raw_scan]
 simp[Pn.scan]
theorem fit_scanned {ws:List Int} {db db':List Tbl}:∀ (p:Pn) (lv:Nat),p.wd ws lv≠0→(∀ t:Int,scP t p=true→db'[t.toNat]?=db[t.toNat]?)→p.fit db=true→p.fit db'=true:=by
 intro p
 induction p using Pn.ind with
 | h k t es cs ks ih =>
  intro lv h hs hf
  have hsh:=wd_shape h
  generalize hp:Pn.mk k t es cs ks=p at hsh h hs hf
  have hk:ks=p.kids:=by rw[← hp];rfl
  subst hk
  have hkid:∀ a∈p.kids,∀ t:Int,scP t a=true→db'[t.toNat]?=db[t.toNat]?:=fun a ha t h=>hs t (scP_kid ha h)
  cases hsh with
  | scan t W h0 h1 hW =>
   rw[fit_scan]at hf ⊢
   rw[hs t scP_scan];exact hf
  | filt m e a h1 ha he=>exact fit_filt.2 (ih a (by simp[filt]) m ha (hkid a (by simp[filt])) (fit_filt.1 hf))
  | proj m es a h1 ha hl he=>exact fit_proj.2 (ih a (by simp[proj]) m ha (hkid a (by simp[proj])) (fit_proj.1 hf))
  | pair m k e a b h1 hk ha hb hl he =>
   obtain⟨f1,f2,f3⟩:=(fit_pair hk).1 hf
   rw[fit_pair hk,ev_scanned a m ha (hkid a (by simp[pairP])),ev_scanned b m hb (hkid b (by simp[pairP]))]
   exact⟨f1,ih a (by simp[pairP]) m ha (hkid a (by simp[pairP])) f2,ih b (by simp[pairP]) m hb (hkid b (by simp[pairP])) f3⟩
  | union m a b h1 ha hb =>
   have hb':b.wd ws m≠0:=by rw[hb];exact ha
   obtain⟨f1,f2,f3⟩:=fit_union.1 hf
   rw[fit_union,ev_scanned a m ha (hkid a (by simp[unionP])),ev_scanned b m hb' (hkid b (by simp[unionP]))]
   exact⟨f1,ih a (by simp[unionP]) m ha (hkid a (by simp[unionP])) f2,ih b (by simp[unionP]) m hb' (hkid b (by simp[unionP])) f3⟩
  | dist m a h1 ha=>exact fit_seven.2 (ih a (by simp) m ha (hkid a (by simp)) (fit_seven.1 hf))
  | group m cs a h1 ha hc ho=>exact fit_group.2 (ih a (by simp) m ha (hkid a (by simp)) (fit_group.1 hf))
theorem fit_exp {ws:List Int} {db:List Tbl} {v:Pn} {t:Int} (h0:0≤t) (ht:t<db.length) (hv:(v.evP db).ok=true):∀ (p:Pn) (lv:Nat),p.wd ws lv≠0→(expP v t p).fit db=true→p.fit (db.set t.toNat (v.evP db))=true:=by
 intro p
 induction p using Pn.ind with
 | h k tb es cs ks ih =>
  intro lv h hf
  have hsh:=wd_shape h
  generalize hp:Pn.mk k tb es cs ks=p at hsh h hf
  have hk:ks=p.kids:=by rw[← hp];rfl
  subst hk
  cases hsh with
  | scan s W hs0 h1 hW =>
   rw[fit_scan]
   by_cases he:s=t
   ·subst he
    rw[List.getElem?_set_self (by omega)]
    exact evP_len db v
   ·rw[expP_miss (by simp[Pn.hit,Pn.scan,he])]at hf
    have e:expPL v t (Pn.scan s).kids=[]:=by simp[Pn.scan,expPL]
    rw[e]at hf
    have hf:(Pn.scan s).fit db=true:=hf
    rw[fit_scan]at hf
    rw[List.getElem?_set_ne (by omega)]
    exact hf
  | filt m e a h1 ha he =>
   rw[expP_miss (hit_kind (by simp[filt]))]at hf
   have hf:(filt e (expP v t a)).fit db=true:=by simpa [filt,expPL_map]using hf
   exact fit_filt.2 (ih a (by simp[filt]) m ha (fit_filt.1 hf))
  | proj m es a h1 ha hl he =>
   rw[expP_miss (hit_kind (by simp[proj]))]at hf
   have hf:(proj es (expP v t a)).fit db=true:=by simpa [proj,expPL_map]using hf
   exact fit_proj.2 (ih a (by simp[proj]) m ha (fit_proj.1 hf))
  | pair m k e a b h1 hk ha hb hl he =>
   rw[expP_miss (hit_kind (by simp[pairP];omega))]at hf
   have hf:(pairP k e (expP v t a) (expP v t b)).fit db=true:=by simpa [pairP,expPL_map]using hf
   obtain⟨f1,f2,f3⟩:=(fit_pair hk).1 hf
   rw[ev_exp h0 ht hv a m ha,ev_exp h0 ht hv b m hb]at f1
   exact(fit_pair hk).2 ⟨f1,ih a (by simp[pairP]) m ha f2,ih b (by simp[pairP]) m hb f3⟩
  | union m a b h1 ha hb =>
   have hb':b.wd ws m≠0:=by rw[hb];exact ha
   rw[expP_miss (hit_kind (by simp[unionP]))]at hf
   have hf:(unionP (expP v t a) (expP v t b)).fit db=true:=by simpa [unionP,expPL_map]using hf
   obtain⟨f1,f2,f3⟩:=fit_union.1 hf
   rw[ev_exp h0 ht hv a m ha,ev_exp h0 ht hv b m hb']at f1
   exact fit_union.2 ⟨f1,ih a (by simp[unionP]) m ha f2,ih b (by simp[unionP]) m hb' f3⟩
  | dist m a h1 ha =>
   rw[expP_miss (hit_kind (by simp))]at hf
   have hf:(Pn.mk 7 0 [] [] [expP v t a]).fit db=true:=by simpa [expPL_map]using hf
   exact fit_seven.2 (ih a (by simp) m ha (fit_seven.1 hf))
  | group m cs a h1 ha hc ho =>
   rw[expP_miss (hit_kind (by simp))]at hf
   have hf:(Pn.mk 8 0 [] cs [expP v t a]).fit db=true:=by simpa [expPL_map]using hf
   exact fit_group.2 (ih a (by simp) m ha (fit_group.1 hf))
end Go.Av
namespace Go.Proofs.YtiailccmofdhfaaGreat.P
open Go Go.Av G
set_option maxRecDepth 4000
set_option maxHeartbeats 8000000
def sel (i:Nat) (a b:AV):AV:=if i=0 then a else b
@[simp] theorem sel_0 (a b:AV):sel 0 a b=a:=(rfl)
@[simp] theorem sel_s (i:Nat) (a b:AV):sel (i+1) a b=b:=(rfl)
theorem randomPlanB_eq {l:List UInt8} (hl:l.length≤2000) {ws:List Int} (hw:∀ w∈ws,0≤w∧w≤6) (hwl:ws.length<1000000) (hk0:0<ws.length) (p:Int) (h0:0≤p) (h1:p+20000<200000000):∃ (P:Pn) (p':Int),
 callA CP 120 [.own 0 0, .osl 1 1 0 ws.length] [Rd l p,some (.arr 1 (intsL ws))]=some (.i (.agg P.cells),[Rd l p',some (.arr 1 (intsL ws))])∧P.thin∧BdV P∧p≤p'∧p'≤p+20000:=by
 obtain⟨v,hv,hv1,-⟩:=pick_eq l p 4 h0 (by omega) hl
 obtain⟨v0,v1⟩:=hv1 (by omega)
 obtain⟨y,rfl⟩:∃ y:Nat,v=y:=⟨v.toNat,by omega⟩
 have w1:IntKind.i64.wrap (1+(y:Int))=((y+1:Nat):Int):=by rw[wrap64 (by omega) (by omega)];omega
 obtain⟨P,p1,u',j',hP,hPt,b1,b2,b3,b4,b5⟩:=plan_one hl hw hwl hk0 (Nat.le_refl _) (y+1) (by omega) (p+1) 1 (by omega) (by omega) (by omega) (by omega)
 simp only[PSt,Int.natCast_one,Int.natCast_add]at hP
 obtain⟨z,hz,-,-⟩:=pick_eq l p1 2 (by omega) (by omega) hl
 by_cases hz0:z=0
 ·have hW:=splanWidth_own hw hwl hk0 (Nat.le_refl _) P hPt.1
  rw[List.take_length]at hW
  obtain⟨e,p2,he,a1,a2,a3⟩:=randomCondition_eq l hl (P.wd ws 8) (p1+1) (by omega) (by omega)
  have hf:=filterOf_eq e P
  refine⟨filtP e P,p2,?_,filt_step a3 hPt.1,(Rt.one (filt_step a3 hPt.1) (hPt.rt b4)).all,by omega,by omega⟩
  rw[callA_eq rfl Tryz.func120 rfl rfl]
  rw[filtP_cells,Pn.cells_eq P,Ex.cells_eq e]at hf
  rw[Ex.cells_eq e]at he
  rw[Pn.cells_eq P]at hP hW
  rw[filtP_cells,Pn.cells_eq P,Ex.cells_eq e]
  simp[hv,w1,hP,hz,hz0,hW,he,hf]
 ·refine⟨P,p1+1,?_,hPt.1,(hPt.rt b4).all,by omega,by omega⟩
  rw[callA_eq rfl Tryz.func120 rfl rfl]
  rw[Pn.cells_eq P]at hP ⊢
  simp[hv,w1,hP,hz,hz0]
theorem hBu (V:Pn) (h:∀ n:Nat,1≤n→V.bd n≤n):BdV (.mk 6 0 [] [] [V, .mk 1 2 [] [] []]):=fun ws lv n hn _=>by
 rw[bd_two,if_pos rfl]
 have h1:=h n hn
 have h2:(Pn.mk 1 2 [] [] []).bd n=n:=bd_scan n 2
 have h3:n*1≤n*n:=Nat.mul_le_mul_left n hn
 rw[Nat.pow_two];omega
theorem hBf (V:Pn) (e:Ex) (h:∀ n:Nat,1≤n→V.bd n≤n):BdV (filtP e V):=fun ws lv n hn _=>by
 unfold filtP
 rw[bd_one]
 have h1:=h n hn
 have h3:n*1≤n*n:=Nat.mul_le_mul_left n hn
 rw[Nat.pow_two];omega
theorem ints3 (a b c:Int):intsL [a,b,c]=[[.int a],[.int b],[.int c]]:=by simp[intsL]
theorem scan2_cells:(Pn.mk 1 2 [] [] []).cells=[.int 1, .int 2, .isl [], .isl [], .isl []]:=by simp[Pn.cells,Ex.cellsL,intsL,Pn.cellsL]
theorem viewOfB_eq {l:List UInt8} (hl:l.length≤2000):∃ (P V:Pn) (ws:List Int) (t p':Int),callA CP 71 [.own 0 0] [Rd l 0]=some (.tup [.i (.agg P.cells), .i (.agg V.cells), .i (.isl (intsL ws)), .int t],[Rd l p'])∧P.thin∧V.thin∧(BdV P∧(∀ n:Nat,1≤n→V.bd n≤n)∧0≤p'∧p'≤100000)∧ws.length=3∧(∀ w∈ws,1≤w∧w≤6):=by
 obtain⟨a,b,r,p1,hr,r1,r2,r3,r4,r5,r6,r7,r8⟩:=randomWidths_rng l hl 0 (by omega) (by omega)
 obtain⟨v,hv,hv1,-⟩:=pick_eq l p1 2 (by omega) (by omega) hl
 obtain⟨v0,v1⟩:=hv1 (by omega)
 obtain⟨y,rfl⟩:∃ y:Nat,v=y:=⟨v.toNat,by omega⟩
 have w1:IntKind.i64.wrap (1+(y:Int))=y+1:=by rw[wrap64 (by omega) (by omega)];omega
 have hw0:∀ w∈[a,b,1],0≤w∧w≤6:=by intro w hw;simp at hw;omega
 obtain⟨V,p2,u',j',hV,hVT,b1,b2,b3,b4,b5⟩:=plan_none hl (ws:=[a,b,1]) hw0 (by simp) (k:=2) (by omega) (by simp) (y+1) (by omega) (p1+1) 0 (by omega) (by omega) (by omega) (by omega)
 have hVt:=hVT.1
 have hVb:∀ n:Nat,1≤n→V.bd n≤n:=fun n hn=>by
  have:=hVT.2.1.2.2 n hn
  rw[show(0-u').toNat=0 by omega,show 0-j'+1=1 by omega]at this
  simpa using this
 simp only[PSt,Int.natCast_zero,Int.natCast_add,Int.natCast_one]at hV
 have hW:=splanWidth_own (ws:=[a,b,1]) hw0 (by simp) (k:=3) (by omega) (by simp) V hVt
 have hWr:=Pn.wd_range (ws:=[a,b,1].take 3) (fun w hm=>hw0 w (List.mem_of_mem_take hm)) V 8
 generalize V.wd ([a,b,1].take 3) 8=W at hW hWr
 obtain⟨m,hm,m1,m2⟩:∃ m:Int,(if 6<(if W<1 then 1 else W)then 6 else(if W<1 then 1 else W))=m∧1≤m∧m≤6:=⟨_,rfl,by repeat' split<;>omega,by repeat' split<;>omega⟩
 have hw3:∀ w∈[a,b,m],0≤w∧w≤6:=by intro w hw;simp at hw;omega
 have hw4:∀ w∈[a,b,m],1≤w∧w≤6:=by intro w hw;simp at hw;omega
 obtain⟨Q,p3,hQ,hQt,hQb,c1,c2⟩:=randomPlanB_eq hl (ws:=[a,b,m]) hw3 (by simp) (by simp) p2 (by omega) (by omega)
 obtain⟨z1,hz1,hz1a,-⟩:=pick_eq l p3 3 (by omega) (by omega) hl
 obtain⟨z1b,z1c⟩:=hz1a (by omega)
 have hl2:(2:Int)≤(r.length:Int)+2:=by omega
 rw[ints3]at hV hW hQ
 simp only[List.length_cons,List.length_nil,Nat.zero_add,Nat.reduceAdd]at hQ
 rw[Pn.cells_eq V]at hV hW
 rw[Pn.cells_eq Q]at hQ
 have hc:=cp_copyPlan V hVt
 rw[Pn.cells_eq V]at hc
 by_cases hW0:0<W
 ·by_cases h1:0<z1
  ·obtain⟨e,p4,he,a1,a2,a3⟩:=randomCondition_eq l hl W (p3+1) (by omega) (by omega)
   have hf:=filterOf_eq e V
   rw[filtP_cells,Pn.cells_eq V,Ex.cells_eq e]at hf
   rw[Ex.cells_eq e]at he
   obtain⟨z2,hz2,-,-⟩:=pick_eq l p4 3 (by omega) (by omega) hl
   by_cases h2:z2=0
   ·obtain⟨t,ht,-⟩:=one_eq l (p4+1) (by omega) (by omega) hl [[.int 2],[.int 2],[.int 2],[.int 2],[.int 0],[.int 3]] (by simp) (by simp) (by simp)
    simp only[List.length_cons,List.length_nil,Nat.zero_add,Nat.reduceAdd]at ht
    refine⟨.mk 6 0 [] [] [V, .mk 1 2 [] [] []],V,[a,b,m],t,(p4+1)+1,?_,by simp[Pn.thin,Pn.thinL,hVt],hVt,⟨hBu V hVb,hVb,by omega,by omega⟩,by simp,hw4⟩
    rw[callA_eq rfl Tryz.func71 rfl rfl]
    simp[hl2,hr,hv,w1,hV,hW,hm,hQ,hz1,h1,hW0,ints3,intsL,hz2,h2,ht,he,hc,hf,filtP_cells,Ex.cells_eq e,hc,Pn.cells_mk,Ex.cellsL,Pn.cellsL,scan2_cells,Pn.cells_eq V]
   ·obtain⟨t,ht,-⟩:=one_eq l (p4+1) (by omega) (by omega) hl [[.int 2],[.int 2],[.int 2],[.int 2],[.int 0],[.int 3]] (by simp) (by simp) (by simp)
    simp only[List.length_cons,List.length_nil,Nat.zero_add,Nat.reduceAdd]at ht
    refine⟨filtP e V,V,[a,b,m],t,(p4+1)+1,?_,filt_step a3 hVt,hVt,⟨hBf V e hVb,hVb,by omega,by omega⟩,by simp,hw4⟩
    rw[callA_eq rfl Tryz.func71 rfl rfl]
    simp[hl2,hr,hv,w1,hV,hW,hm,hQ,hz1,h1,hW0,ints3,intsL,hz2,h2,ht,he,hc,hf,filtP_cells,Ex.cells_eq e,Pn.cells_eq V]
  ·skip
   obtain⟨z2,hz2,-,-⟩:=pick_eq l (p3+1) 3 (by omega) (by omega) hl
   by_cases h2:z2=0
   ·obtain⟨t,ht,-⟩:=one_eq l ((p3+1)+1) (by omega) (by omega) hl [[.int 2],[.int 2],[.int 2],[.int 2],[.int 0],[.int 3]] (by simp) (by simp) (by simp)
    simp only[List.length_cons,List.length_nil,Nat.zero_add,Nat.reduceAdd]at ht
    refine⟨.mk 6 0 [] [] [V, .mk 1 2 [] [] []],V,[a,b,m],t,((p3+1)+1)+1,?_,by simp[Pn.thin,Pn.thinL,hVt],hVt,⟨hBu V hVb,hVb,by omega,by omega⟩,by simp,hw4⟩
    rw[callA_eq rfl Tryz.func71 rfl rfl]
    simp[hl2,hr,hv,w1,hV,hW,hm,hQ,hz1,h1,hW0,ints3,intsL,hz2,h2,ht,Pn.cells_eq Q,hc,Pn.cells_mk,Ex.cellsL,Pn.cellsL,scan2_cells,Pn.cells_eq V]
   ·obtain⟨t,ht,-⟩:=one_eq l ((p3+1)+1) (by omega) (by omega) hl [[.int 2],[.int 2],[.int 2],[.int 2],[.int 0],[.int 3]] (by simp) (by simp) (by simp)
    simp only[List.length_cons,List.length_nil,Nat.zero_add,Nat.reduceAdd]at ht
    refine⟨Q,V,[a,b,m],t,((p3+1)+1)+1,?_,hQt,hVt,⟨hQb,hVb,by omega,by omega⟩,by simp,hw4⟩
    rw[callA_eq rfl Tryz.func71 rfl rfl]
    simp[hl2,hr,hv,w1,hV,hW,hm,hQ,hz1,h1,hW0,ints3,intsL,hz2,h2,ht,Pn.cells_eq Q,Pn.cells_eq V]
 ·by_cases h1:0<z1
  ·skip
   obtain⟨z2,hz2,-,-⟩:=pick_eq l (p3+1) 3 (by omega) (by omega) hl
   by_cases h2:z2=0
   ·obtain⟨t,ht,-⟩:=one_eq l ((p3+1)+1) (by omega) (by omega) hl [[.int 2],[.int 2],[.int 2],[.int 2],[.int 0],[.int 3]] (by simp) (by simp) (by simp)
    simp only[List.length_cons,List.length_nil,Nat.zero_add,Nat.reduceAdd]at ht
    refine⟨Q,V,[a,b,m],t,((p3+1)+1)+1,?_,hQt,hVt,⟨hQb,hVb,by omega,by omega⟩,by simp,hw4⟩
    rw[callA_eq rfl Tryz.func71 rfl rfl]
    simp[hl2,hr,hv,w1,hV,hW,hm,hQ,hz1,h1,hW0,ints3,intsL,hz2,h2,ht,Pn.cells_eq Q,Pn.cells_eq V]
   ·obtain⟨t,ht,-⟩:=one_eq l ((p3+1)+1) (by omega) (by omega) hl [[.int 2],[.int 2],[.int 2],[.int 2],[.int 0],[.int 3]] (by simp) (by simp) (by simp)
    simp only[List.length_cons,List.length_nil,Nat.zero_add,Nat.reduceAdd]at ht
    refine⟨Q,V,[a,b,m],t,((p3+1)+1)+1,?_,hQt,hVt,⟨hQb,hVb,by omega,by omega⟩,by simp,hw4⟩
    rw[callA_eq rfl Tryz.func71 rfl rfl]
    simp[hl2,hr,hv,w1,hV,hW,hm,hQ,hz1,h1,hW0,ints3,intsL,hz2,h2,ht,Pn.cells_eq Q,Pn.cells_eq V]
  ·skip
   obtain⟨z2,hz2,-,-⟩:=pick_eq l (p3+1) 3 (by omega) (by omega) hl
   by_cases h2:z2=0
   ·obtain⟨t,ht,-⟩:=one_eq l ((p3+1)+1) (by omega) (by omega) hl [[.int 2],[.int 2],[.int 2],[.int 2],[.int 0],[.int 3]] (by simp) (by simp) (by simp)
    simp only[List.length_cons,List.length_nil,Nat.zero_add,Nat.reduceAdd]at ht
    refine⟨Q,V,[a,b,m],t,((p3+1)+1)+1,?_,hQt,hVt,⟨hQb,hVb,by omega,by omega⟩,by simp,hw4⟩
    rw[callA_eq rfl Tryz.func71 rfl rfl]
    simp[hl2,hr,hv,w1,hV,hW,hm,hQ,hz1,h1,hW0,ints3,intsL,hz2,h2,ht,Pn.cells_eq Q,Pn.cells_eq V]
   ·obtain⟨t,ht,-⟩:=one_eq l ((p3+1)+1) (by omega) (by omega) hl [[.int 2],[.int 2],[.int 2],[.int 2],[.int 0],[.int 3]] (by simp) (by simp) (by simp)
    simp only[List.length_cons,List.length_nil,Nat.zero_add,Nat.reduceAdd]at ht
    refine⟨Q,V,[a,b,m],t,((p3+1)+1)+1,?_,hQt,hVt,⟨hQb,hVb,by omega,by omega⟩,by simp,hw4⟩
    rw[callA_eq rfl Tryz.func71 rfl rfl]
    simp[hl2,hr,hv,w1,hV,hW,hm,hQ,hz1,h1,hW0,ints3,intsL,hz2,h2,ht,Pn.cells_eq Q,Pn.cells_eq V]
def matB (v:Pn) (db:List Tbl) (t:Int):Bool:=canB v (db.map Tbl.w) t && !scP t v
theorem canB_iff {v:Pn} {ws:List Int} {t:Int}:canB v ws t=true↔v.width ws≠0∧0≤t∧t<ws.length∧ws[t.toNat]?=some (v.width ws):=by
 unfold canB;simp only[Bool.and_eq_true,decide_eq_true_eq]
@[simp] theorem ce_canHold (a:List AV) (st:StL):callA CE 74 a st=callA C0 74 a st:=by
  rw[callA_prim (p:=callA CR 74) rfl,callA_prim (p:=callA C0 74) rfl]
@[simp] theorem ce_scans (a:List AV) (st:StL):callA CE 75 a st=callA C0 75 a st:=by
  rw[callA_prim (p:=callA CR 75) rfl,callA_prim (p:=callA C0 75) rfl]
theorem Materialize_eq {A B C:Tbl} (hok:∀ T∈[A,B,C],T.ok=true) (v:Pn) (hv:v.thin) (t:Int)
 (hS:∀ (i:Nat) (T:Tbl),[A,B,C][i]?=some T→callA CE 27 [.i (.agg [.int 1, .int i, .isl [], .isl [], .isl []]), .i (.isl (tblsL [A,B,C]))] []=some (.tup [.i (.agg [.int T.w, .isl (rowsL T.rows)]), .bool true],[]))
 (hV:v.width ([A,B,C].map Tbl.w)≠0→callA CE 27 [.i (.agg v.cells), .i (.isl (tblsL [A,B,C]))] []=some (.tup [.i (.agg [.int (v.evP [A,B,C]).w, .isl (rowsL (v.evP [A,B,C]).rows)]), .bool true],[])) :
 callA CE 38 [.i (.isl (tblsL [A,B,C])), .i (.agg v.cells), .int t] []=some (if matB v [A,B,C] t=true then .tup [.i (.isl (tblsL ([A,B,C].set t.toNat (v.evP [A,B,C])))), .bool true]else .tup [.i (.isl []), .bool false],[]):=by
 have c1:=widthsOf_eq [A,B,C] (fun T hT=>Tbl.ok_small (hok T hT))
 have hall:([A,B,C].all Tbl.ok)=true:=List.all_eq_true.2 hok
 simp only[hall,List.length_cons,List.length_nil,Nat.zero_add,Nat.reduceAdd,Nat.reduceLeDiff,and_self,decide_true,Bool.and_self,if_true]at c1
 have c2:=canHold_eq v ([A,B,C].map Tbl.w) t
 have c3:=scans_eq v hv t
 have s0:=hS 0 A rfl
 have s1:=hS 1 B rfl
 have s2:=hS 2 C rfl
 have x1:IntKind.i64.wrap 1=1:=wrap64 (by omega) (by omega)
 have x2:IntKind.i64.wrap 2=2:=wrap64 (by omega) (by omega)
 have x3:IntKind.i64.wrap 3=3:=wrap64 (by omega) (by omega)
 rw[callA_eq rfl Tryz.func38 rfl rfl]
 unfold matB
 cases hc:canB v ([A,B,C].map Tbl.w) t with
 | false =>
  rw[hc]at c2
  rw[Pn.cells_eq v]at *
  simp only[tblsL,List.map_cons,List.map_nil,Tbl.cells,intsL]at c1 c2 ⊢
  simp[c1,c2]
 | true =>
  obtain⟨q1,q2,q3,-⟩:=canB_iff.1 hc
  have hV:=hV q1
  rw[hc]at c2
  cases hs:scP t v with
  | true =>
   rw[hs]at c3
   rw[Pn.cells_eq v]at *
   simp only[tblsL,List.map_cons,List.map_nil,Tbl.cells,intsL]at c1 c2 ⊢
   simp[c1,c2,c3]
  | false =>
   rw[hs]at c3
   generalize v.evP [A,B,C]=R at *
   rw[Pn.cells_eq v]at *
   simp only[List.map_cons,List.map_nil,List.length_cons,List.length_nil]at q3
   have ht:t=0∨t=1∨t=2:=by omega
   simp only[tblsL,List.map_cons,List.map_nil,Tbl.cells,intsL]at c1 c2 s0 s1 s2 hV ⊢
   simp at s0 s1 s2
   rcases ht with rfl|rfl|rfl
   ·simp[c1,c2,c3]
    iterate 3 (rw[execA_loop];simp[s0,s1,s2,hV,x1,x2,x3])
    rw[execA_loop]
    simp[s0,s1,s2,hV,Tbl.cells]
   ·simp[c1,c2,c3]
    iterate 3 (rw[execA_loop];simp[s0,s1,s2,hV,x1,x2,x3])
    rw[execA_loop]
    simp[s0,s1,s2,hV,Tbl.cells]
   ·simp[c1,c2,c3]
    iterate 3 (rw[execA_loop];simp[s0,s1,s2,hV,x1,x2,x3])
    rw[execA_loop]
    simp[s0,s1,s2,hV,Tbl.cells]
theorem stableOf_id {T:Tbl} (h:T.ok=true):callA C0 78 [.int T.w, .i (.isl (rowsL T.rows))] []=some (.i (.agg [.int T.w, .isl (rowsL T.rows)]),[]):=by
 obtain⟨h1,h2,h3,h4⟩:=(Tbl.ok_iff T).1 h
 have hw:=(okWidth_iff _).1 h1
 have:=stableOf_eq T.w T.rows T.w.toNat (by omega) (by omega) (by omega) fun r hr=>⟨rowOk_ok (h3 r hr),by have:=rowOk_len (h3 r hr);omega⟩
 rw[tab_id h]at this
 exact this
theorem sMaterialize_eq {A B C:Tbl} (hok:∀ T∈[A,B,C],T.ok=true) (v:Pn) (hv:v.thin) (t:Int) :
 callA C0 39 [.i (.isl (tblsL [A,B,C])), .i (.agg v.cells), .int t] []=some (if matB v [A,B,C] t=true then .tup [.i (.isl (tblsL ([A,B,C].set t.toNat (v.evP [A,B,C])))), .bool true]else .tup [.i (.isl []), .bool false],[]):=by
 have c1:=swidthsOf_eq [A,B,C] (by simp) (fun T hT=>Tbl.ok_small (hok T hT))
 have hall:([A,B,C].all Tbl.ok)=true:=List.all_eq_true.2 hok
 simp only[hall,if_true]at c1
 have c2:=widthOf_eq v (Pn.thin_lim v hv) ([A,B,C].map Tbl.w) (by simp)
 have x1:IntKind.i64.wrap 1=1:=wrap64 (by omega) (by omega)
 have x2:IntKind.i64.wrap 2=2:=wrap64 (by omega) (by omega)
 have x3:IntKind.i64.wrap 3=3:=wrap64 (by omega) (by omega)
 have oA:=stableOf_id (hok A (by simp))
 have oB:=stableOf_id (hok B (by simp))
 have oC:=stableOf_id (hok C (by simp))
 have hw6:∀ T∈[A,B,C],1≤T.w∧T.w≤6:=fun T hT=>(okWidth_iff _).1 ((Tbl.ok_iff T).1 (hok T hT)).1
 have wA:=hw6 A (by simp)
 have wB:=hw6 B (by simp)
 have wC:=hw6 C (by simp)
 rw[callA_eq rfl Tryz.func39 rfl rfl]
 unfold matB
 by_cases ht:t=0∨t=1∨t=2
 case neg =>
  have hc:canB v ([A,B,C].map Tbl.w) t=false:=by
   cases h:canB v ([A,B,C].map Tbl.w) t with
   | false=>rfl
   | true =>
    obtain⟨_,q2,q3,_⟩:=canB_iff.1 h
    simp only[List.map_cons,List.map_nil,List.length_cons,List.length_nil]at q3
    omega
  have hr:¬ (0≤t∧t≤2):=by omega
  rw[hc]
  rw[Pn.cells_eq v]at *
  simp only[tblsL,List.map_cons,List.map_nil,Tbl.cells,intsL]at c1 c2 ⊢
  simp[c1,hr,x2]
 have hcB:canB v ([A,B,C].map Tbl.w) t=decide (v.width ([A,B,C].map Tbl.w)=([A.w,B.w,C.w][t.toNat]?).getD 0):=by
  rw[Bool.eq_iff_iff,canB_iff,decide_eq_true_eq]
  rcases ht with rfl|rfl|rfl<;>simp<;>omega
 rw[hcB]
 by_cases hwv:v.width ([A,B,C].map Tbl.w)=([A.w,B.w,C.w][t.toNat]?).getD 0
 case neg =>
  simp only[decide_eq_false hwv]
  generalize v.width ([A,B,C].map Tbl.w)=W at *
  rw[Pn.cells_eq v]at *
  simp only[tblsL,List.map_cons,List.map_nil,Tbl.cells,intsL]at c1 c2 ⊢
  rcases ht with rfl|rfl|rfl<;>(simp at hwv;simp[c1,c2,x2,hwv])
 have hv0:v.width ([A,B,C].map Tbl.w)≠0:=by rw[hwv];rcases ht with rfl|rfl|rfl<;>simp<;>omega
 obtain⟨hws,hwd,_⟩:=width_ok8 hv0
 have c3:=addTables_eq v [] (by have:=(Pn.wd_fit v 8 hwd).2;simp;omega)
 rw[addT_tabsN hwd]at c3
 have c4:=sevalPlan_eq rfl hok v 8 hwd
 simp only[List.map_cons,List.map_nil,List.length_cons,List.length_nil,Nat.zero_add,Nat.reduceAdd]at c3
 simp only[decide_eq_true hwv,Bool.true_and]
 generalize v.evP [A,B,C]=R at *
 rw[hwv]at c2
 clear hv0 hwv hcB
 have ht3:tabsN v 3=(if scP 0 v=true then [0]else [])++((if scP 1 v=true then [1]else [])++(if scP 2 v=true then [2]else [])):=by simp[tabsN]
 rw[ht3]at c3
 rw[Pn.cells_eq v]at *
 simp only[tblsL,List.map_cons,List.map_nil,Tbl.cells,intsL]at c1 c2 c4 ⊢
 simp[intsL]at c3
 rcases ht with rfl|rfl|rfl<;>simp at c2<;>cases s0:scP 0 v<;>cases s1:scP 1 v<;>cases s2:scP 2 v<;>simp[s0,s1,s2,intsL]at c3<;>simp[c1,c2,c3,x2]
 ·iterate 4 (rw[execA_loop];simp[c4,oA,oB,oC,x1,x2,x3,Tbl.cells])
  rw[execA_loop];simp[c4,oA,oB,oC,x1,x2,x3,Tbl.cells]
 ·iterate 5 (rw[execA_loop];simp[c4,oA,oB,oC,x1,x2,x3,Tbl.cells])
  rw[execA_loop];simp[c4,oA,oB,oC,x1,x2,x3,Tbl.cells]
 ·iterate 5 (rw[execA_loop];simp[c4,oA,oB,oC,x1,x2,x3,Tbl.cells])
  rw[execA_loop];simp[c4,oA,oB,oC,x1,x2,x3,Tbl.cells]
 ·iterate 6 (rw[execA_loop];simp[c4,oA,oB,oC,x1,x2,x3,Tbl.cells])
  rw[execA_loop];simp[c4,oA,oB,oC,x1,x2,x3,Tbl.cells]
 ·(rw[execA_loop];simp[c4,oA,oB,oC,x1,x2,x3,Tbl.cells])
 ·(rw[execA_loop];simp[c4,oA,oB,oC,x1,x2,x3,Tbl.cells])
 ·(rw[execA_loop];simp[c4,oA,oB,oC,x1,x2,x3,Tbl.cells])
 ·(rw[execA_loop];simp[c4,oA,oB,oC,x1,x2,x3,Tbl.cells])
 ·iterate 4 (rw[execA_loop];simp[c4,oA,oB,oC,x1,x2,x3,Tbl.cells])
  rw[execA_loop];simp[c4,oA,oB,oC,x1,x2,x3,Tbl.cells]
 ·iterate 5 (rw[execA_loop];simp[c4,oA,oB,oC,x1,x2,x3,Tbl.cells])
  rw[execA_loop];simp[c4,oA,oB,oC,x1,x2,x3,Tbl.cells]
 ·(rw[execA_loop];simp[c4,oA,oB,oC,x1,x2,x3,Tbl.cells])
 ·(rw[execA_loop];simp[c4,oA,oB,oC,x1,x2,x3,Tbl.cells])
 ·iterate 5 (rw[execA_loop];simp[c4,oA,oB,oC,x1,x2,x3,Tbl.cells])
  rw[execA_loop];simp[c4,oA,oB,oC,x1,x2,x3,Tbl.cells]
 ·iterate 6 (rw[execA_loop];simp[c4,oA,oB,oC,x1,x2,x3,Tbl.cells])
  rw[execA_loop];simp[c4,oA,oB,oC,x1,x2,x3,Tbl.cells]
 ·(rw[execA_loop];simp[c4,oA,oB,oC,x1,x2,x3,Tbl.cells]);(rw[execA_loop];simp[c4,oA,oB,oC,x1,x2,x3,Tbl.cells])
 ·(rw[execA_loop];simp[c4,oA,oB,oC,x1,x2,x3,Tbl.cells]);(rw[execA_loop];simp[c4,oA,oB,oC,x1,x2,x3,Tbl.cells])
 ·iterate 4 (rw[execA_loop];simp[c4,oA,oB,oC,x1,x2,x3,Tbl.cells])
  rw[execA_loop];simp[c4,oA,oB,oC,x1,x2,x3,Tbl.cells]
 ·(rw[execA_loop];simp[c4,oA,oB,oC,x1,x2,x3,Tbl.cells])
 ·iterate 5 (rw[execA_loop];simp[c4,oA,oB,oC,x1,x2,x3,Tbl.cells])
  rw[execA_loop];simp[c4,oA,oB,oC,x1,x2,x3,Tbl.cells]
 ·(rw[execA_loop];simp[c4,oA,oB,oC,x1,x2,x3,Tbl.cells]);(rw[execA_loop];simp[c4,oA,oB,oC,x1,x2,x3,Tbl.cells])
 ·iterate 5 (rw[execA_loop];simp[c4,oA,oB,oC,x1,x2,x3,Tbl.cells])
  rw[execA_loop];simp[c4,oA,oB,oC,x1,x2,x3,Tbl.cells]
 ·(rw[execA_loop];simp[c4,oA,oB,oC,x1,x2,x3,Tbl.cells]);(rw[execA_loop];simp[c4,oA,oB,oC,x1,x2,x3,Tbl.cells])
 ·iterate 6 (rw[execA_loop];simp[c4,oA,oB,oC,x1,x2,x3,Tbl.cells])
  rw[execA_loop];simp[c4,oA,oB,oC,x1,x2,x3,Tbl.cells]
 ·(rw[execA_loop];simp[c4,oA,oB,oC,x1,x2,x3,Tbl.cells]);(rw[execA_loop];simp[c4,oA,oB,oC,x1,x2,x3,Tbl.cells]);(rw[execA_loop];simp[c4,oA,oB,oC,x1,x2,x3,Tbl.cells])
theorem list_three {α:Type} {l:List α} (h:l.length=3):∃ a b c,l=[a,b,c]:=by
 match l,h with
 | [a,b,c],_=>exact⟨a,b,c,rfl⟩
def RDF (l:List UInt8) (ws:List Int) (ts:List Tbl) (ps:Nat→Int) (i:Nat):AS :=
 { env:=[(0, .own 0 0),(1, .i (.isl (intsL ws))),(4, .nils),(5, .osl 1 2 0 i),(6, .int i),(11,jk i (.bool true))],st:=[Rd l (ps i),some (.arr 2 (tblsL (ts.take i)))] }
theorem randomDatabaseF_eq (l:List UInt8) (hl:l.length≤2000) (ws:List Int) (hw:∀ w∈ws,1≤w∧w≤6) (hn:ws.length≤10) (p:Int) (h0:0≤p) (h1:p<300000000):∃ (ts:List Tbl) (p':Int),callA C0 72 [.own 0 0, .i (.isl (intsL ws))] [Rd l p]=some (.osl 1 2 0 ws.length,[Rd l p',some (.arr 2 (tblsL ts))])∧ts.map Tbl.w=ws∧(∀ t∈ts,t.ok=true∧t.rows.length≤4)∧p≤p'∧p'≤p+5000:=by
 obtain⟨ts,ps,a1,a5,a2,a3,a4⟩:=tabs_ok l hl ws p hw h0 (by omega)
 have b1:=a3 ws.length (by omega)
 have htl:ts.length=ws.length:=by rw[← a1];simp
 refine⟨ts,ps ws.length,?_,a1,a5,by omega,by omega⟩
 rw[callA_eq rfl Tryz.func72 rfl rfl]
 simp
 rw[loop_to (RDF l ws ts ps) ws.length (by simp[RDF,a2,tblsL])]
 ·rw[execA_loop]
  have e1:ts.take ws.length=ts:=List.take_of_length_le (by omega)
  simp[RDF,e1]
 ·intro i hi
  obtain⟨t,ht⟩:∃ t,ts[i]?=some t:=⟨_,List.getElem?_eq_getElem (by omega)⟩
  have hd:=a4 i t ht
  have hwi:ws[i]?=some t.w:=by rw[← a1,List.getElem?_map,ht];rfl
  have k1:=intsL_nth hwi
  obtain⟨w1,w2⟩:=hw t.w (List.mem_of_getElem? hwi)
  have hT:=take_snoc ht
  have m1:¬ 1 > t.w:=by omega
  have m2:¬ t.w<1:=by omega
  have m3:¬ 6<t.w:=by omega
  have w3:IntKind.i64.wrap ((i:Int)+1)=i+1:=wrap64 (by omega) (by omega)
  have hb:(i+1)*32≤140737488355328:=by omega
  have e1:List.take i (List.take i ts)=List.take i ts:=by rw[List.take_take,Nat.min_self]
  have e1':List.take i (List.take i (ts.map Tbl.cells))=List.take i (ts.map Tbl.cells):=by rw[List.take_take,Nat.min_self]
  have hmin:min i ts.length=i:=by omega
  simp[RDF,hi,k1,m1,m2,m3,hd,hT,w3,hb,e1,e1',hmin,tblsL_append,tblsL,Tbl.cells]
structure Mt (V:Pn) (A B C:Tbl):Prop where
 thin:V.thin
 bd:∀ n:Nat,1≤n→V.bd n≤n
 ok:∀ T∈[A,B,C],T.ok=true
 rows:∀ T∈[A,B,C],T.rows.length≤4
@[simp] theorem ce_viewOf (a:List AV) (st:StL):callA CE 71 a st=callA CP 71 a st:=by
  rw[callA_prim (p:=callA CP 71) rfl]
@[simp] theorem ce_sMaterialize (a:List AV) (st:StL):callA CE 39 a st=callA C0 39 a st:=by
  rw[callA_prim (p:=callA CR 39) rfl,callA_prim (p:=callA C0 39) rfl]
theorem drawMat_eq (code:List UInt8):∃ (V:Pn) (A B C:Tbl) (t:Int),callA CE 37 [.i (.isl (bytesI code))] []=some (.tup [.i (.isl (tblsL [A,B,C])), .i (.agg V.cells), .int t],[])∧Mt V A B C:=by
 obtain⟨c,hc,hr⟩:=newReader_eq code
 obtain⟨P,V,ws,t,p',h,h1,h2,⟨b1,b2,b3,b4⟩,h3,h4⟩:=viewOfB_eq hc
 obtain⟨ts,p2,hd,d1,d2,d3,d4⟩:=randomDatabaseF_eq c hc ws h4 (by omega) p' b3 (by omega)
 obtain⟨A,B,C,rfl⟩:=list_three (show ts.length=3 by have:=congrArg List.length d1;simpa [h3]using this)
 refine⟨V,A,B,C,t,?_,h2,b2,fun T hT=>(d2 T hT).1,fun T hT=>(d2 T hT).2⟩
 rw[callA_eq rfl Tryz.func37 rfl rfl]
 rw[h3]at hd
 rw[Pn.cells_eq P,Pn.cells_eq V]at h
 rw[Pn.cells_eq V]
 have ht:List.take 3 (tblsL [A,B,C])=tblsL [A,B,C]:=rfl
 simp[hr,h,hd,ht]
theorem okWs3 {A B C:Tbl} (hok:∀ T∈[A,B,C],T.ok=true):okWs ([A,B,C].map Tbl.w)=true:=by
 have h:∀ T∈[A,B,C],okWidth T.w=true:=fun T hT=>((Tbl.ok_iff T).1 (hok T hT)).1
 unfold okWs
 simp[h A (by simp),h B (by simp),h C (by simp)]
theorem evalOk {q:Pn} {db:List Tbl} (hok:∀ T∈db,T.ok=true) (hw:q.width (db.map Tbl.w)≠0) (hf:q.fit db=true):callA CE 27 [.i (.agg q.cells), .i (.isl (tblsL db))] []=some (.tup [.i (.agg [.int (q.evP db).w, .isl (rowsL (q.evP db).rows)]), .bool true],[]):=by
 have h:=EvalPlan_eq q db (fun T hT=>Tbl.ok_small (hok T hT)) (fun _=>hf)
 have hev:evOk q db=true:=by unfold evOk;simp only[List.all_eq_true.2 hok,hw,ne_eq,not_false_eq_true,decide_true,Bool.and_self]
 rw[hev,if_pos rfl]at h
 exact h
theorem evalNo {q:Pn} {db:List Tbl} (hok:∀ T∈db,T.ok=true) (hw:q.width (db.map Tbl.w)=0):callA CE 27 [.i (.agg q.cells), .i (.isl (tblsL db))] []=some (.tup [.i (.agg [.int 0, .isl []]), .bool false],[]):=by
 have hev:evOk q db=false:=by unfold evOk;simp[hw]
 have h:=EvalPlan_eq q db (fun T hT=>Tbl.ok_small (hok T hT)) (fun h=>by rw[hev]at h;cases h)
 rw[hev,if_neg (by simp)]at h
 exact h
theorem scanEval {A B C:Tbl} (hok:∀ T∈[A,B,C],T.ok=true) (i:Nat) (T:Tbl) (hT:[A,B,C][i]?=some T):callA CE 27 [.i (.agg [.int 1, .int i, .isl [], .isl [], .isl []]), .i (.isl (tblsL [A,B,C]))] []=some (.tup [.i (.agg [.int T.w, .isl (rowsL T.rows)]), .bool true],[]):=by
 have ho:=hok T (List.mem_of_getElem? hT)
 have h4:=((Tbl.ok_iff T).1 ho).2.1
 have hw:=(okWidth_iff _).1 ((Tbl.ok_iff T).1 ho).1
 have hwd:(Pn.scan i).wd ([A,B,C].map Tbl.w) 8=T.w:=scan_wd (by omega) (by rw[Int.toNat_natCast,List.getElem?_map,hT];rfl) 8
 have hE:(Pn.scan i).evP [A,B,C]=T:=by rw[evP_scan,Int.toNat_natCast,hT];exact tab_id ho
 have h:=evalOk (q:=.scan i) hok (by unfold Pn.width;rw[if_pos (okWs3 hok),hwd];omega) (fit_scan.2 (by rw[Int.toNat_natCast,hT];exact h4))
 rw[hE]at h
 simpa [Pn.scan,Pn.cells_mk,Ex.cellsL,Pn.cellsL,intsL]using h
theorem Mt.fit {V:Pn} {A B C:Tbl} (h:Mt V A B C) {lv:Nat} (hw:V.wd ([A,B,C].map Tbl.w) lv≠0):V.fit [A,B,C]=true∧(V.evP [A,B,C]).rows.length≤4:=by
 have hb:=h.bd 4 (by omega)
 obtain⟨h1,h2⟩:=bd_fit (n:=4) (by omega) rfl (fun T hT=>⟨h.ok T hT,h.rows T hT⟩) V lv hw (by omega)
 exact⟨h1,by omega⟩
structure MtL (V:Pn) (A B C:Tbl) (t:Int) (R:Tbl):Prop where
 wd:V.wd ([A,B,C].map Tbl.w) 8≠0
 width:V.width ([A,B,C].map Tbl.w)≠0
 ht:t=0∨t=1∨t=2
 ns:scP t V=false
 can:canB V ([A,B,C].map Tbl.w) t=true
 rok:R.ok=true
 rlen:R.rows.length≤4
 fit:V.fit [A,B,C]=true
 ok:∀ T∈[A,B,C].set t.toNat R,T.ok=true
 ws:([A,B,C].set t.toNat R).map Tbl.w=[A,B,C].map Tbl.w
 ev:V.evP ([A,B,C].set t.toNat R)=R
 fit2:V.fit ([A,B,C].set t.toNat R)=true
 at0:([A,B,C].map Tbl.w)[t.toNat]?=some (V.wd ([A,B,C].map Tbl.w) 8)
theorem mtL {V:Pn} {A B C:Tbl} {t:Int} (h:Mt V A B C) (hm:matB V [A,B,C] t=true):MtL V A B C t (V.evP [A,B,C]):=by
 unfold matB at hm
 simp only[Bool.and_eq_true,Bool.not_eq_true']at hm
 obtain⟨hc,hns⟩:=hm
 obtain⟨q1,q2,q3,q4⟩:=canB_iff.1 hc
 obtain⟨_,hwd,hww⟩:=width_ok8 q1
 obtain⟨f1,f2⟩:=h.fit hwd
 obtain⟨gR,wR⟩:=ev_good rfl h.ok V 8 hwd
 have ht:t=0∨t=1∨t=2:=by simp only[List.map_cons,List.map_nil,List.length_cons,List.length_nil]at q3;omega
 have hsc:∀ s:Int,scP s V=true→([A,B,C].set t.toNat (V.evP [A,B,C]))[s.toNat]?=[A,B,C][s.toNat]?:=fun s hs=>by
  have hr:=scP_rng V 8 hwd hs
  have:s≠t:=fun e=>by rw[e,hns]at hs;cases hs
  rw[List.getElem?_set_ne (by omega)]
 refine⟨hwd,q1,ht,hns,hc,gR,f2,f1,?_,?_,?_,?_,by rw[← hww];exact q4⟩
 ·intro T hT
  rcases List.mem_or_eq_of_mem_set hT with hT|rfl
  ·exact h.ok T hT
  ·exact gR
 ·rw[← hww]at wR
  rw[← wR]at q4
  rcases ht with rfl|rfl|rfl<;>simp at q4<;>simp[q4]
 ·exact ev_scanned V 8 hwd hsc
 ·exact fit_scanned V 8 hwd hsc f1
theorem mat_again {V:Pn} {A B C R:Tbl} {t:Int} {A' B' C':Tbl} (hv:V.thin) (h:MtL V A B C t R) (he:[A,B,C].set t.toNat R=[A',B',C']) :
 callA CE 38 [.i (.isl (tblsL [A',B',C'])), .i (.agg V.cells), .int t] []=some (.tup [.i (.isl (tblsL [A',B',C'])), .bool true],[]):=by
 have hok:=h.ok
 have hws:=h.ws
 have hev:=h.ev
 have hf:=h.fit2
 rw[he]at hok hws hev hf
 have m:=Materialize_eq hok V hv t (scanEval hok) (fun hw=>evalOk hok hw hf)
 have hm:matB V [A',B',C'] t=true:=by unfold matB;rw[hws,h.can,h.ns];rfl
 rw[hm,if_pos rfl,hev]at m
 have hset:[A',B',C'].set t.toNat R=[A',B',C']:=by rw[← he,List.set_set]
 rw[hset]at m
 exact m
theorem law_materialize (code:List UInt8):callA CE 14 [.i (.isl (bytesI code))] []=some (.bool true,[]):=by
 rw[callA_eq rfl Tryz.func14 rfl rfl]
 by_cases hl:(1048576:Int)<code.length
 ·simp[bytesI_length,hl]
 obtain⟨V,A,B,C,t,hd,hM⟩:=drawMat_eq code
 have m1:=Materialize_eq hM.ok V hM.thin t (scanEval hM.ok) (fun hw=>evalOk hM.ok hw (hM.fit (width_ok8 hw).2.1).1)
 have m2:=sMaterialize_eq hM.ok V hM.thin t
 have x1:IntKind.i64.wrap 1=1:=wrap64 (by omega) (by omega)
 have x2:IntKind.i64.wrap 2=2:=wrap64 (by omega) (by omega)
 have x3:IntKind.i64.wrap 3=3:=wrap64 (by omega) (by omega)
 cases hm:matB V [A,B,C] t with
 | false =>
  simp only[hm,Bool.false_eq_true,if_false]at m1 m2
  rw[Pn.cells_eq V]at *
  simp only[tblsL,List.map_cons,List.map_nil,Tbl.cells]at hd m1 m2
  simp[bytesI_length,hl,hd,m1,m2]
 | true =>
  simp only[hm,if_true]at m1 m2
  have hL:=mtL hM hm
  have hE:=evalOk hM.ok hL.width hL.fit
  have eA:=eq_same (hM.ok A (by simp))
  have eB:=eq_same (hM.ok B (by simp))
  have eC:=eq_same (hM.ok C (by simp))
  have eR:=eq_same hL.rok
  have hag:=fun A' B' C'=>mat_again (A':=A') (B':=B') (C':=C') hM.thin hL
  have ht:=hL.ht
  generalize V.evP [A,B,C]=R at *
  rcases ht with rfl|rfl|rfl
  ·have m3:=hag _ _ _ rfl
   clear hL hM hag hm
   rw[Pn.cells_eq V]at *
   simp only[tblsL,List.map_cons,List.map_nil,Tbl.cells,Int.toNat_zero,List.set_cons_zero]at hd m1 m2 m3 hE
   simp[bytesI_length,hl,hd,m1,m2,m3,hE]
   iterate 3 (rw[execA_loop];simp[eA,eB,eC,eR,x1,x2,x3])
   rw[execA_loop]
   simp[eA,eB,eC,eR]
  ·have m3:=hag _ _ _ rfl
   clear hL hM hag hm
   rw[Pn.cells_eq V]at *
   simp only[tblsL,List.map_cons,List.map_nil,Tbl.cells,show Int.toNat 1=1 by rfl,List.set_cons_zero,List.set_cons_succ]at hd m1 m2 m3 hE
   simp[bytesI_length,hl,hd,m1,m2,m3,hE]
   iterate 3 (rw[execA_loop];simp[eA,eB,eC,eR,x1,x2,x3])
   rw[execA_loop]
   simp[eA,eB,eC,eR]
  ·have m3:=hag _ _ _ rfl
   clear hL hM hag hm
   rw[Pn.cells_eq V]at *
   simp only[tblsL,List.map_cons,List.map_nil,Tbl.cells,show Int.toNat 2=2 by rfl,List.set_cons_zero,List.set_cons_succ]at hd m1 m2 m3 hE
   simp[bytesI_length,hl,hd,m1,m2,m3,hE]
   iterate 3 (rw[execA_loop];simp[eA,eB,eC,eR,x1,x2,x3])
   rw[execA_loop]
   simp[eA,eB,eC,eR]
end Go.Proofs.YtiailccmofdhfaaGreat.P
namespace Go.Proofs.YtiailccmofdhfaaGreat.P
open Go Go.Av
set_option maxRecDepth 4000
set_option maxHeartbeats 4000000
def Est (v:Pn) (t:Int):StL:=[some (.box [.int t]),vB true v]
theorem copyP_call {v:Pn} (h:v.small):callA C0 92 [.i (.iref v.cells)] []=some (.i (.agg v.cells),[]):=by
 rw[callA_prim (p:=copyP) rfl];exact copyP_eq h
theorem exp1_eq {p v:Pn} (hv:v.small) {t:Int}:callA C0 91 [.i (.iref p.cells), .own 0 0, .own 1 0] (Est v t) =
 some (.tup [.i (.agg (if p.hit t=true then v else Pn.zero).cells), .bool (p.hit t)],Est v t):=by
 have hc:=copyP_call hv
 rw[callA_eq rfl Tryz.func91 rfl rfl]
 unfold Pn.hit
 rw[Pn.cells_eq v]at hc
 by_cases h1:p.kind=1
 ·by_cases h2:p.table=t
  ·simp[Est,vB,Pn.cells_eq p,Pn.cells_eq v,hc,h1,h2]
  ·simp[Est,vB,Pn.cells_eq p,Pn.cells_eq v,hc,h1,h2,Pn.zero,Pn.cells,Ex.cellsL,intsL,Pn.cellsL]
 ·simp[Est,vB,Pn.cells_eq p,Pn.cells_eq v,hc,h1,Pn.zero,Pn.cells,Ex.cellsL,intsL,Pn.cellsL]
theorem withE_hit {p v:Pn} (hv:v.small) {t:Int} (hh:p.hit t=true):callA C0 90 [.i (.iref p.cells), .fn (.func 91) [.own 0 0, .own 1 0]] (Est v t)=some (.i (.agg v.cells),Est v t):=by
 have hf:=exp1_eq (p:=p) (t:=t) hv
 simp only[hh,if_true,Est]at hf
 rw[callA_eq rfl Tryz.func90 rfl rfl]
 rw[Pn.cells_eq v]at *
 simp[Est,hf]
def VX11 (p v:Pn) (t:Int) (i:Nat):AS :=
 { env:=[(0, .i (.iref [.int p.kind, .int p.table, .isl (Ex.cellsL p.exprs), .isl (intsL p.cols), .isl (Pn.cellsL p.kids)])),(1, .fn (.func 91) [.own 0 0, .own 1 0]),(4, .own 2 0),(5, .own 3 0),(6, .bool false),(7, .own 4 0),(8,jk i (.int (i-1))),(9, .junk),(16, .bool false),(39, .int p.exprs.length),(40, .int i),(41,jk i (.bool true)),(57, .junk),(58, .junk),(59, .junk)],
   st:=some (.box [.int t])::vB true v::some (.box [.int 0, .int 0, .nils, .nils, .nils])::some (.box [.int 0, .int 0, .i (.isl []), .i (.isl []), .i (.isl [])])::some (.box [.int p.kind, .int p.table, .osl 5 5 0 p.exprs.length, .osl 6 1 0 p.cols.length, .nils])::some (.arr 5 (Ex.cellsL p.exprs))::some (.arr 1 (intsL p.cols))::[] }
def VY11 (p v:Pn) (t:Int) (i:Nat):AS :=
 { env:=[(0, .i (.iref [.int p.kind, .int p.table, .isl (Ex.cellsL p.exprs), .isl (intsL p.cols), .isl (Pn.cellsL p.kids)])),(1, .fn (.func 91) [.own 0 0, .own 1 0]),(4, .own 2 0),(5, .own 3 0),(6, .bool false),(7, .own 4 0),(8, .int (p.exprs.length-1)),(9,jk i (.int (i-1))),(16, .bool false),(39, .int p.exprs.length),(40, .int p.exprs.length),(41, .bool false),(57, .int p.kids.length),(58, .int i),(59,jk i (.bool true))],
   st:=some (.box [.int t])::vB true v::some (.box [.int 0, .int 0, .nils, .nils, .nils])::some (.box [.int 0, .int 0, .i (.isl []), .i (.isl []), .i (.isl [])])::some (.box [.int p.kind, .int p.table, .osl 5 5 0 p.exprs.length, .osl 6 1 0 p.cols.length,gro 7 5 i])::some (.arr 5 (Ex.cellsL p.exprs))::some (.arr 1 (intsL p.cols))::(groB 5 (Pn.cellsL (expPL v t (p.kids.take i))) i) }
theorem withE_miss11 {p v:Pn} (hv:v.small) (hp:p.thin) (hq:∀ e∈p.exprs,e.size<1000000000) (he:p.exprs≠[]) (hc:p.cols≠[]) {t:Int} (hh:p.hit t=false)
 (ih:∀ a∈p.kids,callA C0 90 [.i (.iref a.cells), .fn (.func 91) [.own 0 0, .own 1 0]] (Est v t)=some (.i (.agg (expP v t a).cells),Est v t)) :
 callA C0 90 [.i (.iref p.cells), .fn (.func 91) [.own 0 0, .own 1 0]] (Est v t)=some (.i (.agg (expP v t p).cells),Est v t):=by
 have hf:=exp1_eq (p:=p) (t:=t) hv
 simp only[hh,if_false,Est,Bool.false_eq_true,Pn.zero,Pn.cells,Ex.cellsL,intsL,Pn.cellsL]at hf
 obtain⟨t1,t2,t3,t4,-⟩:=(Pn.thin_iff _).1 hp
 rw[Pn.cells_eq]at hf
 have hE:=copiedEs_eq he t1
 have hel:p.exprs.length≠0:=fun h=>he (List.length_eq_zero_iff.1 h)
 have hI:=copiedIs_eq hc t3
 have hcl:p.cols.length≠0:=fun h=>hc (List.length_eq_zero_iff.1 h)
 rw[callA_eq rfl Tryz.func90 rfl rfl,expP_miss hh,Pn.cells_mk,Pn.cells_eq]
 simp[Est,hf,hE,hI]
 rw[loop_to (VX11 p v t) p.exprs.length (by simp[VX11])]
 ·rw[execA_loop]
  simp[VX11]
  rw[loop_to (VY11 p v t) p.kids.length (by simp[VY11,jk_pos hel])]
  ·rw[execA_loop]
   cases hm:p.kids.length with
   | zero =>
    have hk:p.kids=[]:=List.length_eq_zero_iff.1 hm
    simp[VY11,hk,expPL,Pn.cellsL]
   | succ m =>
    have hk:p.kids.take (m+1)=p.kids:=List.take_of_length_le (by omega)
    have hk2:(expPL v t p.kids).take (m+1)=expPL v t p.kids:=List.take_of_length_le (by simp;omega)
    simp[VY11,hm,hk,hk2]
  ·intro i hi
   have h3:=List.getElem?_eq_getElem hi
   have hm:=List.mem_of_getElem? h3
   have r2:=Pn.cellsL_nth h3
   have htk:=take_snoc h3
   generalize p.kids[i]=a at h3 hm r2 htk
   have hk:=ih a hm
   have w2:IntKind.i64.wrap ((i:Int)+1)=i+1:=wrap64 (by omega) (by omega)
   rw[Pn.cells_eq a]at r2 hk
   rw[Pn.cells_eq]at hk
   simp only[Est]at hk
   have hl1:(i+1)*88≤140737488355328:=by omega
   have hl2:min i p.kids.length=i:=by omega
   have hl3:(expPL v t (p.kids.take i)).take i=expPL v t (p.kids.take i):=List.take_of_length_le (by simp;omega)
   by_cases h0:i=0
   ·subst h0;simp[VY11,hi,r2,hk,wrap_1,htk,expPL_snoc,Pn.cellsL_snoc,Pn.cells_eq (expP v t a),expPL,Pn.cellsL]
   ·simp[VY11,gro_pos h0,groB_pos h0,jk_pos h0,hi,r2,hk,w2,htk,expPL_snoc,Pn.cellsL_snoc,hl1,hl2,List.take_take,Pn.cells_eq (expP v t a),h0,hl3]
 ·intro i hi
  have h3:=List.getElem?_eq_getElem hi
  have hs:=hq _ (List.mem_of_getElem? h3)
  have r2:=Ex.cellsL_nth h3
  generalize p.exprs[i]=a at h3 hs r2
  have hk:=copyE_call hs r2
  have hput:=Ex.cellsL_set h3
  have w2:IntKind.i64.wrap ((i:Int)+1)=i+1:=wrap64 (by omega) (by omega)
  rw[Ex.cells_eq]at r2 hk hput
  simp[VX11,hi,r2,hk,w2,hput]
def VX10 (p v:Pn) (t:Int) (i:Nat):AS :=
 { env:=[(0, .i (.iref [.int p.kind, .int p.table, .isl (Ex.cellsL p.exprs), .isl (intsL p.cols), .isl (Pn.cellsL p.kids)])),(1, .fn (.func 91) [.own 0 0, .own 1 0]),(4, .own 2 0),(5, .own 3 0),(6, .bool false),(7, .own 4 0),(8,jk i (.int (i-1))),(9, .junk),(16, .bool false),(39, .int p.exprs.length),(40, .int i),(41,jk i (.bool true)),(57, .junk),(58, .junk),(59, .junk)],
   st:=some (.box [.int t])::vB true v::some (.box [.int 0, .int 0, .nils, .nils, .nils])::some (.box [.int 0, .int 0, .i (.isl []), .i (.isl []), .i (.isl [])])::some (.box [.int p.kind, .int p.table, .osl 5 5 0 p.exprs.length, .nils, .nils])::some (.arr 5 (Ex.cellsL p.exprs))::[] }
def VY10 (p v:Pn) (t:Int) (i:Nat):AS :=
 { env:=[(0, .i (.iref [.int p.kind, .int p.table, .isl (Ex.cellsL p.exprs), .isl (intsL p.cols), .isl (Pn.cellsL p.kids)])),(1, .fn (.func 91) [.own 0 0, .own 1 0]),(4, .own 2 0),(5, .own 3 0),(6, .bool false),(7, .own 4 0),(8, .int (p.exprs.length-1)),(9,jk i (.int (i-1))),(16, .bool false),(39, .int p.exprs.length),(40, .int p.exprs.length),(41, .bool false),(57, .int p.kids.length),(58, .int i),(59,jk i (.bool true))],
   st:=some (.box [.int t])::vB true v::some (.box [.int 0, .int 0, .nils, .nils, .nils])::some (.box [.int 0, .int 0, .i (.isl []), .i (.isl []), .i (.isl [])])::some (.box [.int p.kind, .int p.table, .osl 5 5 0 p.exprs.length, .nils,gro 6 5 i])::some (.arr 5 (Ex.cellsL p.exprs))::(groB 5 (Pn.cellsL (expPL v t (p.kids.take i))) i) }
theorem withE_miss10 {p v:Pn} (hv:v.small) (hp:p.thin) (hq:∀ e∈p.exprs,e.size<1000000000) (he:p.exprs≠[]) (hc:p.cols=[]) {t:Int} (hh:p.hit t=false)
 (ih:∀ a∈p.kids,callA C0 90 [.i (.iref a.cells), .fn (.func 91) [.own 0 0, .own 1 0]] (Est v t)=some (.i (.agg (expP v t a).cells),Est v t)) :
 callA C0 90 [.i (.iref p.cells), .fn (.func 91) [.own 0 0, .own 1 0]] (Est v t)=some (.i (.agg (expP v t p).cells),Est v t):=by
 have hf:=exp1_eq (p:=p) (t:=t) hv
 simp only[hh,if_false,Est,Bool.false_eq_true,Pn.zero,Pn.cells,Ex.cellsL,intsL,Pn.cellsL]at hf
 obtain⟨t1,t2,t3,t4,-⟩:=(Pn.thin_iff _).1 hp
 rw[Pn.cells_eq]at hf
 have hE:=copiedEs_eq he t1
 have hel:p.exprs.length≠0:=fun h=>he (List.length_eq_zero_iff.1 h)
 have hI:=copiedIs_nil
 rw[callA_eq rfl Tryz.func90 rfl rfl,expP_miss hh,Pn.cells_mk,Pn.cells_eq]
 simp only[hc,intsL]at hf
 simp[Est,hf,hE,hI,hc,intsL]
 rw[loop_to (VX10 p v t) p.exprs.length (by simp[VX10,hc,intsL])]
 ·rw[execA_loop]
  simp[VX10,hc,intsL]
  rw[loop_to (VY10 p v t) p.kids.length (by simp[VY10,hc,intsL,jk_pos hel])]
  ·rw[execA_loop]
   cases hm:p.kids.length with
   | zero =>
    have hk:p.kids=[]:=List.length_eq_zero_iff.1 hm
    simp[VY10,hk,expPL,Pn.cellsL,hc,intsL]
   | succ m =>
    have hk:p.kids.take (m+1)=p.kids:=List.take_of_length_le (by omega)
    have hk2:(expPL v t p.kids).take (m+1)=expPL v t p.kids:=List.take_of_length_le (by simp;omega)
    simp[VY10,hm,hk,hk2,hc,intsL]
  ·intro i hi
   have h3:=List.getElem?_eq_getElem hi
   have hm:=List.mem_of_getElem? h3
   have r2:=Pn.cellsL_nth h3
   have htk:=take_snoc h3
   generalize p.kids[i]=a at h3 hm r2 htk
   have hk:=ih a hm
   have w2:IntKind.i64.wrap ((i:Int)+1)=i+1:=wrap64 (by omega) (by omega)
   rw[Pn.cells_eq a]at r2 hk
   rw[Pn.cells_eq]at hk
   simp only[Est]at hk
   have hl1:(i+1)*88≤140737488355328:=by omega
   have hl2:min i p.kids.length=i:=by omega
   have hl3:(expPL v t (p.kids.take i)).take i=expPL v t (p.kids.take i):=List.take_of_length_le (by simp;omega)
   by_cases h0:i=0
   ·subst h0;simp[VY10,hi,r2,hk,wrap_1,htk,expPL_snoc,Pn.cellsL_snoc,Pn.cells_eq (expP v t a),expPL,Pn.cellsL,hc,intsL]
   ·simp[VY10,gro_pos h0,groB_pos h0,jk_pos h0,hi,r2,hk,w2,htk,expPL_snoc,Pn.cellsL_snoc,hl1,hl2,List.take_take,Pn.cells_eq (expP v t a),h0,hl3,hc,intsL]
 ·intro i hi
  have h3:=List.getElem?_eq_getElem hi
  have hs:=hq _ (List.mem_of_getElem? h3)
  have r2:=Ex.cellsL_nth h3
  generalize p.exprs[i]=a at h3 hs r2
  have hk:=copyE_call hs r2
  have hput:=Ex.cellsL_set h3
  have w2:IntKind.i64.wrap ((i:Int)+1)=i+1:=wrap64 (by omega) (by omega)
  rw[Ex.cells_eq]at r2 hk hput
  simp[VX10,hi,r2,hk,w2,hput,hc,intsL]
def VY01 (p v:Pn) (t:Int) (i:Nat):AS :=
 { env:=[(0, .i (.iref [.int p.kind, .int p.table, .isl (Ex.cellsL p.exprs), .isl (intsL p.cols), .isl (Pn.cellsL p.kids)])),(1, .fn (.func 91) [.own 0 0, .own 1 0]),(4, .own 2 0),(5, .own 3 0),(6, .bool false),(7, .own 4 0),(8, .junk),(9,jk i (.int (i-1))),(16, .bool false),(39, .int p.exprs.length),(40, .int p.exprs.length),(41, .bool false),(57, .int p.kids.length),(58, .int i),(59,jk i (.bool true))],
   st:=some (.box [.int t])::vB true v::some (.box [.int 0, .int 0, .nils, .nils, .nils])::some (.box [.int 0, .int 0, .i (.isl []), .i (.isl []), .i (.isl [])])::some (.box [.int p.kind, .int p.table, .nils, .osl 5 1 0 p.cols.length,gro 6 5 i])::some (.arr 1 (intsL p.cols))::(groB 5 (Pn.cellsL (expPL v t (p.kids.take i))) i) }
theorem withE_miss01 {p v:Pn} (hv:v.small) (hp:p.thin) (hq:∀ e∈p.exprs,e.size<1000000000) (he:p.exprs=[]) (hc:p.cols≠[]) {t:Int} (hh:p.hit t=false)
 (ih:∀ a∈p.kids,callA C0 90 [.i (.iref a.cells), .fn (.func 91) [.own 0 0, .own 1 0]] (Est v t)=some (.i (.agg (expP v t a).cells),Est v t)) :
 callA C0 90 [.i (.iref p.cells), .fn (.func 91) [.own 0 0, .own 1 0]] (Est v t)=some (.i (.agg (expP v t p).cells),Est v t):=by
 have hf:=exp1_eq (p:=p) (t:=t) hv
 simp only[hh,if_false,Est,Bool.false_eq_true,Pn.zero,Pn.cells,Ex.cellsL,intsL,Pn.cellsL]at hf
 obtain⟨t1,t2,t3,t4,-⟩:=(Pn.thin_iff _).1 hp
 rw[Pn.cells_eq]at hf
 have hE:=copiedEs_nil
 have hI:=copiedIs_eq hc t3
 have hcl:p.cols.length≠0:=fun h=>hc (List.length_eq_zero_iff.1 h)
 rw[callA_eq rfl Tryz.func90 rfl rfl,expP_miss hh,Pn.cells_mk,Pn.cells_eq]
 simp only[he,Ex.cellsL]at hf
 simp[Est,hf,hE,hI,he,Ex.cellsL]
 rw[execA_loop]
 simp
 rw[loop_to (VY01 p v t) p.kids.length (by simp[VY01,he,Ex.cellsL])]
 ·rw[execA_loop]
  cases hm:p.kids.length with
  | zero =>
   have hk:p.kids=[]:=List.length_eq_zero_iff.1 hm
   simp[VY01,hk,expPL,Pn.cellsL,he,Ex.cellsL]
  | succ m =>
   have hk:p.kids.take (m+1)=p.kids:=List.take_of_length_le (by omega)
   have hk2:(expPL v t p.kids).take (m+1)=expPL v t p.kids:=List.take_of_length_le (by simp;omega)
   simp[VY01,hm,hk,hk2,he,Ex.cellsL]
 ·intro i hi
  have h3:=List.getElem?_eq_getElem hi
  have hm:=List.mem_of_getElem? h3
  have r2:=Pn.cellsL_nth h3
  have htk:=take_snoc h3
  generalize p.kids[i]=a at h3 hm r2 htk
  have hk:=ih a hm
  have w2:IntKind.i64.wrap ((i:Int)+1)=i+1:=wrap64 (by omega) (by omega)
  rw[Pn.cells_eq a]at r2 hk
  rw[Pn.cells_eq]at hk
  simp only[Est]at hk
  have hl1:(i+1)*88≤140737488355328:=by omega
  have hl2:min i p.kids.length=i:=by omega
  have hl3:(expPL v t (p.kids.take i)).take i=expPL v t (p.kids.take i):=List.take_of_length_le (by simp;omega)
  by_cases h0:i=0
  ·subst h0;simp[VY01,hi,r2,hk,wrap_1,htk,expPL_snoc,Pn.cellsL_snoc,Pn.cells_eq (expP v t a),expPL,Pn.cellsL,he,Ex.cellsL]
  ·simp[VY01,gro_pos h0,groB_pos h0,jk_pos h0,hi,r2,hk,w2,htk,expPL_snoc,Pn.cellsL_snoc,hl1,hl2,List.take_take,Pn.cells_eq (expP v t a),h0,hl3,he,Ex.cellsL]
def VY00 (p v:Pn) (t:Int) (i:Nat):AS :=
 { env:=[(0, .i (.iref [.int p.kind, .int p.table, .isl (Ex.cellsL p.exprs), .isl (intsL p.cols), .isl (Pn.cellsL p.kids)])),(1, .fn (.func 91) [.own 0 0, .own 1 0]),(4, .own 2 0),(5, .own 3 0),(6, .bool false),(7, .own 4 0),(8, .junk),(9,jk i (.int (i-1))),(16, .bool false),(39, .int p.exprs.length),(40, .int p.exprs.length),(41, .bool false),(57, .int p.kids.length),(58, .int i),(59,jk i (.bool true))],
   st:=some (.box [.int t])::vB true v::some (.box [.int 0, .int 0, .nils, .nils, .nils])::some (.box [.int 0, .int 0, .i (.isl []), .i (.isl []), .i (.isl [])])::some (.box [.int p.kind, .int p.table, .nils, .nils,gro 5 5 i])::(groB 5 (Pn.cellsL (expPL v t (p.kids.take i))) i) }
theorem withE_miss00 {p v:Pn} (hv:v.small) (hp:p.thin) (hq:∀ e∈p.exprs,e.size<1000000000) (he:p.exprs=[]) (hc:p.cols=[]) {t:Int} (hh:p.hit t=false)
 (ih:∀ a∈p.kids,callA C0 90 [.i (.iref a.cells), .fn (.func 91) [.own 0 0, .own 1 0]] (Est v t)=some (.i (.agg (expP v t a).cells),Est v t)) :
 callA C0 90 [.i (.iref p.cells), .fn (.func 91) [.own 0 0, .own 1 0]] (Est v t)=some (.i (.agg (expP v t p).cells),Est v t):=by
 have hf:=exp1_eq (p:=p) (t:=t) hv
 simp only[hh,if_false,Est,Bool.false_eq_true,Pn.zero,Pn.cells,Ex.cellsL,intsL,Pn.cellsL]at hf
 obtain⟨t1,t2,t3,t4,-⟩:=(Pn.thin_iff _).1 hp
 rw[Pn.cells_eq]at hf
 have hE:=copiedEs_nil
 have hI:=copiedIs_nil
 rw[callA_eq rfl Tryz.func90 rfl rfl,expP_miss hh,Pn.cells_mk,Pn.cells_eq]
 simp only[he,Ex.cellsL,hc,intsL]at hf
 simp[Est,hf,hE,hI,he,Ex.cellsL,hc,intsL]
 rw[execA_loop]
 simp
 rw[loop_to (VY00 p v t) p.kids.length (by simp[VY00,he,Ex.cellsL,hc,intsL])]
 ·rw[execA_loop]
  cases hm:p.kids.length with
  | zero =>
   have hk:p.kids=[]:=List.length_eq_zero_iff.1 hm
   simp[VY00,hk,expPL,Pn.cellsL,he,Ex.cellsL,hc,intsL]
  | succ m =>
   have hk:p.kids.take (m+1)=p.kids:=List.take_of_length_le (by omega)
   have hk2:(expPL v t p.kids).take (m+1)=expPL v t p.kids:=List.take_of_length_le (by simp;omega)
   simp[VY00,hm,hk,hk2,he,Ex.cellsL,hc,intsL]
 ·intro i hi
  have h3:=List.getElem?_eq_getElem hi
  have hm:=List.mem_of_getElem? h3
  have r2:=Pn.cellsL_nth h3
  have htk:=take_snoc h3
  generalize p.kids[i]=a at h3 hm r2 htk
  have hk:=ih a hm
  have w2:IntKind.i64.wrap ((i:Int)+1)=i+1:=wrap64 (by omega) (by omega)
  rw[Pn.cells_eq a]at r2 hk
  rw[Pn.cells_eq]at hk
  simp only[Est]at hk
  have hl1:(i+1)*88≤140737488355328:=by omega
  have hl2:min i p.kids.length=i:=by omega
  have hl3:(expPL v t (p.kids.take i)).take i=expPL v t (p.kids.take i):=List.take_of_length_le (by simp;omega)
  by_cases h0:i=0
  ·subst h0;simp[VY00,hi,r2,hk,wrap_1,htk,expPL_snoc,Pn.cellsL_snoc,Pn.cells_eq (expP v t a),expPL,Pn.cellsL,he,Ex.cellsL,hc,intsL]
  ·simp[VY00,gro_pos h0,groB_pos h0,jk_pos h0,hi,r2,hk,w2,htk,expPL_snoc,Pn.cellsL_snoc,hl1,hl2,List.take_take,Pn.cells_eq (expP v t a),h0,hl3,he,Ex.cellsL,hc,intsL]
theorem withE_eq {v:Pn} (hv:v.small) {t:Int}:∀ (p:Pn),p.thin→p.tiny→callA C0 90 [.i (.iref p.cells), .fn (.func 91) [.own 0 0, .own 1 0]] (Est v t)=some (.i (.agg (expP v t p).cells),Est v t):=by
 intro p
 induction p using Pn.ind with
 | h k tb es cs ks ih =>
  intro ht hy
  cases hh:Pn.hit t (.mk k tb es cs ks)with
  | true =>
   rw[expP_hit hh]
   exact withE_hit hv hh
  | false =>
   have ih':∀ a∈ks,_:=fun a ha=>ih a ha (((Pn.thin_iff _).1 ht).2.2.2.2 a ha) (((Pn.tiny_iff _).1 hy).2 a ha)
   have hq:∀ e∈es,e.size<1000000000:=((Pn.tiny_iff _).1 hy).1
   by_cases he:es=[]
   ·by_cases hc:cs=[]
    ·exact withE_miss00 hv ht hq he hc hh ih'
    ·exact withE_miss01 hv ht hq he hc hh ih'
   ·by_cases hc:cs=[]
    ·exact withE_miss10 hv ht hq he hc hh ih'
    ·exact withE_miss11 hv ht hq he hc hh ih'
@[simp] theorem cp_scans (a:List AV) (st:StL):callA CP 75 a st=callA C0 75 a st:=by rw[callA_prim (p:=callA C0 75) rfl]
@[simp] theorem cp_deepest (a:List AV) (st:StL):callA CP 88 a st=callA C0 88 a st:=by rw[callA_prim (p:=callA C0 88) rfl]
@[simp] theorem cp_height (a:List AV) (st:StL):callA CP 89 a st=callA C0 89 a st:=by rw[callA_prim (p:=callA C0 89) rfl]
theorem cp_withE {q v:Pn} (hv:v.small) (hq:q.thin) (hy:q.tiny) {t:Int}:callA CP 90 [.own 0 0, .fn (.func 91) [.own 1 0, .own 2 0]] [some (.fbox q.cells),some (.box [.int t]),some (.fbox v.cells)] =
 some (.i (.agg (expP v t q).cells),[some (.fbox q.cells),some (.box [.int t]),some (.fbox v.cells)]):=by
 have h:=withE_eq hv (t:=t) q hq hy
 simp only[Est,vB,if_true]at h
 rw[Pn.cells_eq q,Pn.cells_eq v]at *
 rw[callA_prim (p:=frz1 (callA C0) 90) rfl]
 unfold frz1
 simp[h]
def exOk (q v:Pn) (ws:List Int) (t:Int):Bool:=decide (q.width ws≠0) && (canB v ws t && (!scP t v && (decide (dsP t q+htP v≤8) && decide ((expP v t q).width ws≠0))))
theorem ExpandView_eq {q v:Pn} (hq:q.thin) (hv:v.thin) (ws:List Int) (t:Int) :
 callA CP 53 [.i (.agg q.cells), .i (.agg v.cells), .i (.isl (intsL ws)), .int t] []=some (if exOk q v ws t=true then .tup [.i (.agg (expP v t q).cells), .bool true]else .tup [.i (.agg Pn.zero.cells), .bool false],[]):=by
 have e1:=planWidth_eq q ws
 have e2:=canHold_eq v ws t
 have z:Pn.zero.cells=[.int 0, .int 0, .isl [], .isl [], .isl []]:=by simp[Pn.zero,Pn.cells,Ex.cellsL,intsL,Pn.cellsL]
 rw[callA_eq rfl Tryz.func53 rfl rfl]
 unfold exOk
 rw[z]
 by_cases h1:q.width ws=0
 ·rw[Pn.cells_eq q,Pn.cells_eq v]at *
  simp[e1,h1]
 cases h2:canB v ws t with
 | false =>
  rw[h2]at e2
  rw[Pn.cells_eq q,Pn.cells_eq v]at *
  simp[e1,e2,h1]
 | true =>
  have hvw:v.width ws≠0:=by unfold canB at h2;simp at h2;exact h2.1
  have hvf:=Pn.width_fit hvw
  have hqf:=Pn.width_fit h1
  have hvs:v.small:=⟨by omega,hv,hvf.1⟩
  have e3:=scans_eq v hv t
  rw[h2]at e2
  cases h3:scP t v with
  | true =>
   rw[h3]at e3
   rw[Pn.cells_eq q,Pn.cells_eq v]at *
   simp[e1,e2,e3,h1]
  | false =>
   rw[h3]at e3
   have e4:=deepest_eq q hq (by omega) t
   have e5:=pheight_eq v hv (by omega)
   have e6:=cp_withE hvs hq hqf.1 (t:=t)
   have e7:=planWidth_eq (expP v t q) ws
   have hr:=dsP_range t q
   have hs:=htP_size q
   have hs2:=htP_size v
   have w1:IntKind.i64.wrap (dsP t q+htP v)=dsP t q+htP v:=wrap64 (by omega) (by omega)
   by_cases h4:dsP t q+(htP v:Int)≤8
   case neg =>
    have w2:8<dsP t q+(htP v:Int):=by omega
    rw[Pn.cells_eq q,Pn.cells_eq v]at *
    simp[e1,e2,e3,e4,e5,h1,w1,w2,h4]
   have w2:¬ 8<dsP t q+(htP v:Int):=by omega
   generalize expP v t q=x at *
   by_cases h5:x.width ws=0
   ·rw[Pn.cells_eq q,Pn.cells_eq v,Pn.cells_eq x]at *
    try simp at e6
    simp[e1,e2,e3,e4,e5,e6,e7,h1,h5,w1,w2,h4]
   ·rw[Pn.cells_eq q,Pn.cells_eq v,Pn.cells_eq x]at *
    try simp at e6
    simp[e1,e2,e3,e4,e5,e6,e7,h1,h5,w1,w2,h4]
end Go.Proofs.YtiailccmofdhfaaGreat.P
namespace Go.Av
theorem fit_exp' {ws:List Int} {db:List Tbl} {v:Pn} {t:Int} (h0:0≤t) (ht:t<db.length) (hv:(v.evP db).ok=true) (hvf:v.fit db=true):∀ (p:Pn) (lv:Nat),p.wd ws lv≠0→p.fit (db.set t.toNat (v.evP db))=true→(expP v t p).fit db=true:=by
 intro p
 induction p using Pn.ind with
 | h k tb es cs ks ih =>
  intro lv h hf
  have hsh:=wd_shape h
  generalize hp:Pn.mk k tb es cs ks=p at hsh h hf
  have hk:ks=p.kids:=by rw[← hp];rfl
  subst hk
  cases hsh with
  | scan s W hs0 h1 hW =>
   by_cases he:s=t
   ·subst he
    rw[expP_hit (by simp[Pn.hit,Pn.scan])]
    exact hvf
   ·rw[expP_miss (by simp[Pn.hit,Pn.scan,he])]
    have e:expPL v t (Pn.scan s).kids=[]:=by simp[Pn.scan,expPL]
    rw[e]
    show(Pn.scan s).fit db=true
    rw[fit_scan]at hf ⊢
    rw[List.getElem?_set_ne (by omega)]at hf
    exact hf
  | filt m e a h1 ha he =>
   rw[expP_miss (hit_kind (by simp[filt]))]
   have hg:(filt e (expP v t a)).fit db=true:=fit_filt.2 (ih a (by simp[filt]) m ha (fit_filt.1 hf))
   simpa [filt,expPL_map]using hg
  | proj m es a h1 ha hl he =>
   rw[expP_miss (hit_kind (by simp[proj]))]
   have hg:(proj es (expP v t a)).fit db=true:=fit_proj.2 (ih a (by simp[proj]) m ha (fit_proj.1 hf))
   simpa [proj,expPL_map]using hg
  | pair m k e a b h1 hk ha hb hl he =>
   rw[expP_miss (hit_kind (by simp[pairP];omega))]
   obtain⟨f1,f2,f3⟩:=(fit_pair hk).1 hf
   rw[← ev_exp h0 ht hv a m ha,← ev_exp h0 ht hv b m hb]at f1
   have hg:(pairP k e (expP v t a) (expP v t b)).fit db=true:=(fit_pair hk).2 ⟨f1,ih a (by simp[pairP]) m ha f2,ih b (by simp[pairP]) m hb f3⟩
   simpa [pairP,expPL_map]using hg
  | union m a b h1 ha hb =>
   have hb':b.wd ws m≠0:=by rw[hb];exact ha
   rw[expP_miss (hit_kind (by simp[unionP]))]
   obtain⟨f1,f2,f3⟩:=fit_union.1 hf
   rw[← ev_exp h0 ht hv a m ha,← ev_exp h0 ht hv b m hb']at f1
   have hg:(unionP (expP v t a) (expP v t b)).fit db=true:=fit_union.2 ⟨f1,ih a (by simp[unionP]) m ha f2,ih b (by simp[unionP]) m hb' f3⟩
   simpa [unionP,expPL_map]using hg
  | dist m a h1 ha =>
   rw[expP_miss (hit_kind (by simp))]
   have hg:(Pn.mk 7 0 [] [] [expP v t a]).fit db=true:=fit_seven.2 (ih a (by simp) m ha (fit_seven.1 hf))
   simpa [expPL_map]using hg
  | group m cs a h1 ha hc ho =>
   rw[expP_miss (hit_kind (by simp))]
   have hg:(Pn.mk 8 0 [] cs [expP v t a]).fit db=true:=fit_group.2 (ih a (by simp) m ha (fit_group.1 hf))
   simpa [expPL_map]using hg
end Go.Av
namespace Go.Proofs.YtiailccmofdhfaaGreat.P
open Go Go.Av G
set_option maxRecDepth 4000
set_option maxHeartbeats 8000000
@[simp] theorem ce_FoldView (a:List AV) (st:StL):callA CE 54 a st=callA CP 54 a st:=by
  rw[callA_prim (p:=callA CP 54) rfl]
@[simp] theorem ce_ExpandView (a:List AV) (st:StL):callA CE 53 a st=callA CP 53 a st:=by
  rw[callA_prim (p:=callA CP 53) rfl]
theorem drawView_eq (code:List UInt8):∃ (P V:Pn) (A B C:Tbl) (t:Int),callA CE 52 [.i (.isl (bytesI code))] []=some (.tup [.i (.agg P.cells), .i (.agg V.cells), .i (.isl (tblsL [A,B,C])), .int t],[])∧Mt V A B C∧P.thin∧BdV P:=by
 obtain⟨c,hc,hr⟩:=newReader_eq code
 obtain⟨P,V,ws,t,p',h,h1,h2,⟨b1,b2,b3,b4⟩,h3,h4⟩:=viewOfB_eq hc
 obtain⟨ts,p2,hd,d1,d2,d3,d4⟩:=randomDatabaseF_eq c hc ws h4 (by omega) p' b3 (by omega)
 obtain⟨A,B,C,rfl⟩:=list_three (show ts.length=3 by have:=congrArg List.length d1;simpa [h3]using this)
 refine⟨P,V,A,B,C,t,?_,⟨h2,b2,fun T hT=>(d2 T hT).1,fun T hT=>(d2 T hT).2⟩,h1,b1⟩
 rw[callA_eq rfl Tryz.func52 rfl rfl]
 rw[h3]at hd
 rw[Pn.cells_eq P,Pn.cells_eq V]at h
 rw[Pn.cells_eq P,Pn.cells_eq V]
 have ht:List.take 3 (tblsL [A,B,C])=tblsL [A,B,C]:=rfl
 simp[hr,h,hd,ht]
theorem TablesOf_no {p:Pn} {ws:List Int} (h:p.width ws=0):callA C0 46 [.i (.agg p.cells), .i (.isl (intsL ws))] []=some (.i (.isl []),[]):=by
 have e1:=planWidth_eq p ws
 rw[callA_eq rfl Tryz.func46 rfl rfl]
 rw[Pn.cells_eq p]at *
 simp[e1,h]
theorem p_fit {P:Pn} {db:List Tbl} (hb:BdV P) (hok:∀ T∈db,T.ok=true) (hr:∀ T∈db,T.rows.length≤4) (hw:P.wd (db.map Tbl.w) 8≠0):P.fit db=true:=by
 have h:=hb _ 8 4 (by omega) hw
 exact(bd_fit (n:=4) (by omega) rfl (fun T hT=>⟨hok T hT,hr T hT⟩) P 8 hw (by omega)).1
theorem law_viewResult (code:List UInt8):callA CE 22 [.i (.isl (bytesI code))] []=some (.bool true,[]):=by
 rw[callA_eq rfl Tryz.func22 rfl rfl]
 by_cases hl:(1048576:Int)<code.length
 ·simp[bytesI_length,hl]
 obtain⟨P,V,A,B,C,t,hd,hM,hPt,hPb⟩:=drawView_eq code
 have m1:=Materialize_eq hM.ok V hM.thin t (scanEval hM.ok) (fun hw=>evalOk hM.ok hw (hM.fit (width_ok8 hw).2.1).1)
 have m2:=sMaterialize_eq hM.ok V hM.thin t
 cases hm:matB V [A,B,C] t with
 | false =>
  simp only[hm,Bool.false_eq_true,if_false]at m1 m2
  rw[Pn.cells_eq P,Pn.cells_eq V]at hd
  rw[Pn.cells_eq V]at m1 m2
  simp only[tblsL,List.map_cons,List.map_nil,Tbl.cells]at hd m1 m2
  simp[bytesI_length,hl,hd,m1,m2]
 | true =>
  simp only[hm,if_true]at m1 m2
  have hL:=mtL hM hm
  have e5:=lwidthsOf_eq [A,B,C] (by simp)
  have hf:=FoldView_eq P V hPt ([A,B,C].map Tbl.w) t
  have hdl:([A,B,C].set t.toNat (V.evP [A,B,C])).length=3:=by simp
  by_cases hw:P.width ([A,B,C].map Tbl.w)=0
  ·have hT:=TablesOf_no hw
   have hi:=isInL_eq [] t (by simp)
   have hE:=evalNo hM.ok hw
   have hok:fvOk P V ([A,B,C].map Tbl.w) t=false:=by unfold fvOk;rw[hw];simp
   unfold fvP fvN at hf
   rw[hok]at hf
   simp only[Bool.false_eq_true,if_false]at hf
   generalize [A,B,C].set t.toNat (V.evP [A,B,C])=L at *
   have hz:Pn.zero.cells=[.int 0, .int 0, .isl [], .isl [], .isl []]:=by simp[Pn.zero,Pn.cells,Ex.cellsL,intsL,Pn.cellsL]
   rw[hz]at hf
   rw[Pn.cells_eq P,Pn.cells_eq V]at *
   simp[intsL]at hi
   have hLl:(tblsL L).length=3:=by rw[tblsL_length];exact hdl
   generalize tblsL L=LL at *
   generalize tblsL [A,B,C]=DD at *
   generalize intsL ([A,B,C].map Tbl.w)=WW at *
   simp[bytesI_length,hl,hd,m1,m2,e5,hT,hi,hE,hf]
  ·obtain⟨hws,hwd,hww⟩:=width_ok8 hw
   have hT:=tables_eq P hPt ([A,B,C].map Tbl.w) (by simp) hw
   have hi:callA C0 47 [.i (.isl (intsL (tabsN P 3))), .int t] []=some (.bool (scP t P),[]):=by
    have h:=isIn_tabN P (n:=3) (by omega) t.toNat (by have:=hL.ht;omega)
    rw[show((t.toNat:Nat):Int)=t by have:=hL.ht;omega]at h
    exact h
   simp only[List.map_cons,List.map_nil,List.length_cons,List.length_nil,Nat.zero_add,Nat.reduceAdd]at hT
   cases hsc:scP t P with
   | true =>
    rw[hsc]at hi
    generalize [A,B,C].set t.toNat (V.evP [A,B,C])=L at *
    rw[Pn.cells_eq P,Pn.cells_eq V]at *
    have hLl:(tblsL L).length=3:=by rw[tblsL_length];exact hdl
    simp only[List.map_cons,List.map_nil]at e5
    generalize tblsL L=LL at *
    generalize tblsL [A,B,C]=DD at *
    generalize intsL [A.w,B.w,C.w]=WW at *
    simp[bytesI_length,hl,hd,m1,m2,e5,hT,hi]
   | false =>
    rw[hsc]at hi
    have hPf:=p_fit hPb hM.ok hM.rows hwd
    have hE:=evalOk hM.ok hw hPf
    have hok:fvOk P V ([A,B,C].map Tbl.w) t=true:=by unfold fvOk;simp only[hw,ne_eq,not_false_eq_true,decide_true,hL.can,Bool.and_self]
    unfold fvP fvN at hf
    rw[hok]at hf
    simp only[if_true]at hf
    have ht0:0≤t:=by have:=hL.ht;omega
    have ht1:t<([A,B,C].length:Int):=by have:=hL.ht;simp;omega
    have hev:=ev_fold (ws:=[A,B,C].map Tbl.w) (db:=[A,B,C]) (v:=V) (t:=t) ht0 ht1 hL.rok hL.at0 rfl P 8 (by omega) hwd hsc
    have hfw:=fold_wd (ws:=[A,B,C].map Tbl.w) (v:=V) (t:=t) ht0 hL.at0 rfl P 8 (by omega) hwd
    have hff:=fit_exp (ws:=[A,B,C].map Tbl.w) (db:=[A,B,C]) (v:=V) (t:=t) ht0 ht1 hL.rok (foldP V t P) 8 (by rw[hfw];exact hwd) (by rw[exp_fold V t P hsc];exact hPf)
    have hE2:=evalOk (q:=foldP V t P) hL.ok (by rw[hL.ws];unfold Pn.width;rw[if_pos hws,hfw];exact hwd) hff
    rw[hev]at hE2
    have eR:=eq_same (ev_good rfl hM.ok P 8 hwd).1
    have hcn:¬ (cntP V P:Int)<0:=by omega
    generalize [A,B,C].set t.toNat (V.evP [A,B,C])=L at *
    generalize P.evP [A,B,C]=R at *
    rw[Pn.cells_eq (foldP V t P)]at hf hE2
    generalize foldP V t P=Q at *
    rw[Pn.cells_eq P,Pn.cells_eq V]at *
    have hLl:(tblsL L).length=3:=by rw[tblsL_length];exact hdl
    simp only[List.map_cons,List.map_nil]at e5 hf
    generalize tblsL L=LL at *
    generalize tblsL [A,B,C]=DD at *
    generalize intsL [A.w,B.w,C.w]=WW at *
    simp[bytesI_length,hl,hd,m1,m2,e5,hT,hi,hE,hf,hE2,eR,hcn]
theorem law_expandResult (code:List UInt8):callA CE 21 [.i (.isl (bytesI code))] []=some (.bool true,[]):=by
 rw[callA_eq rfl Tryz.func21 rfl rfl]
 by_cases hl:(1048576:Int)<code.length
 ·simp[bytesI_length,hl]
 obtain⟨P,V,A,B,C,t,hd,hM,hPt,hPb⟩:=drawView_eq code
 have m1:=Materialize_eq hM.ok V hM.thin t (scanEval hM.ok) (fun hw=>evalOk hM.ok hw (hM.fit (width_ok8 hw).2.1).1)
 have m2:=sMaterialize_eq hM.ok V hM.thin t
 have e5:=lwidthsOf_eq [A,B,C] (by simp)
 have hf:=ExpandView_eq hPt hM.thin ([A,B,C].map Tbl.w) t
 cases hx:exOk P V ([A,B,C].map Tbl.w) t with
 | false =>
  rw[hx]at hf
  have hz:Pn.zero.cells=[.int 0, .int 0, .isl [], .isl [], .isl []]:=by simp[Pn.zero,Pn.cells,Ex.cellsL,intsL,Pn.cellsL]
  rw[hz]at hf
  simp only[Bool.false_eq_true,if_false]at hf
  rw[Pn.cells_eq P,Pn.cells_eq V]at hd hf
  rw[Pn.cells_eq V]at m1 m2
  cases hm:matB V [A,B,C] t with
  | false =>
   simp only[hm,Bool.false_eq_true,if_false]at m1 m2
   generalize tblsL [A,B,C]=DD at *
   generalize intsL ([A,B,C].map Tbl.w)=WW at *
   simp[bytesI_length,hl,hd,m1,m2,e5,hf]
  | true =>
   simp only[hm,if_true]at m1 m2
   generalize tblsL ([A,B,C].set t.toNat (V.evP [A,B,C]))=LL at *
   generalize tblsL [A,B,C]=DD at *
   generalize intsL ([A,B,C].map Tbl.w)=WW at *
   simp[bytesI_length,hl,hd,m1,m2,e5,hf]
 | true =>
  rw[hx]at hf
  simp only[if_true]at hf
  unfold exOk at hx
  simp only[Bool.and_eq_true,decide_eq_true_eq,Bool.not_eq_true']at hx
  obtain⟨hw,hc,hs,_,hxw⟩:=hx
  have hm:matB V [A,B,C] t=true:=by unfold matB;rw[hc,hs];rfl
  simp only[hm,if_true]at m1 m2
  have hL:=mtL hM hm
  obtain⟨hws,hwd,hww⟩:=width_ok8 hw
  have ht0:0≤t:=by have:=hL.ht;omega
  have ht1:t<([A,B,C].length:Int):=by have:=hL.ht;simp;omega
  have hev:=ev_exp (ws:=[A,B,C].map Tbl.w) (db:=[A,B,C]) (v:=V) (t:=t) ht0 ht1 hL.rok P 8 hwd
  have hrows:∀ T∈[A,B,C].set t.toNat (V.evP [A,B,C]),T.rows.length≤4:=fun T hT=>by
   rcases List.mem_or_eq_of_mem_set hT with hT|rfl
   ·exact hM.rows T hT
   ·exact hL.rlen
  have hPf:=p_fit hPb hL.ok hrows (by rw[hL.ws];exact hwd)
  have hE:=evalOk (q:=P) hL.ok (by rw[hL.ws];exact hw) hPf
  have hff:=fit_exp' (ws:=[A,B,C].map Tbl.w) (db:=[A,B,C]) (v:=V) (t:=t) ht0 ht1 hL.rok hL.fit P 8 hwd hPf
  have hE2:=evalOk (q:=expP V t P) hM.ok hxw hff
  rw[hev]at hE2
  have eR:=eq_same (ev_good (db:=[A,B,C].set t.toNat (V.evP [A,B,C])) rfl hL.ok P 8 (by rw[hL.ws];exact hwd)).1
  generalize P.evP ([A,B,C].set t.toNat (V.evP [A,B,C]))=R at *
  rw[Pn.cells_eq (expP V t P)]at hf hE2
  generalize expP V t P=Q at *
  rw[Pn.cells_eq P,Pn.cells_eq V]at hd hf
  rw[Pn.cells_eq V]at m1 m2
  rw[Pn.cells_eq P]at hE
  generalize tblsL ([A,B,C].set t.toNat (V.evP [A,B,C]))=LL at *
  generalize tblsL [A,B,C]=DD at *
  generalize intsL ([A,B,C].map Tbl.w)=WW at *
  simp[bytesI_length,hl,hd,m1,m2,e5,hf,hE,hE2,eR]
set_option maxHeartbeats 4000000
theorem law_materialize_calls (a:Option Addr) (len cap:Nat) (zs:List Int) (w:World)
 (h:(a=none∧len=0∧cap=0∧zs=[])∨∃ x,a=some x∧len≤cap∧cap≤maxLen∧zs.length=cap∧(∀ i,i<zs.length→w.cell? (x.add i)=some (.int .u8 (zs.getD i 0)))∧∀ n∈zs,(Lit.int .u8 n).wf=true) :
 Calls Tryz.prog 14 #[.slice a len cap] w fun e w'=>e=.returned (.bool true)∧RowKit.Below w.heap.size w w':=by
 obtain⟨code,hc⟩:=bytes_rep h
 exact calls_true soundE (.cons (.i hc) .nil) (law_materialize code)
theorem law_viewResult_calls (a:Option Addr) (len cap:Nat) (zs:List Int) (w:World)
 (h:(a=none∧len=0∧cap=0∧zs=[])∨∃ x,a=some x∧len≤cap∧cap≤maxLen∧zs.length=cap∧(∀ i,i<zs.length→w.cell? (x.add i)=some (.int .u8 (zs.getD i 0)))∧∀ n∈zs,(Lit.int .u8 n).wf=true) :
 Calls Tryz.prog 22 #[.slice a len cap] w fun e w'=>e=.returned (.bool true)∧RowKit.Below w.heap.size w w':=by
 obtain⟨code,hc⟩:=bytes_rep h
 exact calls_true soundE (.cons (.i hc) .nil) (law_viewResult code)
theorem law_expandResult_calls (a:Option Addr) (len cap:Nat) (zs:List Int) (w:World)
 (h:(a=none∧len=0∧cap=0∧zs=[])∨∃ x,a=some x∧len≤cap∧cap≤maxLen∧zs.length=cap∧(∀ i,i<zs.length→w.cell? (x.add i)=some (.int .u8 (zs.getD i 0)))∧∀ n∈zs,(Lit.int .u8 n).wf=true) :
 Calls Tryz.prog 21 #[.slice a len cap] w fun e w'=>e=.returned (.bool true)∧RowKit.Below w.heap.size w w':=by
 obtain⟨code,hc⟩:=bytes_rep h
 exact calls_true soundE (.cons (.i hc) .nil) (law_expandResult code)
end Go.Proofs.YtiailccmofdhfaaGreat.P
namespace Go.Proofs.YtiailccmofdhfaaGreat.io
open Go
set_option maxRecDepth 100000
abbrev chs (l:List Nat):List Char:=l.map Char.ofNat
def w0:List Nat:=[104,97,114,110,101,115,115]
def w1:List Nat:=[50,56,102,97,49,53,98,56,52,99,100,48,101,100,100,56,51,100,100,98,102,101,53,102,55,50,99,97,49,49,55,50,56,49,53,101,97,102,100,102,
 50,97,54,48,99,102,98,101,56,57,48,100,53,97,56,97,97,102,100,53,56,48,102,52]
def w2:List Nat:=[99,117,116]
def others:List Nat:=[
 97,116,32,108,111,111,112,46,101,120,97,109,112,108,101,47,113,117,101,114,121,111,112,116,105,109,105,122,101,114,47,108,97,119,115,46,70,110,80,108,
 97,110,67,111,115,116,32,108,111,111,112,46,101,120,97,109,112,108,101,47,113,117,101,114,121,111,112,116,105,109,105,122,101,114,47,108,97,119,115,46,
 70,110,71,114,111,117,112,67,111,117,110,116,115,32,108,111,111,112,46,101,120,97,109,112,108,101,47,113,117,101,114,121,111,112,116,105,109,105,122,101,
 114,47,108,97,119,115,46,70,110,71,114,111,117,112,75,101,121,115,32,108,111,111,112,46,101,120,97,109,112,108,101,47,113,117,101,114,121,111,112,116,
 105,109,105,122,101,114,47,108,97,119,115,46,70,110,80,114,111,106,101,99,116,65,108,108,32,108,111,111,112,46,101,120,97,109,112,108,101,47,113,117,
 101,114,121,111,112,116,105,109,105,122,101,114,47,108,97,119,115,46,70,110,83,99,97,110,32,108,111,111,112,46,101,120,97,109,112,108,101,47,113,117,
 101,114,121,111,112,116,105,109,105,122,101,114,47,108,97,119,115,46,70,110,85,110,105,111,110,83,119,97,112,32,108,111,111,112,46,101,120,97,109,112,
 108,101,47,113,117,101,114,121,111,112,116,105,109,105,122,101,114,47,108,97,119,115,46,70,110,70,105,108,116,101,114,67,111,110,115,116,97,110,116,32,
 108,111,111,112,46,101,120,97,109,112,108,101,47,113,117,101,114,121,111,112,116,105,109,105,122,101,114,47,108,97,119,115,46,70,110,74,111,105,110,70,
 105,108,116,101,114,32,108,111,111,112,46,101,120,97,109,112,108,101,47,113,117,101,114,121,111,112,116,105,109,105,122,101,114,47,108,97,119,115,46,70,
 110,68,105,115,116,105,110,99,116,85,110,105,111,110,32,108,111,111,112,46,101,120,97,109,112,108,101,47,113,117,101,114,121,111,112,116,105,109,105,122,
 101,114,47,108,97,119,115,46,70,110,70,105,108,116,101,114,84,119,105,99,101,32,108,111,111,112,46,101,120,97,109,112,108,101,47,113,117,101,114,121,
 111,112,116,105,109,105,122,101,114,47,108,97,119,115,46,70,110,69,118,97,108,80,108,97,110,32,108,111,111,112,46,101,120,97,109,112,108,101,47,113,
 117,101,114,121,111,112,116,105,109,105,122,101,114,47,108,97,119,115,46,70,110,77,97,116,101,114,105,97,108,105,122,101,32,108,111,111,112,46,101,120,
 97,109,112,108,101,47,113,117,101,114,121,111,112,116,105,109,105,122,101,114,47,108,97,119,115,46,70,110,70,105,108,116,101,114,83,112,108,105,116,115,
 32,108,111,111,112,46,101,120,97,109,112,108,101,47,113,117,101,114,121,111,112,116,105,109,105,122,101,114,47,108,97,119,115,46,70,110,76,101,102,116,
 74,111,105,110,75,101,101,112,115,32,108,111,111,112,46,101,120,97,109,112,108,101,47,113,117,101,114,121,111,112,116,105,109,105,122,101,114,47,108,97,
 119,115,46,70,110,74,111,105,110,73,110,76,101,102,116,74,111,105,110,32,108,111,111,112,46,101,120,97,109,112,108,101,47,113,117,101,114,121,111,112,
 116,105,109,105,122,101,114,47,108,97,119,115,46,70,110,82,111,119,66,111,117,110,100,32,108,111,111,112,46,101,120,97,109,112,108,101,47,113,117,101,
 114,121,111,112,116,105,109,105,122,101,114,47,108,97,119,115,46,70,110,84,97,98,108,101,115,79,102,32,108,111,111,112,46,101,120,97,109,112,108,101,
 47,113,117,101,114,121,111,112,116,105,109,105,122,101,114,47,108,97,119,115,46,70,110,73,115,68,117,112,108,105,99,97,116,101,70,114,101,101,32,108,
 111,111,112,46,101,120,97,109,112,108,101,47,113,117,101,114,121,111,112,116,105,109,105,122,101,114,47,108,97,119,115,46,70,110,69,120,112,97,110,100,
 82,101,115,117,108,116,32,108,111,111,112,46,101,120,97,109,112,108,101,47,113,117,101,114,121,111,112,116,105,109,105,122,101,114,47,108,97,119,115,46,
 70,110,86,105,101,119,82,101,115,117,108,116,32,108,111,111,112,46,101,120,97,109,112,108,101,47,113,117,101,114,121,111,112,116,105,109,105,122,101,114,
 47,108,97,119,115,46,70,110,78,117,108,108,97,98,108,101,67,111,108,117,109,110,115]
theorem order:Tryz.pinned.checked.prog.initOrder=String.ofList (chs w0++Char.ofNat 32::(chs w1++Char.ofNat 32::(chs w2++Char.ofNat 32::chs others))):=by kernel_rfl
theorem word:∀ (w r:List Char),(w.all fun c=>decide (c≠Char.ofNat 32))=true→wordsSigns (w++Char.ofNat 32::r)=w::wordsSigns r
 | [],r,_=>rfl
 | c::w,r,h=>by
  simp only[List.all_cons,Bool.and_eq_true,decide_eq_true_eq]at h
  have ih:=word w r h.2
  rw[List.cons_append,wordsSigns,ih]
  intro e
  exact h.1 e
theorem words:wordsSigns Tryz.pinned.checked.prog.initOrder.toList=chs w0::chs w1::chs w2::wordsSigns (chs others):=by
 rw[order,String.toList_ofList,word _ _ (by decide),word _ _ (by decide),word _ _ (by decide)]
theorem strip_none (c:List Char) (r:List (List Char)):∀ l:List String,(l.all fun o=>!(c == o.toList))=true→stripLifts l (c::r)=([],c::r)
 | [],_=>rfl
 | o::l,h=>by
  simp only[List.all_cons,Bool.and_eq_true,Bool.not_eq_true']at h
  have ih:=strip_none c r l h.2
  rw[stripLifts,h.1]
  exact ih
theorem behind (a b c:List Char) (r:List (List Char)) (ha:a= "harness".toList) (hb:isSumSigns b=true):behindMainWord (a::b::c::r)=c::r:=by
 show(if((a == "harness".toList || a == "ownmain".toList) && isSumSigns b)=true then c::r else a::b::c::r)=c::r
 rw[if_pos (by rw[hb,ha];simp)]
theorem enters_of (P:Program) (c:List Char) (r:List (List Char)) (h:behindMainWord (wordsSigns P.initOrder.toList)=c::r) (hc:c= "cut".toList) (hs:stripLifts liftWords (c::r)=([],c::r)) (l1:P.laysLater=false) (l2:P.bearsReflect=false) (l3:P.doorFits []=true):P.mayEnter=true:=by
 unfold Program.mayEnter
 rw[h]
 simp only[hs,l1,l2,l3]
 simp[hc]
theorem lifts_of (P:Program) (c:List Char) (r:List (List Char)) (h:behindMainWord (wordsSigns P.initOrder.toList)=c::r) (hc:c= "cut".toList) (hs:stripLifts liftWords (c::r)=([],c::r)):P.liftsFinal=false:=by
 unfold Program.liftsFinal Program.headLifts
 rw[h]
 simp only[hs]
 simp[hc]
theorem makes_of (P:Program) (c:List Char) (r:List (List Char)) (h:behindMainWord (wordsSigns P.initOrder.toList)=c::r) (hc:c= "cut".toList):P.make=some .cut:=by
 unfold Program.make
 rw[h]
 simp[hc]
theorem front:behindMainWord (wordsSigns Tryz.pinned.checked.prog.initOrder.toList)=chs w2::wordsSigns (chs others):=by
 rw[words,behind _ _ _ _ (by decide +kernel) (by decide +kernel)]
theorem cut2:chs w2= "cut".toList:=by decide +kernel
theorem strips (r:List (List Char)):stripLifts liftWords (chs w2::r)=([],chs w2::r):=strip_none _ _ _ (by decide +kernel)
theorem enters:Tryz.pinned.checked.prog.mayEnter=true:=enters_of _ _ _ front cut2 (strips _) (by kernel_rfl) (by kernel_rfl) (by kernel_rfl)
theorem lifts:Tryz.pinned.checked.prog.liftsFinal=false:=lifts_of _ _ _ front cut2 (strips _)
theorem makes:Tryz.pinned.checked.prog.make=some .cut:=makes_of _ _ _ front cut2
theorem laid:laidOutB Tryz.pinned.checked.prog=true:=by kernel_rfl
theorem rowed:mapsRowed Tryz.pinned.checked.prog=true:=by kernel_rfl
theorem noStops:Tryz.pinned.checked.prog.stops=[]:=by kernel_rfl
theorem noKnobs:Tryz.pinned.checked.prog.stopKnobs=[]:=by kernel_rfl
theorem plain:Tryz.pinned.checked.prog.plainKeys=true:=by kernel_rfl
theorem heard:Tryz.pinned.checked.prog.stopsHeard=true:=by kernel_rfl
theorem band {a b:Bool} (h:a=true) (k:b=true):(a && b)=true:=by rw[h,k];rfl
end Go.Proofs.YtiailccmofdhfaaGreat.io

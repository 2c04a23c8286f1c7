/- Part 4 of what the proof rests on: the executor and what it is worth, and the program's functions as it runs them. No condition. -/
import Derived.Test.YtjdfjgmebalaaaaGreatT3
set_option linter.unusedVariables false
set_option linter.unusedSimpArgs false
namespace Go.Proofs.YtjdfjgmebalaaaaGreat.G
open Go Go.Av
set_option maxRecDepth 4000
set_option maxHeartbeats 8000000
def jj:List (Nat×AV):=[(4, .junk),(5, .junk),(6, .junk),(7, .junk),(14, .junk),(38, .junk),(39, .junk),(40, .junk),(76, .junk),(77, .junk),(78, .junk)]
theorem AHB:ALE (fun _ _ _=>True):=fun _ _ _ _ _ _ _ _=>trivial
theorem AI8:IntKind.i64.wrap 1=1:=wrO
def RWp (init:PL) (b' i:Nat):List (List IV):=kM init++(List.range i).map fun j=>[ptr (b',j*5)]
theorem ACZ (init:PL) (b' i:Nat):(RWp init b' i).length=init.length+i:=by simp[RWp,kM]
theorem AGL (init:PL) (b' i:Nat):RWp init b' i++[[ptr (b',i*5)]]=RWp init b' (i+1):=by simp[RWp,zB3]
theorem JQ (b:Nat):∀ (o:Nat) (l:List Pn),kM (kX b o l)=(List.range l.length).map fun j=>[ptr (b,o+j*5)]
 | _,[]=>by simp[kX,kM]
 | o,a::l=>by
  have ih:=JQ b (o+5) l;simp only[kM]at ih ⊢;simp only[kX,yR,ih,zM,List.range_succ_eq_map,List.map_map];simp only[List.cons.injEq,Nat.zero_mul,xB,true_and];apply List.map_congr_left;intro j _;simp only[Function.comp,Nat.succ_eq_add_one];rw[show o+5+j*5=o+(j+1)*5 by omega]
theorem OZ (b:Nat):∀ (o:Nat) (l:List Pn),(kX b o l).length=l.length
 | _,[]=>rfl
 | o,a::l=>by simp[kX,OZ b (o+5) l]
theorem OX (b:Nat):∀ (o:Nat) (l:List Pn),((kX b o l).map fun k=>k.2.size).sum=Pn.aQ l
 | _,[]=>by simp[kX,Pn.aQ]
 | o,a::l=>by simp[kX,Pn.aQ,OX b (o+5) l]
theorem OY {b:Nat}:∀ {o:Nat} {l:List Pn},∀ q∈kX b o l,q.2∈l∧q.1.1=b
 | _,[],q,h=>by simp[kX]at h
 | o,a::l,q,h=>by
  simp only[kX,zR]at h
  rcases h with rfl|h
  ·simp
  ·have:=OY q h;exact⟨by simp[this.1],this.2⟩
def iE (es:List Ex):Nat:=if es.length=0 then 100 else 3
def lE (es:List Ex):StL:=if es.length=0 then []else [some (.arr 5 (Ex.aB es))]
def iC (es:List Ex) (cs:List Int):Nat:=if cs.length=0 then 101 else 3+(lE es).length
def lC (es:List Ex) (cs:List Int):StL:=if cs.length=0 then lE es else lE es++[some (.arr 1 (aF cs))]
def iK (es:List Ex) (cs:List Int) (ks:List Pn):Nat:=if ks.length=0 then 102 else 3+(lC es cs).length
def lK (es:List Ex) (cs:List Int) (ks:List Pn):StL:=if ks.length=0 then lC es cs else lC es cs++[some (.arr 5 (Pn.aB ks))]
def YP (b3 n o:Nat) (ES:List (List IV)) (init:PL) (b' nk:Nat) (cells:List AV) (i:Nat):AS :=
 { env:=EV b3 (if i=0 then .osl 1 1 0 n else .osl 3 1 0 (n+i)) (.own 2 o) .junk (jk i (.int (i-1))) (.bool true) .junk .junk .junk (.int nk) (.int i) (jk i (.bool true)),
   st:=some (.box zp)::(if i=0 then some (.arr 1 ES)else none)::some (.box cells)::(if i=0 then []else [some (.arr 1 (RWp init b' i))]) }
theorem ZR (a b c:Option Blk):∀ (l:StL) {x:Option Blk},bF (a::b::c::(l++[x])) (3+l.length)=x:=by
 intro l x;rw[vH]
 have:(a::b::c::(l++[x]))[3+l.length]?=some x:=by
  rw[show 3+l.length=l.length+1+1+1 by omega];simp
 rw[this];rfl
theorem HZ {p:Pn} (hsz:p.size<1000000000) (hth:p.thin) (hty:p.tiny) {wi:World} {mi:Mem} {vs:List Value} (hi:Inv wi mi (fun _=>none) (bF [])) (hr:RepL mi (fun _=>none) [.i (.iref p.cells)] vs) :
 Calls Tryz.prog 59 vs.toArray wi (TL wi mi p):=by
 refine calls_of_wp (fn:=Tryz.f59) Tryz.func59 rfl ?_;have hv1:vs.length=1:=by simpa using hr.length.symm
 have g0:GR wi mi 91 (fun id=>id<({ env:=[(0, .i (.iref p.cells))],st:=[] }:AS).st.length) (fun _ _ _=>True) (aZ [(0, .i (.iref p.cells))]) (bF []) { tmps:=vs.toArray++Array.replicate (91-vs.toArray.size) undef,defers:=[] } wi:=by
  refine⟨⟨mi,fun _=>none,hi,?_, .refl _ _ _,fun id h=>absurd rfl h,trivial⟩,by simp;omega,rfl⟩;intro t;have:=H5 (m:=mi) (φ:=fun _=>none) (91-vs.toArray.size) hr t
  cases t with
  | zero=>simpa [aZ,I6]using this
  | succ t=>simp only[aZ];simp;exact .junk _
 refine wp_seq (wp_mono (GR.lQ nO (G:=GS 59) (S:={ env:=[(0, .i (.iref p.cells))],st:=[] }) (e:=.normal) (S':={ env:=[(0, .i (.iref p.cells)),(2, .own 0 0),(3, .junk)]++jj,st:=[some (.box zp)] }) AHB (by kernel_rfl) (by simp[zp,jj]) g0) ?_);rintro _ a1 w1 ⟨rfl,g1⟩;refine wp_seq (wp_mono (GR.lQ nO (G:=GS 59) (S:={ env:=[(0, .i (.iref p.cells)),(2, .own 0 0),(3, .junk)]++jj,st:=[some (.box zp)] }) (e:=.normal) (S':={ env:=[(0, .i (.iref p.cells)),(2, .own 0 0),(3, .own 1 0)]++jj,st:=[some (.box zp),some (.box (lW p.cells))] }) AHB (by kernel_rfl) (by rw[Pn.aA];simp[zp,jj]) g1) ?_);rintro _ a2 w2 ⟨rfl,g2⟩
 obtain⟨b3,g3⟩:=g2.AUE (u:=3) (id:=1) (p:=p) (st':=bF [some (.box zp)]) rfl rfl (by
  intro i blk h
  cases i with
  | zero=>simp[bF]at h;subst h;exact⟨by omega,rfl,by simp[iM,zp]⟩
  | succ i=>simp[bF]at h)
 have g3:=g3 (aZ [(2, .own 0 0),(3, .i (ptr (b3,0)))]) (by
  intro t;simp only[aZ];by_cases h2:t=2
  ·subst h2;exact .inr (.inr ⟨rfl,by simp[aZ,l6,bF,jj]⟩)
  ·by_cases h3:t=3
   ·subst h3;exact .inr (.inl ⟨rfl,rfl⟩)
   ·simp[h2,h3])
 have g3:=g3.ok' (ok':=fun id=>id<({ env:=[(2, .own 0 0),(3, .i (ptr (b3,0)))],st:=[some (.box zp)] }:AS).st.length) (by
  intro i h
  cases i with
  | zero=>simp
  | succ i=>simp[bF]at h)
 refine wp_seq (wp_mono (GR.lQ nO (G:=GS 59) (S:={ env:=[(2, .own 0 0),(3, .i (ptr (b3,0)))],st:=[some (.box zp)] }) (e:=.normal) (S':=SLp b3 [((b3,0),p)] []) (RAW.AD6 _ _ _ _ _) (by kernel_rfl) (by simp[SLp,EV,kM,ptr,zp]) g3) ?_);rintro _ a3 w3 ⟨rfl,g4⟩;clear g0 g1 g2 g3;refine wp_seq (wp_block ?_);refine ED (fun n a w=>∃ (todo X H:PL) (F:List Nat),H.Perm todo∧(todo.map fun k=>k.2.size).sum=n∧n<1000000000∧(∀ q∈todo,q.2.thin∧q.2.tiny)∧GR wi mi 91 (fun id=>id<(SLp b3 todo X).st.length) (RAW wi b3 p F H) (aZ (SLp b3 todo X).env) (bF (SLp b3 todo X).st) a w) ?_ (n:=p.size) ⟨[((b3,0),p)],[],[((b3,0),p)],[], .refl _,by simp,hsz,by simpa using ⟨hth,hty⟩,g4⟩;clear g4;rintro n a w ⟨todo,X,H,F,hperm,hsum,hn,hall,g⟩
 rcases List.eq_nil_or_concat todo with rfl|⟨init,k,rfl⟩
 ·obtain rfl:=List.perm_nil.1 hperm;refine wp_mono (GR.lQ nO (G:=GS 59) (S:=SLp b3 [] X) (e:=.exit 0) (S':={ env:=EV b3 (.osl 1 1 0 0) .junk .junk .junk (.bool false) .junk .junk .junk .junk .junk .junk,st:=[some (.box zp),some (.arr 1 (kM X))] }) (RAW.AD6 _ _ _ _ _) (by kernel_rfl) (by simp[SLp,EV,zp]) g) ?_;rintro _ a5 w5 ⟨rfl,g5⟩;simp only[kG,Exit.then,Exit.inBlock,if_true];obtain⟨v0,v1,v2,v3,v4,post,hone,g6⟩:=g5.APV (u:=3) (k:=2) rfl rfl (by simp)
  have g6:=(g6 (aZ [(2, .own 0 0),(3, .own 2 0)]) (by
   intro t;simp only[aZ];by_cases h2:t=2
   ·subst h2;exact .inr (.inr (by simp[aZ,EV]))
   ·by_cases h3:t=3
    ·subst h3;exact .inr (.inl ⟨rfl,rfl⟩)
    ·simp[h2,h3])).ok' (ok':=fun id=>id<({ env:=[(2, .own 0 0),(3, .own 2 0)],st:=[some (.box zp),some (.arr 1 (kM X)),some (.box (eD [v0,v1,v2,v3,v4]++eD post))] }:AS).st.length) (by
   intro i h
   simp at h ⊢;omega)
  rw[ER]at g6
  refine wp_mono (GR.lQ nO (G:=GS 59) (S:={ env:=[(2, .own 0 0),(3, .own 2 0)],st:=[some (.box zp),some (.arr 1 (kM X)),some (.box (eD [v0,v1,v2,v3,v4]++eD post))] }) (e:=.ret) (S':={ env:=[(0, .junk),(2, .own 0 0),(3, .own 2 0)]++jj,st:=[some (.box (eD [v0,v1,v2,v3,v4])),some (.arr 1 (kM X)),some (.box (eD [v0,v1,v2,v3,v4]++eD post))] }) (CPY.AD6 _ _ _ _ _ _ _ _) (by kernel_rfl) (by
   have hz:eD [v0,v1,v2,v3,v4]=[.i (.lit v0), .i (.lit v1), .i (.lit v2), .i (.lit v3), .i (.lit v4)]:=rfl;rw[hz]
   simp[zp,jj,G6,JG]) g6) ?_
  rintro _ a6 w6 ⟨rfl,g7⟩;obtain⟨⟨m,φ,q1,q2,q3,q4,q5⟩,q6,q7⟩:=g7
  obtain⟨v,k1,k2⟩:=mP (C:=C2) (fn:=Tryz.f59) (keep:=false) (na:=0) (S:={ env:=[(0, .junk),(2, .own 0 0),(3, .own 2 0)]++jj,st:=[some (.box (eD [v0,v1,v2,v3,v4])),some (.arr 1 (kM X)),some (.box (eD [v0,v1,v2,v3,v4]++eD post))] }) (r:=.i (.agg [.lit v0, .lit v1, .lit v2, .lit v3, .lit v4])) (stl':=[]) (fun id h=>absurd rfl h) ⟨⟨⟨m,φ,q1,q2,q3,q4, .nil _ _ _⟩,q6,q7⟩,zB8 _⟩ (by
   show finish C2 false [ResultVar.cell 2 34] 0 _=_;have hz:eD [v0,v1,v2,v3,v4]=[.i (.lit v0), .i (.lit v1), .i (.lit v2), .i (.lit v3), .i (.lit v4)]:=rfl;rw[hz]
   simp)
  have hv:v=.agg #[v0,v1,v2,v3,v4]:=by
   obtain⟨_,_,_,e,r,_⟩:=k2;injection e with e;subst e
   cases r with
   | i r=>cases r with
    | agg r =>
     cases r with|cons a0 _ r=>cases r with|cons a1 _ r=>cases r with|cons a2 _ r=>cases r with|cons a3 _ r=>cases r with|cons a4 _ r =>
     cases r
     rw[mY a0,mY a1,mY a2,mY a3,mY a4]
  subst hv;refine⟨q7,_,k1,v0,v1,v2,v3,v4,F,m,rfl,hone,q1.mem,⟨q3.size,q3.os,q3.tape,q3.output,q3.block,q3.mle,q3.mnew, .refl _,fun _ _ _ _ e=>by cases e⟩,q5.th,q5.cells,q5.nd,fun f hf=>?_⟩;obtain⟨z1,z2,z3,z4,z5⟩:=q5.all f hf;exact⟨z1,z2,(by intro _ _ _ e;cases e),z4,z5⟩
 ·obtain⟨⟨b,o⟩,x⟩:=k;rw[List.concat_eq_append]at hperm hsum hall g
  have hlen:∀ l:PL,l.length≤(l.map fun k=>k.2.size).sum:=by
   intro l
   induction l with
   | nil=>simp
   | cons a l ih=>have:=Pn.kU a.2;simp;omega
  have hil:=hlen init;simp at hsum;have hq:((b,o),x)∈H:=hperm.mem_iff.2 (by simp);have hxs:=Pn.size_eq x;have hkl:=Pn.bM x.kids;have hpos:(0:Int)<(init.length:Int)+1:=by omega
  have w1:IntKind.i64.wrap (init.length:Int)=init.length:=wrO;generalize hES:kM (init++[((b,o),x)]++X)=ES at *
  have hnth:fJ ES init.length=some [ptr (b,o)]:=by
   rw[gH,← hES];simp[kM]
  have hlit:∀ c∈ES.flatten,∃ v,c=.lit v:=by rw[← hES];exact LA _
  have htake:ES.take init.length=kM init:=by rw[← hES];simp[kM]
  have hESl:init.length≤ES.length:=by rw[← hES];simp[kM]
  have hlt:(init.length:Int)<(init.length:Int)+1:=by omega
  have hlt2:(init.length:Int)≤(init.length:Int)+1:=by omega
  obtain⟨hxt,hxy⟩:=hall ((b,o),x) (by simp);simp only at hxt hxy;refine wp_seq (wp_mono (GR.lQ nO (G:=GS 59) (S:=SLp b3 (init++[((b,o),x)]) X) (e:=.normal) (S':={ env:=EV b3 (.osl 1 1 0 (init.length+1)) .junk .junk .junk (.bool true) .junk .junk .junk .junk .junk .junk,st:=[some (.box zp),some (.arr 1 ES)] }) (RAW.AD6 _ _ _ _ _) (by kernel_rfl) (by simp only[SLp,hES];simp[EV,zp,hpos]) g) ?_);rintro _ a5 w5 ⟨rfl,g5⟩;clear g;refine wp_block ?_;refine wp_seq (wp_mono (GR.lQ nO (G:=GS 59) (S:={ env:=EV b3 (.osl 1 1 0 (init.length+1)) .junk .junk .junk (.bool true) .junk .junk .junk .junk .junk .junk,st:=[some (.box zp),some (.arr 1 ES)] }) (e:=.normal) (S':={ env:=EV b3 (.osl 1 1 0 (init.length+1)) (.i (ptr (b,o))) .junk .junk (.bool true) .junk .junk .junk .junk .junk .junk,st:=[some (.box zp),some (.arr 1 ES)] }) (RAW.AD6 _ _ _ _ _) (by kernel_rfl) (by simp only[ptr]at hnth;simp[EV,ptr,zp,hnth,w1,hlt]) g5) ?_);rintro _ a6 w6 ⟨rfl,g6⟩;clear g5;refine wp_seq (wp_mono (GR.lQ nO (G:=GS 59) (S:={ env:=EV b3 (.osl 1 1 0 (init.length+1)) (.i (ptr (b,o))) .junk .junk (.bool true) .junk .junk .junk .junk .junk .junk,st:=[some (.box zp),some (.arr 1 ES)] }) (e:=.normal) (S':={ env:=EV b3 (.osl 1 1 0 init.length) (.i (ptr (b,o))) .junk .junk (.bool true) .junk .junk .junk .junk .junk .junk,st:=[some (.box zp),some (.arr 1 ES)] }) (RAW.AD6 _ _ _ _ _) (by kernel_rfl) (by simp[EV,ptr,zp,w1,hlt2]) g6) ?_);rintro _ a7 w7 ⟨rfl,g7⟩;clear g6;obtain⟨pre,post,us,ma,e1,e2,e3,e4,e5,g8⟩:=g7.TG (u:=5) (y:=x) rfl (by simp) hq rfl;clear g7;rw[ASR,ER]at g8;subst e3;obtain⟨kd,tb,es,cs,ks⟩:=x;obtain⟨t1,t2,t3,t4,t5⟩:=(Pn.bI _).1 hxt;obtain⟨y1,y2⟩:=(Pn.KT _).1 hxy;simp only[Pn.iA,Pn.cO,Pn.fK]at t1 t2 t3 t4 t5 y1 y2 hxs hkl;rw[Pn.dY]at g8;have hst:=ADP.AD6 wi b3 p F H b us w7 ma
  refine wp_seq (wp_mono (GR.lQ nO (G:=GS 59) (S:=SRp b3 init.length pre.length ES .junk .junk (.bool true) .junk .junk .junk .junk .junk .junk (nE pre [.int kd, .int tb, .i (.isl (Ex.aB es)), .i (.isl (aF cs)), .i (.isl (Pn.aB ks))] post) []) (e:=.normal) (S':=SRp b3 init.length pre.length ES .junk .junk (.bool true) .junk .junk .junk .junk .junk .junk (nE pre [.int kd, .int tb,slA es.length (iE es) 5, .i (.isl (aF cs)), .i (.isl (Pn.aB ks))] post) (lE es)) hst (by kernel_rfl) (by
   by_cases he:es=[]
   ·subst he;simp[SRp,EV,zp,ALP,X6,aY,bN,Ex.aB,APM,slA,lE]
   ·have hel:es.length≠0:=fun h=>he (zW.1 h)
    simp[SRp,EV,zp,ALP,X6,aY,bN,AL0 he t1,slA,lE,iE,he]) (g8.ok' fun id h=>by simp at h ⊢;simp[SRp];omega)) ?_)
  rintro _ a9 w9 ⟨rfl,g9⟩;clear g8
  refine wp_seq (wp_mono (GR.APJ nO (G:=GS 59) (S:=SRp b3 init.length pre.length ES .junk .junk (.bool true) .junk .junk .junk .junk .junk .junk (nE pre [.int kd, .int tb,slA es.length (iE es) 5, .i (.isl (aF cs)), .i (.isl (Pn.aB ks))] post) (lE es)) hst
   (PP:=fun e S'=>e=.normal∧∃ v6 v38 v39 v40,S'=SRp b3 init.length pre.length ES v6 .junk (.bool true) v38 v39 v40 .junk .junk .junk (nE pre [.int kd, .int tb,slA es.length (iE es) 5, .i (.isl (aF cs)), .i (.isl (Pn.aB ks))] post) (lE es)) (by kernel_rfl) (by
   by_cases he:es=[]
   ·subst he;refine⟨.normal,SRp b3 init.length pre.length ES .junk .junk (.bool true) (.int 0) (.int 0) (.bool false) .junk .junk .junk (nE pre [.int kd, .int tb,slA 0 (iE []) 5, .i (.isl (aF cs)), .i (.isl (Pn.aB ks))] post) (lE []),?_,rfl,_,_,_,_,rfl⟩;simp[SRp,EV,zp,ALP,X6,aY,bN,slA,lE];rw[aG];simp[aY,bN]
   ·have hel:es.length≠0:=fun h=>he (zW.1 h)
    refine⟨.normal,SRp b3 init.length pre.length ES (.int (es.length-1)) .junk (.bool true) (.int es.length) (.int es.length) (.bool false) .junk .junk .junk (nE pre [.int kd, .int tb,slA es.length (iE es) 5, .i (.isl (aF cs)), .i (.isl (Pn.aB ks))] post) (lE es),?_,rfl,_,_,_,_,rfl⟩;simp[SRp,EV,zp,ALP,X6,aY,bN,slA,lE,iE,he];rw[aS (XS b3 init.length ES pre post kd tb es (.i (.isl (aF cs))) (.i (.isl (Pn.aB ks))) (.bool true)) es.length (by simp[XS,SRp,EV,zp])]
    ·rw[aG];simp[XS,SRp,EV,zp,ALP,X6,aY,bN,bY hel]
    ·intro i hi;have h3:=zX hi;have hs:=y1 _ (zV h3);have r2:=Ex.aN h3;generalize es[i]=a at h3 hs r2;have hk:=APL hs r2;have hput:=Ex.rU h3;have w2:IntKind.i64.wrap ((i:Int)+1)=i+1:=wrO;rw[Ex.aA]at r2 hk hput
     simp[XS,SRp,EV,zp,ALP,X6,aY,bN,hi,r2,hk,w2,hput]) g9) ?_)
  rintro _ a10 w10 ⟨e,S',rfl,⟨rfl,v6,v38,v39,v40,rfl⟩,g10⟩;clear g9
  have g10:=(g10.envTo (env':=aZ (SRp b3 init.length pre.length ES .junk .junk (.bool true) .junk .junk .junk .junk .junk .junk (nE pre [.int kd, .int tb,slA es.length (iE es) 5, .i (.isl (aF cs)), .i (.isl (Pn.aB ks))] post) (lE es)).env) (by
   intro t;simp only[SRp,EV,aZ];by_cases h6:t=6
   ·subst h6;simp
   by_cases h38:t=38
   ·subst h38;simp
   by_cases h39:t=39
   ·subst h39;simp
   by_cases h40:t=40
   ·subst h40;simp
   ·simp[h6,h38,h39,h40]))
  refine wp_seq (wp_mono (GR.lQ nO (G:=GS 59) (S:=SRp b3 init.length pre.length ES .junk .junk (.bool true) .junk .junk .junk .junk .junk .junk (nE pre [.int kd, .int tb,slA es.length (iE es) 5, .i (.isl (aF cs)), .i (.isl (Pn.aB ks))] post) (lE es)) (e:=.normal) (S':=SRp b3 init.length pre.length ES .junk .junk (.bool true) .junk .junk .junk .junk .junk .junk (nE pre [.int kd, .int tb,slA es.length (iE es) 5,slA cs.length (iC es cs) 1, .i (.isl (Pn.aB ks))] post) (lC es cs)) hst (by kernel_rfl) (by
   by_cases he:es=[]<;>by_cases hc:cs=[]
   ·subst he;subst hc;simp[SRp,EV,zp,AQ8,AEG,aY,bN,aF,AI4,slA,lE,lC]
   ·have hcl:cs.length≠0:=fun h=>hc (zW.1 h)
    subst he;simp[SRp,EV,zp,AQ8,AEG,aY,bN,AC7 hc t3,slA,lE,lC,iC,hc]
   ·have hel:es.length≠0:=fun h=>he (zW.1 h)
    subst hc;simp[SRp,EV,zp,AQ8,AEG,aY,bN,aF,AI4,slA,lE,lC,iE,he]
   ·have hel:es.length≠0:=fun h=>he (zW.1 h)
    have hcl:cs.length≠0:=fun h=>hc (zW.1 h)
    simp[SRp,EV,zp,AQ8,AEG,aY,bN,AC7 hc t3,slA,lE,lC,iE,iC,he,hc]) g10) ?_)
  rintro _ a11 w11 ⟨rfl,g11⟩;clear g10
  refine wp_seq (wp_mono (GR.lQ nO (G:=GS 59) (S:=SRp b3 init.length pre.length ES .junk .junk (.bool true) .junk .junk .junk .junk .junk .junk (nE pre [.int kd, .int tb,slA es.length (iE es) 5,slA cs.length (iC es cs) 1, .i (.isl (Pn.aB ks))] post) (lC es cs)) (e:=.normal) (S':=SRp b3 init.length pre.length ES .junk .junk (.bool true) .junk .junk .junk .junk .junk .junk (nE pre [.int kd, .int tb,slA es.length (iE es) 5,slA cs.length (iC es cs) 1,slA ks.length (iK es cs ks) 5] post) (lK es cs ks)) hst (by kernel_rfl) (by
   by_cases he:es=[]<;>by_cases hc:cs=[]<;>by_cases hk:ks=[]
   all_goals (try subst he)
   all_goals (try subst hc)
   all_goals (try subst hk)
   ·simp[SRp,EV,zp,WG,NS,aY,bN,Pn.aB,VF,slA,lE,lC,lK]
   ·simp[SRp,EV,zp,WG,NS,aY,bN,MC hk t4,slA,lE,lC,lK,iK,hk]
   ·simp[SRp,EV,zp,WG,NS,aY,bN,Pn.aB,VF,slA,lE,lC,lK,iC,hc]
   ·simp[SRp,EV,zp,WG,NS,aY,bN,MC hk t4,slA,lE,lC,lK,iC,iK,hc,hk]
   ·simp[SRp,EV,zp,WG,NS,aY,bN,Pn.aB,VF,slA,lE,lC,lK,iE,he]
   ·simp[SRp,EV,zp,WG,NS,aY,bN,MC hk t4,slA,lE,lC,lK,iE,iK,he,hk]
   ·simp[SRp,EV,zp,WG,NS,aY,bN,Pn.aB,VF,slA,lE,lC,lK,iE,iC,he,hc]
   ·simp[SRp,EV,zp,WG,NS,aY,bN,MC hk t4,slA,lE,lC,lK,iE,iC,iK,he,hc,hk]) g11) ?_)
  rintro _ a12 w12 ⟨rfl,g12⟩;clear g11
  obtain⟨F',H',us',b',cap,vE,vC,m2,hpm,hus,hone,hbn,g13⟩:=g12.ARN (u:=5) (st':=bF [some (.box zp),some (.arr 1 ES)]) (env':=aZ (EV b3 (.osl 1 1 0 init.length) (.own 2 pre.length) .junk .junk (.bool true) .junk .junk .junk .junk .junk .junk)) (idE:=iE es) (idC:=iC es cs) (idK:=iK es cs ks) (oq:=pre.length) e1 e2 rfl e4 hq rfl
   (fun h=>by simp[SRp,iE,lE,lC,lK,h];split<;>split<;>simp[bF])
   (fun h=>by simp only[SRp,iC,lC,lK,h,if_false];cases hh:lE es with
    | nil=>split<;>simp[bF]
    | cons a l =>
     have:l=[]:=by unfold lE at hh;split at hh<;>simp_all
     subst this;split<;>simp[bF])
   (fun h=>by simp only[SRp,iK,lK,h,if_false];exact ZR _ _ _ _)
   (by unfold iE iC iK lC lE;repeat' split<;>simp_all)
   (by
    intro i blk h
    rcases i with _|_|i
    ·simp[bF]at h;subst h;exact⟨by omega,rfl,by simp[iM,zp]⟩
    ·simp[bF]at h;subst h;exact⟨by omega,rfl,hlit⟩
    ·simp[bF]at h)
   (by
    intro t;simp only[SRp,EV,aZ];by_cases h0:t=0
    ·subst h0;simp
    by_cases h2:t=2
    ·subst h2;exact .inr ⟨by simp, .inr (by simp[l6,bF])⟩
    by_cases h3:t=3
    ·subst h3;exact .inr ⟨by simp, .inr (by simp[l6,ptr])⟩
    by_cases h4:t=4
    ·subst h4;exact .inr ⟨by simp, .inr (by simp[l6,bF])⟩
    by_cases h5:t=5
    ·subst h5;exact .inr ⟨by simp, .inl (by simp)⟩
    by_cases h14:t=14
    ·subst h14;exact .inr ⟨by simp, .inr (by simp[l6])⟩
    simp[h0,h2,h3,h4,h5,h14])
  clear g12;rw[ER]at g13;have hbx:eD us'=nE pre [.i (.lit (.int .i64 kd)), .i (.lit (.int .i64 tb)), .i (.lit vE), .i (.lit vC), .i (.lit (if ks.length=0 then .slice none 0 0 else .slice (some ⟨b',0,none⟩) ks.length cap))] post:=by rw[hus];simp[nE,eD]
  rw[hbx]at g13;have hst':=ADP.AD6 wi b3 p F' H' b us' w12 m2
  refine wp_mono (GR.APJ nO (G:=GS 59) (S:=SRp b3 init.length pre.length ES .junk .junk (.bool true) .junk .junk .junk .junk .junk .junk (nE pre [.i (.lit (.int .i64 kd)), .i (.lit (.int .i64 tb)), .i (.lit vE), .i (.lit vC), .i (.lit (if ks.length=0 then .slice none 0 0 else .slice (some ⟨b',0,none⟩) ks.length cap))] post) []) hst'
   (PP:=fun e S'=>e=.normal∧∃ v7 v76 v77 v78,S'={ env:=EV b3 (if ks.length=0 then .osl 1 1 0 init.length else .osl 3 1 0 (init.length+ks.length)) (.own 2 pre.length) .junk v7 (.bool true) .junk .junk .junk v76 v77 v78,st:=some (.box zp)::(if ks.length=0 then some (.arr 1 ES)else none)::some (.box (nE pre [.i (.lit (.int .i64 kd)), .i (.lit (.int .i64 tb)), .i (.lit vE), .i (.lit vC), .i (.lit (if ks.length=0 then .slice none 0 0 else .slice (some ⟨b',0,none⟩) ks.length cap))] post))::(if ks.length=0 then []else [some (.arr 1 (RWp init b' ks.length))]) }) (by kernel_rfl) (by
   by_cases h0:ks.length=0
   ·refine⟨.normal,{ env:=EV b3 (.osl 1 1 0 init.length) (.own 2 pre.length) .junk .junk (.bool true) .junk .junk .junk (.int 0) (.int 0) (.bool false),st:=some (.box zp)::some (.arr 1 ES)::some (.box (nE pre [.i (.lit (.int .i64 kd)), .i (.lit (.int .i64 tb)), .i (.lit vE), .i (.lit vC), .i (.lit (if ks.length=0 then .slice none 0 0 else .slice (some ⟨b',0,none⟩) ks.length cap))] post))::[] },?_,rfl, .junk, .int 0, .int 0, .bool false,by simp[h0]⟩;simp[SRp,EV,zp,WG,aY,bN,h0];rw[aG];simp[aY,bN]
   ·refine⟨.normal,{ env:=EV b3 (.osl 3 1 0 (init.length+ks.length)) (.own 2 pre.length) .junk (.int (ks.length-1)) (.bool true) .junk .junk .junk (.int ks.length) (.int ks.length) (.bool false),st:=some (.box zp)::none::some (.box (nE pre [.i (.lit (.int .i64 kd)), .i (.lit (.int .i64 tb)), .i (.lit vE), .i (.lit vC), .i (.lit (if ks.length=0 then .slice none 0 0 else .slice (some ⟨b',0,none⟩) ks.length cap))] post))::[some (.arr 1 (RWp init b' ks.length))] },?_,rfl, .int (ks.length-1), .int ks.length, .int ks.length, .bool false,by simp[h0]⟩;simp only[h0,if_false];simp[SRp,EV,zp,WG,aY,bN];rw[aS (YP b3 init.length pre.length ES init b' ks.length (nE pre [.i (.lit (.int .i64 kd)), .i (.lit (.int .i64 tb)), .i (.lit vE), .i (.lit vC), .i (.lit (if ks.length=0 then .slice none 0 0 else .slice (some ⟨b',0,none⟩) ks.length cap))] post)) ks.length (by simp[YP,EV,zp,h0])]
    ·rw[aG];simp[YP,EV,zp,WG,aY,bN,h0,bY h0]
    ·intro i hi;have w2:IntKind.i64.wrap ((i:Int)+1)=i+1:=wrO;by_cases hi0:i=0
     ·subst hi0;have hR:kM init++[[.lit (.pointer (some ⟨b',0,none⟩))]]=RWp init b' 1:=by simp[RWp,ptr]
      have hl:(init.length+1)*8≤140737488355328:=by omega
      simp[YP,EV,zp,WG,aY,bN,h0,AI8,hi,htake,hR,hl,hESl]
     ·have hl:(init.length+i+1)*8≤140737488355328:=by omega
      have hT:(RWp init b' i).take (init.length+i)=RWp init b' i:=zZ (by rw[ACZ];omega);have hR:RWp init b' i++[[.lit (.pointer (some ⟨b',i*5,none⟩))]]=RWp init b' (i+1):=by simpa [ptr]using AGL init b' i
      simp[YP,EV,zp,WG,aY,bN,h0,hi0,bY hi0,w2,hi,hT,ACZ,hl,hR,← Nat.add_assoc]) (g13.ok' fun id h=>by simp[SRp];omega)) ?_
  rintro _ a13 w13 ⟨e,S',rfl,⟨rfl,v7,v76,v77,v78,rfl⟩,g14⟩;clear g13;simp only[kG,Exit.then,Exit.inBlock]
  have hpm2:H'.Perm (init++kX b' 0 ks):=by
   have h1:(((b,pre.length),Pn.mk kd tb es cs ks)::H').Perm (((b,pre.length),Pn.mk kd tb es cs ks)::(init++kX b' 0 ks)):=by
    refine hpm.trans ((hperm.append_right _).trans ?_);rw[yZ];exact List.perm_middle
   exact(List.perm_cons _).1 h1
  have hszx:(Pn.mk kd tb es cs ks).size=1+Pn.aQ ks:=hxs
  have hall2:∀ q∈init++kX b' 0 ks,q.2.thin∧q.2.tiny:=by
   intro q hq'
   rcases zU.1 hq' with h|h
   ·exact hall q (by simp[h])
   ·have:=(OY q h).1;exact⟨t5 _ this,y2 _ this⟩
  have hsum2:((init++kX b' 0 ks).map fun k=>k.2.size).sum=n-1:=by
   rw[xW,List.sum_append,OX];omega
  by_cases hk0:ks.length=0
  ·have hks:ks=[]:=zW.1 hk0;subst hks;simp only[yK,if_true]at g14 hbx
   have g15:=g14.UV (st':=bF [some (.box zp),some (.arr 1 ES)]) (env':=aZ (EV b3 (.osl 1 1 0 init.length) .junk .junk .junk .junk .junk .junk .junk .junk .junk .junk)) (by rw[hbx];rfl) (by
    intro i blk h
    rcases i with _|_|i
    ·simp[bF]at h;subst h;exact⟨by omega,rfl,by simp[iM,zp]⟩
    ·simp[bF]at h;subst h;exact⟨by omega,rfl,hlit⟩
    ·simp[bF]at h) (by
    intro t;simp only[EV,aZ];by_cases h0:t=0
    ·subst h0;simp
    by_cases h2:t=2
    ·subst h2;exact .inr ⟨by simp,by simp[l6,bF]⟩
    by_cases h3:t=3
    ·subst h3;exact .inr ⟨by simp,by simp[l6,ptr]⟩
    by_cases h4:t=4
    ·subst h4;exact .inr ⟨by simp,by simp[l6,bF]⟩
    simp[h0,h2,h3,h4])
   simp only[kX,yB]at hpm2 hall2 hsum2;refine⟨n-1,by omega,init,[((b,pre.length),Pn.mk kd tb es cs [])]++X,H',F',hpm2,hsum2,by omega,hall2,?_⟩;have hES2:kM (init++([((b,pre.length),Pn.mk kd tb es cs [])]++X))=ES:=by rw[← hES,yZ]
   simp only[SLp,hES2]
   exact g15.ok' (by
    intro i h
    rcases i with _|_|i
    ·simp
    ·simp
    ·simp[bF]at h)
  ·simp only[hk0,if_false]at g14 hbx
   have g15:=g14.UV (st':=bF [some (.box zp),none,none,some (.arr 1 (RWp init b' ks.length))]) (env':=aZ [(2, .own 0 0),(3, .i (ptr (b3,0))),(4, .osl 3 1 0 (init.length+ks.length))]) (by rw[hbx];rfl) (by
    intro i blk h
    rcases i with _|_|_|_|i
    ·simp[bF]at h;subst h;exact⟨by omega,rfl,by simp[iM,zp]⟩
    ·simp[bF]at h
    ·simp[bF]at h
    ·simp[bF]at h;subst h;exact⟨by omega,rfl,by
      intro c hc;rw[List.mem_flatten]at hc;obtain⟨r,hr1,hr2⟩:=hc;unfold RWp at hr1
      rcases zU.1 hr1 with h|h
      ·exact LA init c (List.mem_flatten.2 ⟨r,h,hr2⟩)
      ·obtain⟨j,_,rfl⟩:=yD.1 h
       simp at hr2;subst hr2;exact⟨_,rfl⟩⟩
    ·simp[bF]at h) (by
    intro t;simp only[EV,aZ];by_cases h2:t=2
    ·subst h2;exact .inr ⟨by simp,by simp[l6,bF]⟩
    by_cases h3:t=3
    ·subst h3;exact .inr ⟨by simp,by simp[l6,ptr]⟩
    by_cases h4:t=4
    ·subst h4;exact .inr ⟨by simp,by simp[l6,bF]⟩
    simp[h2,h3,h4])
   have g16:=g15.settle (fun w m φ ids h=>RAW.keep ids h) [2,3,4]
   have hs:Av.settle [2,3,4] 0 (aZ [(2, .own 0 0),(3, .i (ptr (b3,0))),(4, .osl 3 1 0 (init.length+ks.length))]) (bF [some (.box zp),none,none,some (.arr 1 (RWp init b' ks.length))])={ env:=[(2, .own 0 0),(3, .i (ptr (b3,0))),(4, .osl 1 1 0 (init.length+ks.length))],st:=[some (.box zp),some (.arr 1 (RWp init b' ks.length))] }:=by
    simp[zp,ptr]
   rw[hs]at g16;refine⟨n-1,by omega,init++kX b' 0 ks,[],H',F',hpm2,hsum2,by omega,hall2,?_⟩
   have hR:kM (init++kX b' 0 ks++[])=RWp init b' ks.length:=by
    rw[yB];have:=JQ b' 0 ks;simp only[kM]at this;simp only[kM,RWp,xW,this,zC]
   have hl:(init++kX b' 0 ks).length=init.length+ks.length:=by rw[zQ,OZ]
   simp only[SLp,hR,hl]
   exact g16.envTo (by
    intro t;simp only[EV,aZ];by_cases h0:t=0
    ·subst h0;simp
    by_cases h2:t=2
    ·subst h2;simp
    by_cases h3:t=3
    ·subst h3;simp
    by_cases h4:t=4
    ·subst h4;simp
    ·simp[h0,h2,h3,h4])
theorem M6 {p:Pn} (hsz:p.size<1000000000) (hth:p.thin) (hty:p.tiny) {wi:World} {mi:Mem} {φ:Pl} {vs:List Value} (hi:Inv wi mi φ (bF [])) (hr:RepL mi φ [.i (.iref p.cells)] vs) (h0:∀ id,φ id≠none→id<0) :
 Calls Tryz.prog 59 vs.toArray wi (eZ wi mi φ (.i (.agg p.cells)) []):=by
 obtain rfl:φ=fun _=>none:=by
  funext id
  cases h:φ id with
  | none=>rfl
  | some p=>exact absurd (h0 id (by rw[h];simp)) (zC8 _)
 exact(HZ hsz hth hty hi hr).mono fun _ _ h=>h.tree
end Go.Proofs.YtjdfjgmebalaaaaGreat.G
namespace Go.Proofs.YtjdfjgmebalaaaaGreat
open Go Go.Av
theorem O9 {g:FuncId} {q:List AV→StL→Option (AV×StL)} (h:C0.prim g=some q):(g=92∧q=HV)∨(g=59∧q=AFZ):=by
 have h:AJL g=some q:=h;unfold AJL at h;split at h
 ·injection h with h;exact .inl ⟨rfl,h.symm⟩
 ·injection h with h;exact .inr ⟨rfl,h.symm⟩
 ·cases h
theorem ARR:PrimOk C0:=by
 constructor
 ·intro g args st p h;unfold fB at h
  cases hq:C0.prim g with
  | none=>rw[hq]at h;cases h
  | some q =>
   rcases O9 hq with ⟨rfl,rfl⟩|⟨rfl,rfl⟩
   ·exact⟨Tryz.f92,Tryz.func92,by decide,rfl⟩
   ·exact⟨Tryz.f59,Tryz.func59,by decide,rfl⟩
 ·intro g args stl r stl' h w m φ vs hi hr h0;unfold fB at h
  cases hq:C0.prim g with
  | none=>rw[hq]at h;cases h
  | some q =>
   rcases O9 hq with ⟨rfl,rfl⟩|⟨rfl,rfl⟩
   ·rw[hq]at h;obtain⟨e,he,hres,hor⟩:=KC h;injection hres with h1 h2;subst h1;subst h2
    rcases hor with ⟨rfl,rfl⟩|⟨j,es,rfl,rfl,hes⟩
    ·exact CK he hi hr h0
    ·exact KE he hes hi hr h0
   ·rw[hq]at h;obtain⟨p,⟨k1,k2,k3⟩,rfl,rfl,hres⟩:=Y2 h;injection hres with h1 h2;subst h1;subst h2;exact G.M6 k1 k2 k3 hi hr h0
theorem eO:SoundOk C0:=rF (C:=C0) ft nt eqS mo ARR
end Go.Proofs.YtjdfjgmebalaaaaGreat
namespace Go.Av.Mk
open Go Go.Av
set_option maxRecDepth 4000
def rowsOf (W:Nat):Nat→List Value→List (List IV)
 | 0,_=>[]
 | n+1,vs=>(vs.take W).map IV.lit::rowsOf W n (vs.drop W)
theorem eT (W:Nat):∀ (n:Nat) (vs:List Value),(rowsOf W n vs).length=n
 | 0,_=>rfl
 | n+1,vs=>by simp[rowsOf,eT W n]
theorem mW (W:Nat):∀ (n:Nat) (vs:List Value),(rowsOf W n vs).flatten=(vs.take (W*n)).map IV.lit
 | 0,vs=>by simp[rowsOf]
 | n+1,vs=>by
  simp only[rowsOf,zA,mW W n];rw[← List.map_append,show W*(n+1)=W+W*n by rw[zI];omega,List.take_add]
theorem BM (W:Nat):∀ (n:Nat) (vs:List Value),W*n≤vs.length→∀ e∈rowsOf W n vs,e.length=W
 | 0,_,_=>by simp[rowsOf]
 | n+1,vs,h=>by
  intro e he;have hm:W*(n+1)=W*n+W:=by rw[zI];omega
  simp only[rowsOf,zR]at he
  rcases he with rfl|he
  ·simp;omega
  ·exact BM W n _ (by simp;omega) e he
theorem iF (W:Nat):∀ (n:Nat) (vs:List Value) (i:Nat),i<n→fJ (rowsOf W n vs) i=some (((vs.drop (W*i)).take W).map IV.lit)
 | 0,_,_,h=>by omega
 | n+1,vs,0,_=>by simp[rowsOf,fJ]
 | n+1,vs,i+1,h=>by
  simp only[rowsOf,fJ];rw[iF W n _ i (by omega),xV,show W+W*i=W*(i+1)by rw[zI];omega]
theorem nQ (W:Nat):∀ (n:Nat) (us vals:List Value) (i:Nat),i<n→W*n≤us.length→vals.length=W→(rowsOf W n us).set i (vals.map IV.lit)=rowsOf W n (us.take (W*i)++vals++us.drop (W*(i+1)))
 | 0,_,_,_,h,_,_=>by omega
 | n+1,us,vals,0,_,hu,hv=>by
  simp only[rowsOf,zB4,Nat.mul_zero,List.take_zero,xS,zC,zA7];rw[zC9 hv,xM hv]
 | n+1,us,vals,i+1,h,hu,hv=>by
  have m1:W*(n+1)=W*n+W:=by rw[zI];omega
  have m2:W*(i+1)=W+W*i:=by rw[zI];omega
  have m3:W*(i+1+1)=W+W*(i+1):=by rw[zI W (i+1)];omega
  have m4:W*i≤W*n:=zH W (by omega);simp only[rowsOf,List.set_cons_succ];rw[nQ W n _ vals i (by omega) (by simp;omega) hv]
  have e1:(us.take (W*(i+1))++vals++us.drop (W*(i+1+1))).take W=us.take W:=by
   rw[yZ,xQ (by simp;omega),zK,yT (by omega)]
  have e2:(us.take (W*(i+1))++vals++us.drop (W*(i+1+1))).drop W=(us.drop W).take (W*i)++vals++(us.drop W).drop (W*(i+1)):=by
   rw[yZ,List.drop_append_of_le_length (by simp;omega),yI,xV,yZ,m3];congr 2;congr 1;omega
  rw[e1,e2]
theorem AHH {m:Mem}:∀ (vs:List Value),(∀ v∈vs,v.oneCell'=true)→ICells m (vs.map IV.lit) vs
 | [],_=>.nil
 | v::vs,h=>.cons (.lit v) (h v (by simp)) (AHH vs fun u hu=>h u (by simp[hu]))
theorem AHM {m:Mem}:∀ {vs xs:List Value},ICells m (vs.map IV.lit) xs→xs=vs
 | [],_,h=>by cases h;rfl
 | v::vs,_,h=>by
  simp only[yR]at h
  cases h with
  | cons a o r=>cases a;rw[AHM r]
structure Fr (w w':World) (S:List Nat):Prop where
 size:w.heap.size≤w'.heap.size
 os:w'.os=w.os
 tape:Tp w w'
 output:w'.output=w.output
 same:∀ f,f<w.heap.size→f ∉ S→w'.heap[f]?=w.heap[f]?
theorem Fr.refl (w:World) (S:List Nat):Fr w w S:=⟨Nat.le_refl _,rfl, .refl _,rfl,fun _ _ _=>rfl⟩
theorem Fr.trans {w1 w2 w3:World} {S:List Nat} (a:Fr w1 w2 S) (b:Fr w2 w3 S):Fr w1 w3 S :=
 ⟨Nat.le_trans a.size b.size,b.os.trans a.os,b.tape.trans a.tape,b.output.trans a.output,fun f h1 h2=>(b.same f (zJ h1 a.size) h2).trans (a.same f h1 h2)⟩
theorem Fr.sub {w w':World} {S T:List Nat} (a:Fr w w' S) (h:∀ f∈S,f∈T):Fr w w' T :=
 ⟨a.size,a.os,a.tape,a.output,fun f h1 h2=>a.same f h1 fun h3=>h2 (h f h3)⟩
section
variable {C:Ctx} {nt:Nat}
theorem nD (hS:SoundOk C) {w0:World} {m0:Mem} {φ0:Pl} {G:List Nat} {na:Nat} (h0:∀ id,φ0 id≠none→id<na) {c:Code} {S S':AS} {e:AExit} {a:Act} {w:World} (hc:codeOk nt c=true) (hx:dQ C G na c S=some (e,S')) (h:IZ [] w0 m0 φ0 nt na S a w) (hnr:bD c=true:=by rfl) :
 c.wp C.P (fun e' a' w'=>e'=kG e∧IZ [] w0 m0 φ0 nt na S' a' w') a w:=by
 obtain⟨n,hn⟩:=(dB _).1 hx;refine wpIn_wide.1 (wpIn_mono (bU (ρ:=none) hS.ctx (bP hS) (hS.draw _ (bP hS)) h0 n c S S' e [] a w hc (.inl rfl) hn h) ?_);rintro e' a' w' ⟨rfl,ds,k,kd⟩;have kd:=kd hnr;subst kd;exact⟨rfl,k⟩
end
theorem XB {C:Ctx} {nt:Nat} (hS:SoundOk C) {id base:Nat} {ops:Array Oper} {os1:List Oper} {o1 o2:Oper} {w0:World} {m0:Mem} {φ0:Pl} {env:Nat→AV} {st:Store} {R1:RS} {a:Act} {w:World} {Q:Exit→Act→World→Prop} (hops:ops.toList=os1++[o1,o2]) (hs:∀ o∈ops,jK nt o=true)
 (hx:d9 C (aI C) ops.toList false base os1 0 { env:=env,st:=st,log:=[] }=some R1) (h:ARel [] w0 m0 φ0 nt (fun id=>id<base) env st a w)
 (hfin:∀ a' w',ARel [] w0 m0 φ0 nt (fun _=>True) R1.env R1.st a' w'→wpOpIn (FR none) 0 C.P ops Q os1.length (wpOpIn (FR none) 0 C.P ops Q (os1.length+1) (fun a w=>Q .normal a w)) a' w'):(Code.region id ops false).wp C.P Q a w:=by
 refine wO ?_;have hsz:ops.size=os1.length+2:=by rw[← Array.length_toList,hops];simp
 have hget:∀ j,ops[j]?=(os1++[o1,o2])[j]?:=fun j=>by rw[← hops,xU]
 rw[zB1,hsz,show List.range' 0 (os1.length+2)=List.range' 0 os1.length++[os1.length,os1.length+1]by
  rw[← List.range'_append_1];simp[List.range'_succ]]
 refine iR (w0:=w0) (m0:=m0) (φ0:=φ0) hS.ctx (bP hS) hs os1 0 { env:=env,st:=st,log:=[] } R1 a w (fun j hj=>?_) hx ?_ fun a' w' h'=>?_
 ·rw[hget,zC,yY hj]
 ·obtain⟨⟨m,φ,k1,k2,k3,k4,k7⟩,k5,k6⟩:=h;exact⟨⟨m,φ,k1,k2,k3,fun id hne=>.inl (k4 id hne),k7⟩,k5,k6⟩
 ·obtain⟨⟨m,φ,k1,k2,k3,k4,k7⟩,k5,k6⟩:=h';have:=hfin a' w' ⟨⟨m,φ,k1,k2,k3,fun _ _=>trivial,k7⟩,k5,k6⟩;have hnil:wpOpsIn (FR none) 0 C.P ops Q []=fun a w=>Q .normal a w:=by funext a w;simp[wpOpsIn]
  have hone:wpOpsIn (FR none) 0 C.P ops Q [os1.length+1]=wpOpIn (FR none) 0 C.P ops Q (os1.length+1) (fun a w=>Q .normal a w):=by funext a w;rw[wpOpsIn_cons,hnil]
  rw[wpOpsIn_cons,hone];exact this
theorem VZ {P:Program} {ops:Array Oper} {Q:Exit→Act→World→Prop} {K:Act→World→Prop} {i d:Nat} {g:FuncId} {fn:Func} {args:Array Operand} {ts:Array TypeId} {ty:TypeId} {pos:String} {after:Array Edge} {a:Act} {w:World}
 (ho:ops[i]?=some ⟨some d, .call ⟨.value (.func g),args,ts⟩,ty,pos,after,none⟩) (g1:P.funcs[g]?=some fn) (g2:fn.name≠ "runtime.NumGoroutine") (g3:fn.body≠none)
 (hc:Calls P g (args.map a.eval) w fun e w'=>∃ y,e=.returned y∧K (a.put (some d) y) w'):wpOpIn (FR none) 0 P ops Q i K a w:=by
 unfold wpOpIn;rw[ho];simp only[Region.wanted,if_true];refine⟨fun _ _=>trivial,?_⟩;rw[Oper.semAt_eq _ _ _ (fun c e=>by cases e)]
 have hrun:(execOp a.eval ⟨some d, .call ⟨.value (.func g),args,ts⟩,ty,pos,after,none⟩).run P w=.ok (.enter g (args.map a.eval)) w:=by
  unfold execOp;have hev:a.eval (.func g)=.func (.func g) #[] #[]:=rfl
  simp[resolve,Deferred.ofValue,hev,invoke,callFunc,g1,g2,g3]
 rw[hrun];rw[Oper.uponIn_enter];refine⟨fun h=>(by cases h),TB (hc.mono ?_)⟩;rintro e w' ⟨y,rfl,k⟩;exact k
theorem QQ {P:Program} {ops:Array Oper} {Q:Exit→Act→World→Prop} {K:Act→World→Prop} {i d:Nat} {x:Operand} {ty:TypeId} {pos:String} {after:Array Edge} {a:Act} {w:World}
 (ho:ops[i]?=some ⟨some d, .assign x,ty,pos,after,none⟩) (hK:K (a.put (some d) (a.eval x)) w):wpOpIn (FR none) 0 P ops Q i K a w:=by
 unfold wpOpIn;rw[ho];simp only[Region.wanted,if_true];refine⟨fun _ _=>trivial,?_⟩;rw[Oper.semAt_eq _ _ _ (fun c e=>by cases e)]
 have hrun:(execOp a.eval ⟨some d, .assign x,ty,pos,after,none⟩).run P w=.ok (.value (a.eval x)) w:=by
  unfold execOp;simp
 rw[hrun];simpa [Oper.uponIn]using hK
theorem L6 {a:Act} {d:Nat} {x:Value} (hd:d<a.tmps.size) (t:Nat):(a.put (some d) x).tmps.getD t undef=if t=d then x else a.tmps.getD t undef:=by
 simp only[Act.put];by_cases e:t=d
 ·subst e;simp[Array.getD,hd]
 ·rw[if_neg e];simp only[yH];rw[zA2 (Ne.symm e)]
def P1 (b N:Nat):Pl:=fun id=>if id=0 then some (b,one b N)else none
theorem lU (b N:Nat):∀ id,P1 b N id≠none→id<1:=fun id h=>by
 by_cases e:id=0
 ·omega
 ·simp[P1,e]at h
structure MG (W nt b N n:Nat) (us:List Value) (q:Int) (j5:AV) (a:Act) (w:World):Prop where
 row:rowOf w b us
 len:us.length=N
 fit:W*n≤N
 pos:0<n
 wpos:0<W
 t0:∃ cap,n≤cap∧W*cap≤N∧a.tmps.getD 0 undef=.slice (some ⟨b,0,none⟩) n cap
 t1:a.tmps.getD 1 undef=.int .i64 q
 t5:Rep (fun _ _=>none) (fun _=>none) j5 (a.tmps.getD 5 undef)
 size:nt≤a.tmps.size
 defers:a.defers=[]
def MS (W n:Nat) (R:List (List IV)) (q:Int) (j4 j5 j9:AV):AS :=
 { env:=[(0, .osl 0 W 0 n),(1, .int q),(4,j4),(5,j5),(9,j9)],st:=[some (.arr W R)] }
theorem MG.to {W nt b N n:Nat} {us:List Value} {q:Int} {j5:AV} {a:Act} {w:World} (h:MG W nt b N n us q j5 a w):IZ [] w (fun _ _=>none) (P1 b N) nt 1 (MS W n (rowsOf W n us) q .junk j5 .junk) a w:=by
 obtain⟨T,hrow,hone⟩:=h.row;refine⟨⟨⟨fun _ _=>none,P1 b N,⟨fun _ _ _ e=>(by cases e),?_,?_,?_⟩,?_, .refl _ _ _,lU b N,Marks.nil _ _ _⟩,h.size,h.defers⟩,zN _⟩
 ·intro id blk e
  cases id with
  | zero =>
   simp[MS,bF]at e;subst e;refine⟨b,Go.Av.one b N,rfl,⟨rfl,fun f hf=>?_⟩, .arr (T:=T) hrow h.len h.wpos (BM W n us (by have:=h.len;have:=h.fit;omega)) ?_ (by rw[eT];exact h.fit) (fun _=>rfl) (fun _ hf=>hf) hone⟩
   ·have hf:f=b:=hf;subst hf;exact(zD.1 hrow).1
   ·rw[mW,eT];exact AHH _ fun v hv=>hone v (zG hv)
  | succ id=>simp[MS,bF]at e
 ·intro i j b b' n n' b1 b2 f h1 h2 _ _ _ _
  cases i with
  | succ i=>simp[MS,bF]at h1
  | zero=>cases j with
   | zero=>rfl
   | succ j=>simp[MS,bF]at h2
 ·intro id b' n' f e ho;by_cases hid:id=0
  ·subst hid;simp only[P1,if_true]at e;injection e with e;injection e with e1 e2;subst e1;subst e2;have ho:f=b:=ho;subst ho;exact(zD.1 hrow).1
  ·simp[P1,hid]at e
 ·intro t;simp only[MS,aZ];by_cases h0:t=0
  ·subst h0;obtain⟨cap,c1,c2,c3⟩:=h.t0;rw[c3];exact .osl (n:=Go.Av.one b N) rfl c1 (by simp;exact c2) (fun _=>by simp) (fun h=>by cases h)
  by_cases h1:t=1
  ·subst h1;rw[h.t1];exact .i (.lit _)
  by_cases h5:t=5
  ·subst h5;exact h.t5.mono (.refl _) (fun _ _ _ e=>by cases e)
  simp[h0,h1,h5];exact .junk _
theorem MG.of {W nt b N n:Nat} {us vs:List Value} {q q' i':Int} {j5:AV} {a a':Act} {w w0 w':World} (h:MG W nt b N n us q j5 a w) {env:Nat→AV} {st:Store} {ok:Nat→Prop} (hS:ARel [] w0 (fun _ _=>none) (P1 b N) nt ok env st a' w') (h0:env 0=.osl 0 W 0 n) (h1:env 1=.int q') (h5:env 5=.int i') (hst:st 0=some (.arr W (rowsOf W n vs))) :
 ∃ us',MG W nt b N n us' q' (.int i') a' w'∧us'.take (W*n)=vs.take (W*n)∧Fr w0 w' [b]:=by
 obtain⟨⟨m,φ,hi,henv,hadv,hok,_⟩,hsz,hdf⟩:=hS;obtain⟨n',e0,el,eo⟩:=hadv.ple 0 b (Go.Av.one b N) rfl;obtain⟨_,hok2⟩:=dF hi e0 hst;have t0:=henv 0;rw[h0]at t0;have t1:=henv 1;rw[h1]at t1;have t5:=henv 5;rw[h5]at t5;have hpos:=h.pos
 have fr:Fr w0 w' [b]:=by
  refine⟨hadv.size,hadv.os,hadv.tape,hadv.output,fun f hf hne=>hadv.block f hf ?_⟩;intro id r x e ho;by_cases hid:id=0
  ·subst hid;simp only[P1,if_true]at e;injection e with e;injection e with e1 e2;subst e2;have ho:f=b:=ho;exact hne (by simp[ho])
  ·simp[P1,hid]at e
 cases hok2 with
 | @arr T k es xs hh hl hk hw hc hfit hm hown hone =>
  rw[mW,eT]at hc;have hx:=AHM hc;rw[eT]at hfit;refine⟨xs,⟨⟨T,hh,hone⟩,by rw[hl,el];rfl,h.fit,hpos,h.wpos,?_,?_,?_,hsz,hdf⟩,hx,fr⟩
  ·generalize a'.tmps.getD 0 undef=x0 at t0
   cases t0 with
   | @osl _ _ _ _ cap b2 n2 ao e2 c1 c2 c3 c4 =>
    rw[e0]at e2;injection e2 with e2;injection e2 with e3 e4;subst e3;subst e4
    rw[c3 (by omega)];exact⟨cap,c1,by rw[el]at c2;simpa using c2,by simp⟩
  ·generalize a'.tmps.getD 1 undef=x1 at t1
   cases t1 with|i r=>cases r;rfl
  ·generalize a'.tmps.getD 5 undef=x5 at t5
   cases t5 with|i r=>cases r;exact .i (.lit _)
theorem tlt {w:World}:∀ {cs:List IV} {vs:List Value} {F:List Nat},TCells w cs vs F→∀ f∈F,f<w.heap.size
 | _,_,_, .nil=>by simp
 | _,_,_, .lit _ r=>(tlt r)
 | _,_,_, .isl0 _ r=>(tlt r)
 | _,_,_, .isl _ ⟨T,hr,_⟩ _ _ _ _ g r=>by
  intro f hf;simp only[yL,zR,zU]at hf
  rcases hf with rfl|hf|hf
  ·exact(zD.1 hr).1
  ·exact tlt g f hf
  ·exact tlt r f hf
section
variable {X:Type} (cells:X→List IV) (mk:Int→X→X) (sz:X→Nat)
def dU:Int→List X→List X
 | _,[]=>[]
 | k,x::l=>mk k x::dU (k+sz x) l
def bL:List X→Nat
 | []=>0
 | x::l=>sz x+bL l
theorem eB:∀ (l:List X) (k:Int),(dU mk sz k l).length=l.length
 | [],_=>rfl
 | x::l,k=>by simp[dU,eB l]
theorem vU:∀ (l:List X) (k:Int) {i:Nat} {x:X},l[i]?=some x→(dU mk sz k l)[i]?=some (mk (k+(bL sz (l.take i):Nat)) x)
 | [],_,i,x,h=>by simp at h
 | y::l,k,0,x,h=>by simp at h;subst h;simp[dU,bL]
 | y::l,k,i+1,x,h=>by
  have:=vU l (k+sz y) (i:=i) (x:=x) (by simpa using h);simp only[dU,zA3,yP,bL];rw[this];congr 2;push_cast;omega
theorem tK:∀ (l:List X) {i:Nat} {x:X},l[i]?=some x→bL sz (l.take (i+1))=bL sz (l.take i)+sz x
 | [],i,x,h=>by simp at h
 | y::l,0,x,h=>by simp at h;subst h;simp[bL]
 | y::l,i+1,x,h=>by have:=tK l (i:=i) (x:=x) (by simpa using h);simp only[yP,bL]at this ⊢;omega
theorem wT:∀ (l:List X) (i:Nat),bL sz (l.take i)≤bL sz l
 | [],i=>by simp[bL]
 | x::l,0=>by simp[bL]
 | x::l,i+1=>by have:=wT l i;simp only[yP,bL];omega
def AD8 (k:Int) (l:List X) (i:Nat):List X:=(dU mk sz k l).take i++l.drop i
theorem AAX (k:Int) (l:List X):AD8 mk sz k l 0=l:=by simp[AD8]
theorem AF3 (k:Int) (l:List X):AD8 mk sz k l l.length=dU mk sz k l:=by
 unfold AD8;rw[zZ (by rw[eB];omega)];simp
theorem XG {k:Int} {l:List X} {i:Nat} {x:X} (h:l[i]?=some x):AD8 mk sz k l i=(dU mk sz k l).take i++(x::l.drop (i+1)):=by
 have hi:=(zY.1 h).1;unfold AD8;rw[xH hi];have:l[i]=x:=by have:=zX hi;rw[h]at this;injection this with this;exact this.symm
 rw[this]
theorem AAY {k:Int} {l:List X} {i:Nat} {x:X} (h:l[i]?=some x):AD8 mk sz k l (i+1)=(dU mk sz k l).take i++(mk (k+(bL sz (l.take i):Nat)) x::l.drop (i+1)):=by
 unfold AD8;rw[aJ (vU mk sz l k h)];simp
theorem GL {W:Nat} (hW:∀ x,(cells x).length=W):∀ l:List X,(l.map cells).flatten.length=W*l.length
 | []=>by simp
 | x::l=>by simp only[yR,zA,zQ,GL hW l,hW,zM,zI];omega
end
structure MLoop (C:Ctx) (g:FuncId) (W nt:Nat) (G:List Nat) (fn:Func) (c0 c1 cc body c3 cend:Code):Prop where
 func:C.P.funcs[g]?=some fn
 code:fn.body=some (c0.seq ((c1.seq (.block 0 (.loop (cc.seq ((Code.block 1 body).seq c3))))).seq cend))
 ntmps:fn.ntmps=nt
 big:6≤nt
 results:fn.results.toList=[ResultVar.tmp 4]
 ok0:codeOk nt c0=true∧bD c0=true
 ok1:codeOk nt c1=true∧bD c1=true
 okc:codeOk nt cc=true∧bD cc=true
 ok3:codeOk nt c3=true∧bD c3=true
 oke:codeOk nt cend=true∧bD cend=true
 x0:∀ n R q,dQ C G 1 c0 (MS W n R q .junk .junk .junk)=some (.normal,MS W n R q (.int 0) .junk .junk)
 x1:∀ n R q,dQ C G 1 c1 (MS W n R q (.int 0) .junk .junk)=some (.normal,MS W n R q (.int 0) (.int 0) .junk)
 xc:∀ (n i:Nat) R q,i<n→dQ C G 1 cc (MS W n R q .junk (.int i) .junk)=some (.normal,MS W n R q .junk (.int i) (.bool true))
 xo:∀ (n:Nat) R q,dQ C G 1 cc (MS W n R q .junk (.int n) .junk)=some (.exit 0,MS W n R q .junk (.int n) (.bool false))
 x3:∀ (n i:Nat) R q,i<1000000000000→dQ C G 1 c3 (MS W n R q .junk (.int i) .junk)=some (.normal,MS W n R q .junk (.int (i+1)) .junk)
 xe:∀ (n:Nat) R q,dQ C G 1 cend (MS W n R q .junk (.int n) (.bool false))=some (.ret,MS W n R q (.int q) (.int n) (.bool false))
 xf:∀ (n:Nat) R (q:Int),finish C false [ResultVar.tmp 4] 1 (MS W n R q (.int q) (.int n) (.bool false))=some (.int q,[some (.arr W R)])
 nil:∀ k:Int,aI C g [.i (.isl []), .int k] []=some (.int k,[])
def QK (C:Ctx) {X:Type} (cells:X→List IV) (mk:Int→X→X) (sz:X→Nat) (W nt:Nat) (body:Code) (x:X):Prop :=
 ∀ (b N n i:Nat) (us vs:List Value) (q:Int) (F:List Nat) (a:Act) (w:World),i<n→MG W nt b N n us q (.int i) a w→(us.drop (W*i)).take W=vs→TCells w (cells x) vs F→F.Nodup→b ∉ F→0≤q→q+sz x<1000000000000 →
   body.wp C.P (fun e a' w'=>e=.normal∧∃ us' vs',MG W nt b N n us' (q+sz x) (.int i) a' w'∧us'.take (W*n)=us.take (W*i)++vs'++(us.take (W*n)).drop (W*(i+1))∧TCells w' (cells (mk q x)) vs' F∧Fr w w' (b::F)) a w
def AGM {X:Type} (cells:X→List IV) (mk:Int→X→X) (sz:X→Nat) (w:World) (v:Value) (F:List Nat) (k:Int) (l:List X) (en:Ending) (w':World):Prop :=
 en=.returned (.int .i64 (k+(bL sz l:Nat)))∧Fr w w' F∧TCells w' [.isl ((dU mk sz k l).map cells)] [v] F∧∀ b0 cap us0,v=.slice (some ⟨b0,0,none⟩) l.length cap→l≠[]→rowOf w b0 us0→∃ us1,rowOf w' b0 us1∧us1.length=us0.length
theorem LK {C:Ctx} (hS:SoundOk C) {X:Type} {cells:X→List IV} {mk:Int→X→X} {sz:X→Nat} {g:FuncId} {W nt:Nat} {G:List Nat} {fn:Func} {c0 c1 cc body c3 cend:Code} (hg:g≠nI) (L:MLoop C g W nt G fn c0 c1 cc body c3 cend) (hW:∀ x,(cells x).length=W) (hW0:0<W)
 {l:List X} (hR:∀ x∈l,QK C cells mk sz W nt body x) {w:World} {v:Value} {F:List Nat} {k:Int} (hT:TCells w [.isl (l.map cells)] [v] F) (hnd:F.Nodup) (hk0:0≤k) (hk1:k+(bL sz l:Nat)<1000000000000) (hl12:l.length<1000000000000) :
 Calls C.P g #[v, .int .i64 k] w (AGM cells mk sz w v F k l):=by
 generalize hces:l.map cells=ces at hT
 cases hT with
 | @isl0 ao cap _ _ F1 hc hr =>
  cases hr
  have hl:l=[]:=by simpa using hces
  subst hl;refine((bP hS).calls _ _ _ _ _ hg (L.nil k) w (gU w) (fun _=>none) [.slice ao 0 cap, .int .i64 k] (inv0 w) (.cons (.i (.isl0 ao cap hc)) (.cons (.i (.lit _)) .nil)) (fun id h=>absurd rfl h)).mono ?_;rintro en w' ⟨y,m',φ',rfl,j1,j2,j3,j4⟩;have hy:y=.int .i64 k:=by cases j1 with|i r=>cases r;rfl
  subst hy;refine⟨by simp[bL],⟨j3.size,j3.os,j3.tape,j3.output,fun f hf _=>j3.block f hf fun id b n e=>by cases e⟩,?_,fun _ _ _ _ h _=>absurd rfl h⟩;simp only[dU,zB0];exact .isl0 hc .nil
 | @isl b kk cap _ us G1 _ _ F1 hne hrow hkk hw hf hcp hg1 hr =>
  cases hr
  subst hces;have hlne:l≠[]:=fun h=>by subst h;exact hne rfl
  obtain rfl:kk=W:=by
   cases l with
   | nil=>exact absurd rfl hlne
   | cons x l=>rw[← hw (cells x) (by simp),hW]
  simp only[yB]at hnd ⊢;have hbG:=(z8.1 hnd).1;have hGn:=(z8.1 hnd).2;rw[zA6]at hcp hg1 ⊢;generalize hn:l.length=n at hcp hg1 ⊢;have hnpos:0<n:=by rw[← hn];exact zA1.2 hlne
  generalize hN:us.length=N at hf;have hfitN:kk*n≤N:=yE (zH kk hcp) hf;refine calls_of_wp (fn:=fn) L.func L.code ?_
  have g0:MG kk nt b N n us k .junk { tmps:=#[Value.slice (some ⟨b,0,none⟩) n cap, .int .i64 k]++Array.replicate (nt-2) undef,defers:=[] } w :=
   ⟨hrow,hN,hfitN,hnpos,hW0,⟨cap,hcp,hf,by simp[Array.getElem?_append]⟩,by simp[Array.getElem?_append], .junk _,by simp;have:=L.big;omega,rfl⟩
  have r0:=g0.to;refine wp_seq (wp_mono (nD hS (lU b N) (G:=G) (nt:=nt) L.ok0.1 (L.x0 n (rowsOf kk n us) k) (by rw[L.ntmps];exact r0) L.ok0.2) ?_);rintro _ x1 y1 ⟨rfl,r1⟩;refine wp_seq (wp_seq (wp_mono (nD hS (lU b N) (G:=G) (nt:=nt) L.ok1.1 (L.x1 n (rowsOf kk n us) k) r1 L.ok1.2) ?_));rintro _ x2 y2 ⟨rfl,r2⟩;obtain⟨us2,g2,e2,f2⟩:=g0.of (q':=k) (i':=0) r2.1 rfl rfl rfl rfl;clear r0 r1 r2;refine wp_block ?_
  refine ED (fun m a w'=>∃ i us',m=n-i∧i≤n∧MG kk nt b N n us' (k+(bL sz (l.take i):Nat)) (.int i) a w'∧Fr w w' (b::G1)∧TCells w' ((AD8 mk sz k l i).map cells).flatten (us'.take (kk*n)) G1) ?_ (n:=n) ⟨0,us2,by omega,by omega,by simpa [bL]using g2,f2.sub (by simp),by
   rw[AAX,e2];refine hg1.mono fun f hf'=>?_
   have hlt:f<w.heap.size:=tlt hg1 f hf'
   exact f2.same f hlt (by simp;intro h;subst h;exact hbG hf')⟩
  rintro m a w' ⟨i,us',rfl,hin',g,fr,ht⟩;have rr:=g.to
  have keepG:∀ {w1 w2:World} {cs:List IV} {vs:List Value} {F:List Nat},(∀ f∈F,f∈G1)→Fr w1 w2 [b]→TCells w1 cs vs F→TCells w2 cs vs F:=by
   intro w1 w2 cs vs F hF hfr h;refine h.mono fun f hf'=>hfr.same f (tlt h f hf') ?_
   simp;intro e;subst e;exact hbG (hF f hf')
  by_cases hi:i=n
  ·subst hi;have hTl:l.take i=l:=zZ (by omega);rw[hTl]at g rr;generalize hq:k+(bL sz l:Nat)=q at g rr;refine wp_seq (wp_mono (nD hS (lU b N) (G:=G) (nt:=nt) L.okc.1 (L.xo i (rowsOf kk i us') q) rr L.okc.2) ?_);rintro _ x3 y3 ⟨rfl,r3⟩;simp only[kG,Exit.then,Exit.inBlock,if_true];refine wp_mono (nD hS (lU b N) (G:=G) (nt:=nt) L.oke.1 (L.xe i (rowsOf kk i us') q) r3 L.oke.2) ?_;rintro _ x4 y4 ⟨rfl,r4⟩;obtain⟨v4,k1,k2⟩:=mP (C:=C) (fn:=fn) (keep:=false) (na:=1) (lU b N) r4 (by rw[L.results];exact L.xf i (rowsOf kk i us') q);obtain⟨us4,g4,e4,f4⟩:=g.of (q':=q) (i':=i) r4.1 rfl rfl rfl rfl;obtain⟨y,m',φ',hy,j1,_⟩:=k2;injection hy with hy;subst hy;have hv4:v4=.int .i64 q:=by cases j1 with|i r=>cases r;rfl
   subst hv4;refine⟨g4.defers,_,k1,by rw[hq],fr.trans (f4.sub (by simp)),?_⟩;have hml:=eB mk sz l k;have hcl:((dU mk sz k l).map cells).length=i:=by rw[zA6,hml,hn]
   have hne':(dU mk sz k l).map cells≠[]:=fun h=>by rw[h]at hcl;simp at hcl;omega
   have:=TCells.isl (w:=y4) (b:=b) (k:=kk) (cap:=cap) (es:=(dU mk sz k l).map cells) (us:=us4) (G:=G1) (cs:=[]) (vs:=[]) (F:=[]) hne' g4.row hkk ?_ (by rw[g4.len];exact hf) (by omega) ?_ .nil
   ·refine⟨by rw[hcl]at this;simpa using this,?_⟩;rintro b0 cap0 us0 hv0 _ ⟨T0,hr0,_⟩;injection hv0 with hv0;injection hv0 with hv0;injection hv0 with hv0;subst hv0;obtain⟨T,hrow',_⟩:=hrow;rw[hrow']at hr0;injection hr0 with hr0;injection hr0 with hr0;have:us=us0:=by simpa using congrArg Array.toList hr0
    subst this;exact⟨us4,g4.row,by rw[g4.len,hN]⟩
   ·intro e he;obtain⟨x,_,rfl⟩:=yD.1 he;exact hW x
   ·rw[hcl,e4];rw[show AD8 mk sz k l i=dU mk sz k l by rw[← hn];exact AF3 mk sz k l]at ht;exact keepG (fun f h=>h) f4 ht
  ·have hin:i<n:=by omega
   have h3:=zX (l:=l) (i:=i) (by omega);have hm3:=zV h3;generalize l[i]'(by omega)=x at h3 hm3;have hml:=eB mk sz l k;rw[XG mk sz h3,xW,zA0]at ht;simp only[yR,zA]at ht;have hA:(((dU mk sz k l).take i).map cells).flatten.length=kk*i:=by rw[GL cells hW];simp;rw[yT (by omega)]
   have hB:(cells x).length=kk:=hW x;obtain⟨Ga,Gr,hG1,t1,t23⟩:=ht.split (kk*i);rw[zC9 hA]at t1;rw[xM hA]at t23;obtain⟨Gx,Gb,hG2,t2,t3⟩:=t23.split kk;rw[zC9 hB]at t2;rw[xM hB]at t3;have hlen':=g.len;have hfit':=g.fit;have hstep:kk*(i+1)=kk*i+kk:=by rw[zI];omega
   have hle1:kk*(i+1)≤kk*n:=zH kk (by omega)
   have hrowi:(us'.drop (kk*i)).take kk=((us'.take (kk*n)).drop (kk*i)).take kk:=by
    rw[yI,zK,yT (by omega)]
   have hzs:=tK sz l h3;have hmono:=wT sz l (i+1);generalize hq:k+((bL sz (l.take i):Nat):Int)=q at g rr;refine wp_seq (wp_mono (nD hS (lU b N) (G:=G) (nt:=nt) L.okc.1 (L.xc n i (rowsOf kk n us') q hin) rr L.okc.2) ?_);rintro _ x0 y0 ⟨rfl,r0⟩;obtain⟨us0,g0,e0,f0⟩:=g.of (q':=q) (i':=i) r0.1 rfl rfl rfl rfl;have sx:∀ f∈Gx,f∈G1:=fun f hf'=>by rw[hG1,hG2];simp[hf']
   have sa:∀ f∈Ga,f∈G1:=fun f hf'=>by rw[hG1];simp[hf']
   have sb:∀ f∈Gb,f∈G1:=fun f hf'=>by rw[hG1,hG2];simp[hf']
   have hn2:(Ga++(Gx++Gb)).Nodup:=by rw[← hG2,← hG1];exact hGn
   have nd1:=yU.1 hn2;have nd2:=yU.1 nd1.2.1
   have hrow0:(us0.drop (kk*i)).take kk=((us'.take (kk*n)).drop (kk*i)).take kk:=by
    rw[← e0,yI,zK,yT (by omega)]
   simp only[kG,Exit.then,Exit.inBlock];refine wp_seq ?_;refine wp_block ?_;refine wp_mono (hR x hm3 b N n i us0 _ q Gx x0 y0 hin g0 hrow0 (keepG sx f0 t2) nd2.1 (fun h=>hbG (sx b h)) (by omega) (by omega)) ?_;rintro _ x5 y5 ⟨rfl,us5,vs5,g5,e5,t5,f5⟩;simp only[Exit.then,Exit.inBlock];have r5:=g5.to;refine wp_mono (nD hS (lU b N) (G:=G) (nt:=nt) L.ok3.1 (L.x3 n i (rowsOf kk n us5) (q+sz x) (by omega)) r5 L.ok3.2) ?_;rintro _ x6 y6 ⟨rfl,r6⟩;obtain⟨us6,g6,e6,f6⟩:=g5.of (q':=q+sz x) (i':=i+1) r6.1 rfl rfl rfl rfl;simp only[kG,Exit.then,Exit.inBlock];have hnx:k+((bL sz (l.take (i+1)):Nat):Int)=q+sz x:=by rw[hzs];push_cast;omega
   refine⟨n-(i+1),by omega,i+1,us6,rfl,by omega,?_,?_,?_⟩
   ·rw[hnx];exact g6
   ·exact((fr.trans (f0.sub (by simp))).trans (f5.sub fun f hf'=>by
     rcases zR.1 hf' with rfl|hf'
     ·simp
     ·simp[sx f hf'])).trans (f6.sub (by simp))
   ·rw[AAY mk sz h3,xW,zA0,hq];simp only[yR,zA]
    have hvs:us6.take (kk*n)=(us'.take (kk*n)).take (kk*i)++(vs5++((us'.take (kk*n)).drop (kk*i)).drop kk):=by
     rw[e6,e5,e0,yZ,xV,← hstep,zK,yT (by omega)];congr 1;have:=congrArg (List.take (kk*i)) e0;rw[zK,zK,yT (by omega)]at this;exact this
    rw[hvs]
    have bx:∀ f∈Ga++Gb,f ∉ Gx:=fun f hf' hx=>by
     rcases zU.1 hf' with h|h
     ·exact nd1.2.2 f h f (by simp[hx]) rfl
     ·exact nd2.2.2 f hx f h rfl
    have m1:TCells y6 (((dU mk sz k l).take i).map cells).flatten ((us'.take (kk*n)).take (kk*i)) Ga:=by
     have h1:=keepG sa f0 t1
     have h2:=h1.mono (w':=y5) fun f hf'=>f5.same f (tlt h1 f hf') fun hh=>by
      rcases zR.1 hh with rfl|hh
      ·exact hbG (sa _ hf')
      ·exact bx f (by simp[hf']) hh
     exact keepG sa f6 h2
    have m3:TCells y6 ((l.drop (i+1)).map cells).flatten (((us'.take (kk*n)).drop (kk*i)).drop kk) Gb:=by
     have h1:=keepG sb f0 t3
     have h2:=h1.mono (w':=y5) fun f hf'=>f5.same f (tlt h1 f hf') fun hh=>by
      rcases zR.1 hh with rfl|hh
      ·exact hbG (sb _ hf')
      ·exact bx f (by simp[hf']) hh
     exact keepG sb f6 h2
    rw[hG1,hG2];exact m1.append ((keepG sx f6 t5).append m3)
theorem wE {C:Ctx} (hS:SoundOk C) {W nt b N n i:Nat} {us:List Value} {q:Int} {a:Act} {w:World} (g:MG W nt b N n us q (.int i) a w) {id base:Nat} {ops:Array Oper} {os1:List Oper} {R1:RS} {ts tk td:Nat} {h:FuncId} {fn:Func} {tys:Array TypeId} {ty ty':TypeId} {pos pos':String} {after after':Array Edge} {u:Value} {s:Nat} {Fu:List Nat} {K:World→World→Prop}
 (hops:ops.toList=os1++[⟨some td, .call ⟨.value (.func h),#[.tmp ts, .tmp tk],tys⟩,ty,pos,after,none⟩,⟨some 1, .assign (.tmp td),ty',pos',after',none⟩]) (hs:ops.all (jK nt)=true) (hb:1≤base)
 (hx:d9 C (aI C) ops.toList false base os1 0 ⟨aZ (MS W n (rowsOf W n us) q .junk (.int i) .junk).env,bF (MS W n (rowsOf W n us) q .junk (.int i) .junk).st,[]⟩=some R1)
 (e0:R1.env 0=.osl 0 W 0 n) (e1:R1.env 1=.int q) (e5:R1.env 5=.int i) (es:R1.env ts=.i (.lit u)) (ek:R1.env tk=.int q) (est:R1.st 0=some (.arr W (rowsOf W n us)))
 (d0:td≠0) (d1:td≠1) (d5:td≠5) (dn:td<nt) (d2:6≤nt)
 (g1:C.P.funcs[h]?=some fn) (g2:fn.name≠ "runtime.NumGoroutine") (g3:fn.body≠none)
 (hc:∀ w1,Fr w w1 [b]→Calls C.P h #[u, .int .i64 q] w1 (fun en w2=>en=.returned (.int .i64 (q+s))∧Fr w1 w2 Fu∧K w1 w2)) (hbF:b ∉ Fu) :
 (Code.region id ops false).wp C.P (fun e a' w'=>e=.normal∧∃ us',MG W nt b N n us' (q+s) (.int i) a' w'∧us'.take (W*n)=us.take (W*n)∧∃ w1,Fr w w1 [b]∧Fr w1 w' Fu∧K w1 w') a w:=by
 have r8:=g.to
 have hlen:∀ {C:Prop},ops.toList.length=os1.length+2→(ops.toList[os1.length]?=some ⟨some td, .call ⟨.value (.func h),#[.tmp ts, .tmp tk],tys⟩,ty,pos,after,none⟩→ops.toList[os1.length+1]?=some ⟨some 1, .assign (.tmp td),ty',pos',after',none⟩→C)→C:=by
  intro C _ k;refine k ?_ ?_<;>rw[hops]<;>simp
 refine XB hS hops (fun o ho=>yF.1 hs o ho) hx ⟨⟨r8.1.out.choose,r8.1.out.choose_spec.choose,r8.1.out.choose_spec.choose_spec.1,r8.1.out.choose_spec.choose_spec.2.1,r8.1.out.choose_spec.choose_spec.2.2.1,fun id hne=>zJ (by simpa [MS]using r8.1.out.choose_spec.choose_spec.2.2.2.1 id hne) hb,r8.1.out.choose_spec.choose_spec.2.2.2.2⟩,r8.1.size,r8.1.defers⟩ ?_;intro x9 y9 r9;refine hlen (by rw[hops];simp) fun ho1 ho2=>?_
 rw[xU]at ho1 ho2
 have v48:x9.tmps.getD ts undef=u:=by
  obtain⟨⟨m,φ,_,henv,_⟩,_⟩:=r9;have h48:=henv ts;rw[es]at h48;exact h48.bW
 have v49:x9.tmps.getD tk undef=.int .i64 q:=by
  obtain⟨⟨m,φ,_,henv,_⟩,_⟩:=r9;have h49:=henv tk;rw[ek]at h49;exact h49.bW
 obtain⟨us9,g9,e9,f9⟩:=g.of (q':=q) (i':=i) r9 e0 e1 e5 est;refine VZ (fn:=fn) (g:=h) ho1 g1 g2 g3 ?_
 have hargs:(#[Operand.tmp ts,Operand.tmp tk].map x9.eval)=#[u, .int .i64 q]:=by
  have e1:(#[Operand.tmp ts,Operand.tmp tk].map x9.eval)=#[x9.eval (.tmp ts),x9.eval (.tmp tk)]:=by simp
  rw[e1];show #[x9.tmps.getD ts undef,x9.tmps.getD tk undef]=_
  rw[v48,v49]
 rw[hargs];refine(hc y9 f9).mono ?_;rintro en y10 ⟨rfl,f10,hK⟩;refine⟨_,rfl,?_⟩;refine QQ ho2 ?_;have hs9:nt≤x9.tmps.size:=g9.size
 have hev:(x9.put (some td) (.int .i64 (q+s))).eval (.tmp td)=.int .i64 (q+s):=by
  show(x9.put (some td) _).tmps.getD td undef=_;rw[L6 (by omega),if_pos rfl]
 rw[hev];generalize hx11:((x9.put (some td) (.int .i64 (q+s))).put (some 1) (.int .i64 (q+s)))=x11;have hsz10:nt≤(x9.put (some td) (.int .i64 (q+s))).tmps.size:=by rw[rM];exact hs9
 have get11:∀ t,t≠1→t≠td→x11.tmps.getD t undef=x9.tmps.getD t undef:=fun t h1 h2=>by
  rw[← hx11,L6 (by omega),if_neg h1,L6 (by omega),if_neg h2]
 have hbs:b<y9.heap.size:=by obtain⟨T,hh,_⟩:=g9.row;exact(zD.1 hh).1
 refine⟨rfl,us9,⟨?_,g9.len,g9.fit,g9.pos,g9.wpos,?_,?_,?_,?_,?_⟩,e9,y9,f9,f10,hK⟩
 ·obtain⟨T,hh,ho⟩:=g9.row;exact⟨T,(f10.same b hbs hbF).trans hh,ho⟩
 ·rw[get11 0 (by omega) (Ne.symm d0)];exact g9.t0
 ·rw[← hx11,L6 (by omega),if_pos rfl]
 ·rw[get11 5 (by omega) (Ne.symm d5)];exact g9.t5
 ·rw[← hx11,rM,rM];exact hs9
 ·rw[← hx11,lJ,lJ];exact g9.defers
theorem AFS {C:Ctx} (hS:SoundOk C) {W nt b N n i:Nat} {us us2:List Value} {q q':Int} {a:Act} {w:World} {G:List Nat} {c:Code} {R R':List (List IV)} {j9:AV} (g:MG W nt b N n us q (.int i) a w) (hR:rowsOf W n us=R) (hc:codeOk nt c=true) (hn:bD c=true)
 (hx:dQ C G 1 c (MS W n R q .junk (.int i) .junk)=some (.normal,MS W n R' q' .junk (.int i) j9)) (hR':R'=rowsOf W n us2) :
 c.wp C.P (fun e a' w'=>e=.normal∧∃ us',MG W nt b N n us' q' (.int i) a' w'∧us'.take (W*n)=us2.take (W*n)∧Fr w w' [b]) a w:=by
 subst hR hR';refine wp_mono (nD hS (lU b N) (G:=G) (nt:=nt) hc hx g.to hn) ?_;rintro _ x3 y3 ⟨rfl,r3⟩;obtain⟨us',g',e',f'⟩:=g.of (q':=q') (i':=i) r3.1 rfl rfl rfl rfl;exact⟨rfl,us',g',e',f'⟩
section
variable {X:Type} {cells:X→List IV} {mk:Int→X→X} {sz:X→Nat} {W:Nat}
theorem qD (h:∀ x,1≤sz x):∀ l:List X,l.length≤bL sz l
 | []=>by simp
 | x::l=>by have:=qD h l;have:=h x;simp only[zM,bL];omega
def rD (C:Ctx) {X:Type} (cells:X→List IV) (mk:Int→X→X) (sz:X→Nat) (g:FuncId):Prop :=
 ∀ (l:List X) (w:World) (v:Value) (F:List Nat) (k:Int),TCells w [.isl (l.map cells)] [v] F→F.Nodup→0≤k→k+(bL sz l:Nat)<1000000000000→Calls C.P g #[v, .int .i64 k] w (AGM cells mk sz w v F k l)
theorem rD.of {C:Ctx} (hS:SoundOk C) {g:FuncId} {nt:Nat} {G:List Nat} {fn:Func} {c0 c1 cc body c3 cend:Code} (hg:g≠nI) (L:MLoop C g W nt G fn c0 c1 cc body c3 cend) (hW:∀ x,(cells x).length=W) (hW0:0<W) (h1:∀ x,1≤sz x)
 (hR:∀ x,QK C cells mk sz W nt body x):rD C cells mk sz g:=fun l w v F k hT hnd hk0 hk1 =>
 LK hS hg L hW hW0 (fun x _=>hR x) hT hnd hk0 hk1 (by have:=qD h1 l;omega)
def mD (cells:X→List IV) (W:Nat) (l:List X):Blk:=if l=[]then .arr W []else .tre W (l.map cells)
@[simp] theorem AO7 (r:Nat→Option Nat) (l:List X):BQ r (some (mD cells W l))=some (mD cells W l):=by unfold mD;split<;>rfl
@[simp] theorem AKK (l:List X):gN (some (mD cells W l))=[]:=by unfold mD;split<;>rfl
theorem rO (h:∀ x,lV (cells x)=true):∀ l:List X,qF (l.map cells)=true
 | []=>rfl
 | x::l=>by simp only[yR,qF,h x,rO h l,Bool.and_self]
@[simp] theorem AQO (h:∀ x,lV (cells x)=true) (l:List X):mfB (some (mD cells W l))=true:=by
  unfold mD;split
  ·rfl
  ·simp only[mfB];exact rO h l
theorem uZ {l:List X} (h:l≠[]):mD cells W l=.tre W (l.map cells):=by simp[mD,h]
theorem AB4 {cells:X→List IV} (h:∀ x y,cells x=cells y→x=y):∀ {l m:List X},l.map cells=m.map cells→l=m
 | [],[],_=>rfl
 | [],_::_,e=>by simp at e
 | _::_,[],e=>by simp at e
 | x::l,y::m,e=>by
  simp only[yR,List.cons.injEq]at e;rw[h x y e.1,AB4 h e.2]
theorem AE1 (hi:∀ x y,cells x=cells y→x=y) {l m:List X} (h:mD cells W l=mD cells W m):l=m:=by
 unfold mD at h;split at h<;>split at h
 ·rename_i h1 h2;rw[h1,h2]
 ·cases h
 ·cases h
 ·injection h with _ h;exact AB4 hi h
noncomputable def sF (cells:X→List IV) (mk:Int→X→X) (sz:X→Nat) (W:Nat):List AV→StL→Option (AV×StL)
 | [.osl 0 W' 0 n, .i (.lit (.int .i64 k))],[some B] =>
  @dite _ (W'=W∧∃ l:List X,B=mD cells W l∧l.length=n∧0≤k∧k+(bL sz l:Nat)<1000000000000) (Classical.propDecidable _)
   (fun h=>some (.int (k+(bL sz h.2.choose:Nat)),[some (mD cells W (dU mk sz k h.2.choose))])) fun _=>none
 | [.i (.isl []), .i (.lit (.int .i64 k))],[]=>tst (decide (0≤k∧k<1000000000000)) (some (.int k,[]))
 | [.nils, .i (.lit (.int .i64 k))],[]=>tst (decide (0≤k∧k<1000000000000)) (some (.int k,[]))
 | _,_=>none
theorem LM (hi:∀ x y,cells x=cells y→x=y) {l:List X} {k:Int} (h0:0≤k) (h1:k+(bL sz l:Nat)<1000000000000):sF cells mk sz W [.osl 0 W 0 l.length, .int k] [some (mD cells W l)]=some (.int (k+(bL sz l:Nat)),[some (mD cells W (dU mk sz k l))]):=by
 have h:W=W∧∃ m:List X,mD cells W l=mD cells W m∧m.length=l.length∧0≤k∧k+(bL sz m:Nat)<1000000000000:=⟨rfl,l,rfl,rfl,h0,h1⟩
 unfold sF;simp only;rw[dif_pos h];have e:l=h.2.choose:=AE1 hi h.2.choose_spec.1;rw[← e]
theorem XH {args:List AV} {st:StL} {r:AV×StL} (h:sF cells mk sz W args st=some r) :
 (∃ (l:List X) (k:Int),args=[.osl 0 W 0 l.length, .int k]∧st=[some (mD cells W l)]∧0≤k∧k+(bL sz l:Nat)<1000000000000∧r=(.int (k+(bL sz l:Nat)),[some (mD cells W (dU mk sz k l))])) ∨
 ∃ k:Int,(args=[.i (.isl []), .int k]∨args=[.nils, .int k])∧st=[]∧0≤k∧k<1000000000000∧r=(.int k,[]):=by
 unfold sF at h;split at h
 ·rename_i W' n k B;by_cases hc:W'=W∧∃ l:List X,B=mD cells W l∧l.length=n∧0≤k∧k+(bL sz l:Nat)<1000000000000
  ·rw[dif_pos hc]at h;injection h with h;obtain⟨s1,s2,s3,s4⟩:=hc.2.choose_spec;exact .inl ⟨hc.2.choose,k,by rw[s2,hc.1],by rw[← s1],s3,s4,h.symm⟩
  ·rw[dif_neg hc]at h;cases h
 ·rename_i k;obtain⟨h1,h2⟩:=aO.1 h;injection h2 with h2;obtain⟨h3,h4⟩:=zS h1;exact .inr ⟨k, .inl rfl,rfl,h3,h4,h2.symm⟩
 ·rename_i k;obtain⟨h1,h2⟩:=aO.1 h;injection h2 with h2;obtain⟨h3,h4⟩:=zS h1;exact .inr ⟨k, .inr rfl,rfl,h3,h4,h2.symm⟩
 ·cases h
theorem wY {C:Ctx} {g:FuncId} (hM:rD C cells mk sz g) (hW:∀ x,(cells x).length=W) (hP:∀ x,lV (cells x)=true) {args:List AV} {stl stl':StL} {r:AV} (h:sF cells mk sz W args stl=some (r,stl')) (w:World) (m:Mem) (φ:Pl) (vs:List Value) (hi:Inv w m φ (bF stl)) (hr:RepL m φ args vs) (hb:∀ id,φ id≠none→id<stl.length) :
 Calls C.P g vs.toArray w (eZ w m φ r stl'):=by
 have empty:∀ (v:Value) (k:Int) (st:StL),TCells w [.isl []] [v] []→0≤k→k<1000000000000→Inv w m φ (bF st)→(∀ id,φ id≠none→id<st.length)→Calls C.P g #[v, .int .i64 k] w (eZ w m φ (.int k) st):=by
  intro v k st hT hk0 hk1 hi hb;refine(hM [] w v [] k (by simpa using hT) (by simp) hk0 (by simpa [bL]using hk1)).mono ?_;rintro en w' ⟨rfl,fr,_,_⟩;have hsame:∀ f,f<w.heap.size→w'.heap[f]?=w.heap[f]?:=fun f hf=>fr.same f hf (by simp)
  refine⟨_,m,φ,rfl,?_,⟨fun b o u e=>by rw[cell_of_heap (hsame b (hi.mem.lt e))];exact hi.mem b o u e,?_,hi.inj,fun id b n f e ho=>zJ (hi.low id b n f e ho) fr.size⟩,⟨fr.size,fr.os,fr.tape,fr.output,fun b hb _=>hsame b hb, .refl _,fun _ _ _ _=>rfl, .refl _,fun _ _ _ _ e ho=>.inr (jW.not e ho)⟩,hb⟩
  ·simp[bL];exact .i (.lit _)
  ·intro id blk e;obtain⟨b,n,q1,q2,q3⟩:=hi.live id blk e;exact⟨b,n,q1,⟨q2.1,fun f hf=>zJ (q2.2 f hf) fr.size⟩,q3.mono q2.1 (fun f hf=>hsame f (q2.2 f hf)) (.refl _) (.refl _) fun _ _ _=>rfl⟩
 rcases XH h with ⟨l,k,rfl,rfl,hk0,hk1,hrr⟩|⟨k,ha,rfl,hk0,hk1,hrr⟩
 ·injection hrr with e1 e2;subst e1;subst e2
  cases hr with
  | cons ra rb =>
   cases rb with
   | cons rk rn =>
    cases rn
    cases rk with
    | i rk =>
     cases rk
     cases ra with
     | @osl _ _ _ _ cap b n ao eφ hlc hcap ha1 ha2 =>
      by_cases hl:l=[]
      ·subst hl;have:=empty (.slice ao 0 cap) k [some (mD cells W [])] (.isl0 ha2 .nil) hk0 (by simpa [bL]using hk1) hi hb;simpa [bL,dU]using this
      ·have hln:0<l.length:=zA1.2 hl;have hst:bF [some (mD cells W l)] 0=some (.tre W (l.map cells)):=by rw[uZ hl];rfl
       obtain⟨hown,hok⟩:=dF hi eφ hst;have hao:=ha1 (by omega);subst hao
       cases hok with
       | @tre T kk es us F hh hlen hpos hw1 hcu hfit hnd hF hm hone =>
        have hc:=hcu.pure (jR (rO hP l));have hcl:(l.map cells).length=l.length:=by simp
        have hne:l.map cells≠[]:=fun h=>by rw[h]at hcl;simp at hcl;omega
        have hT:TCells w [.isl (l.map cells)] [.slice (some ⟨b,W*0,none⟩) l.length cap] (b::F++[]):=by
         have:=TCells.isl (w:=w) (b:=b) (k:=W) (cap:=cap) (us:=us) (G:=F) hne ⟨T,hh,hone⟩ hpos hw1 (by rw[hlen];simpa using hcap) (by omega) hc .nil
         rwa [hcl]at this
        rw[yB]at hT;refine(hM l w _ (b::F) k hT hnd hk0 hk1).mono ?_;rintro en w' ⟨rfl,fr,ht,hrl⟩;have hmlen:=eB mk sz l k;have hml:dU mk sz k l≠[]:=fun h=>by rw[h]at hmlen;simp at hmlen;omega
        obtain⟨us1,hr1,hl1⟩:=hrl b cap us rfl hl ⟨T,hh,hone⟩
        have hFo:∀ f∈b::F,n.own f:=fun f hf=>by
         rcases zR.1 hf with rfl|hf
         ·exact hown.1
         ·exact hF f hf
        have hsame:∀ f,f<w.heap.size→¬ n.own f→w'.heap[f]?=w.heap[f]?:=fun f hf hno=>fr.same f hf fun h=>hno (hFo f h)
        refine⟨_,m,φ,rfl, .i (.lit _),⟨fun b' o u e=>?_,?_,?_,fun id b n f e ho=>zJ (hi.low id b n f e ho) fr.size⟩,⟨fr.size,fr.os,fr.tape,fr.output,fun f hf hfree=>hsame f hf (hfree 0 b n eφ), .refl _,fun _ _ _ _=>rfl, .refl _,fun _ _ _ _ e ho=>.inr (jW.not e ho)⟩,hb⟩
        ·rw[cell_of_heap (hsame b' (hi.mem.lt e) fun ho=>by rw[hm b' ho o]at e;cases e)];exact hi.mem b' o u e
        ·intro id blk e
         cases id with
         | succ id=>simp[bF]at e
         | zero =>
          simp only[bF]at e;rw[uZ hml]at e;injection e with e;subst e;refine⟨b,n,eφ,⟨hown.1,fun f hf=>zJ (hown.2 f hf) fr.size⟩,?_⟩;have hcm:((dU mk sz k l).map cells).length=l.length:=by rw[zA6,hmlen]
          have hwid:∀ e∈(dU mk sz k l).map cells,e.length=W:=fun e he=>by
           obtain⟨x,_,rfl⟩:=yD.1 he;exact hW x
          generalize hes:(dU mk sz k l).map cells=es2 at ht hcm hwid;generalize hvv:Value.slice (some ⟨b,W*0,none⟩) l.length cap=vv at ht;generalize hFF:b::F=FF at ht
          cases ht with
          | isl0=>simp at hcm;omega
          | @isl b2 k2 cap2 _ us2 G2 _ _ F2 h1 h2 h3 h4 h5 h6 h7 h8 =>
           cases h8
           injection hvv with hv1 hv2 hv3;injection hv1 with hv1;injection hv1 with hv1;subst hv1;simp only[yB,List.cons.injEq,true_and]at hFF;subst hFF;obtain⟨T1,hr1,ho1⟩:=hr1;obtain⟨T2,h2,ho2⟩:=h2;rw[h2]at hr1;injection hr1 with hr1;injection hr1 with hr1 hr2;have hus:us2=us1:=by simpa using congrArg Array.toList hr1
           subst hus
           obtain rfl:k2=W:=by
            cases es2 with
            | nil=>exact absurd rfl h1
            | cons e es=>rw[← h4 e (by simp),hwid e (by simp)]
           exact .tre (T:=T2) h2 (by rw[hl1];exact hlen) h3 h4 h7.toU (by rw[hcm,← hcl];exact hfit) hnd hF hm ho2
        ·intro i j x x' n1 n2 b1 b2 f e1 e2 _ _ _ _
         cases i with
         | succ i=>simp[bF]at e1
         | zero=>cases j with
          | zero=>rfl
          | succ j=>simp[bF]at e2
 ·injection hrr with e1 e2;subst e1;subst e2
  rcases ha with rfl|rfl
  ·cases hr with
   | cons ra rb =>
    cases rb with
    | cons rk rn =>
     cases rn
     cases rk with
     | i rk =>
      cases rk
      cases ra with
      | i ra =>
       cases ra with
       | isl0 ao cap hc=>exact empty _ k [] (.isl0 hc .nil) hk0 hk1 hi hb
       | isl hn=>exact absurd rfl hn
  ·cases hr with
   | cons ra rb =>
    cases rb with
    | cons rk rn =>
     cases rn
     cases rk with
     | i rk =>
      cases rk
      cases ra
      exact empty _ k [] (.isl0 (fun _=>rfl) .nil) hk0 hk1 hi hb
end
end Go.Av.Mk
namespace Go.Av
mutual
def Ex.fat:Ex→Prop
 | .mk _ _ _ ks=>ks.length<9223372036854775808∧Ex.ABU ks
def Ex.ABU:List Ex→Prop
 | []=>True
 | e::es=>e.fat∧Ex.ABU es
end
theorem Ex.vZ:∀ (l:List Ex),Ex.ABU l↔∀ k∈l,k.fat
 | []=>by simp[Ex.ABU]
 | e::es=>by simp[Ex.ABU,Ex.vZ es]
theorem Ex.uE (e:Ex):e.fat↔e.kids.length<9223372036854775808∧∀ k∈e.kids,k.fat:=by
 cases e;simp[Ex.fat,Ex.kids,Ex.vZ]
mutual
def Ex.sG (k:Int):Ex→Ex
 | .mk _ _ _ ks=>.mk k (k+1) ⟨(k+1+1).tmod 3 == 0,k+1+1+1⟩ (Ex.OP (k+1+1+1+1) ks)
def Ex.OP (k:Int):List Ex→List Ex
 | []=>[]
 | e::es=>Ex.sG k e::Ex.OP (k+4*e.size) es
end
theorem Ex.RJ (k:Int) (a:Ex):(Ex.sG k a).cells=[.int k, .int (k+1), .bool ((k+1+1).tmod 3 == 0), .int (k+1+1+1), .isl (Ex.aB (Ex.OP (k+1+1+1+1) a.kids))]:=by
 cases a;simp[Ex.sG,Ex.cells,Ex.kids]
theorem Ex.bV:∀ l:List Ex,Ex.aB l=l.map Ex.cells
 | []=>rfl
 | e::l=>by simp[Ex.aB,Ex.bV l]
theorem Pn.bV:∀ l:List Pn,Pn.aB l=l.map Pn.cells
 | []=>rfl
 | e::l=>by simp[Pn.aB,Pn.bV l]
def ALY (n:Int):List IV:=[.int n]
def ALX (q:Int) (_:Int):Int:=q
def AHI (_:Int):Nat:=1
theorem nU:∀ (l:List Int),aF l=l.map ALY
 | []=>rfl
 | n::l=>by have:=nU l;simp only[yR,← this];simp[aF,ALY]
abbrev FJ (k:Int) (l:List Int):List Int:=Mk.dU ALX AHI k l
theorem nP:∀ l:List Int,Mk.bL AHI l=l.length
 | []=>rfl
 | n::l=>by simp only[Mk.bL,nP l,AHI,zM];omega
def exZ (e:Ex):Nat:=4*e.size
theorem rH:∀ l:List Ex,Mk.bL exZ l=4*Ex.aQ l
 | []=>by simp[Mk.bL,Ex.aQ]
 | e::l=>by simp only[Mk.bL,rH l,exZ,Ex.aQ];omega
theorem LP:∀ (l:List Ex) (k:Int),Ex.OP k l=Mk.dU Ex.sG exZ k l
 | [],k=>by simp[Mk.dU,Ex.OP]
 | e::l,k=>by
  simp only[Mk.dU,Ex.OP,LP l];unfold exZ;push_cast;rfl
mutual
def Pn.mz:Pn→Nat
 | .mk _ _ es cs ks=>2+(4*Ex.aQ es+(cs.length+Pn.mzL ks))
def Pn.mzL:List Pn→Nat
 | []=>0
 | p::l=>p.mz+Pn.mzL l
end
mutual
def Pn.tZ (k:Int):Pn→Pn
 | .mk _ _ es cs ks=>.mk k (k+1) (Ex.OP (k+1+1) es) (FJ (k+1+1+(4*Ex.aQ es:Nat)) cs) (Pn.JN (k+1+1+(4*Ex.aQ es:Nat)+(cs.length:Nat)) ks)
def Pn.JN (k:Int):List Pn→List Pn
 | []=>[]
 | p::l=>Pn.tZ k p::Pn.JN (k+p.mz) l
end
theorem OO:∀ (l:List Pn) (k:Int),Pn.JN k l=Mk.dU Pn.tZ Pn.mz k l
 | [],k=>by simp[Mk.dU,Pn.JN]
 | e::l,k=>by simp only[Mk.dU,Pn.JN,OO l]
theorem DR:∀ l:List Pn,Mk.bL Pn.mz l=Pn.mzL l
 | []=>by simp[Mk.bL,Pn.mzL]
 | e::l=>by simp only[Mk.bL,DR l,Pn.mzL]
theorem Pn.AJP (p:Pn):p.mz=2+(4*Ex.aQ p.exprs+(p.cols.length+Pn.mzL p.kids)):=by cases p;simp[Pn.mz,Pn.exprs,Pn.cols,Pn.kids]
theorem Pn.RI (k:Int) (p:Pn):(Pn.tZ k p).cells=[.int k, .int (k+1), .isl (Ex.aB (Ex.OP (k+1+1) p.exprs)), .isl (aF (FJ (k+1+1+(4*Ex.aQ p.exprs:Nat)) p.cols)), .isl (Pn.aB (Pn.JN (k+1+1+(4*Ex.aQ p.exprs:Nat)+(p.cols.length:Nat)) p.kids))]:=by
 cases p;simp[Pn.tZ,Pn.cells,Pn.exprs,Pn.cols,Pn.kids]
def IC (k:Int) (s:Stp):Stp:=(k,FJ (k+1) s.2)
def o8 (s:Stp):Nat:=1+s.2.length
end Go.Av
namespace Go.Av.Mk
open Go Go.Av
theorem DN {W n i:Nat} {us V:List Value} (hi:i<n) (hu:W*n≤us.length) (hV:V.length=W):(us.take (W*i)++V++us.drop (W*(i+1))).take (W*n)=us.take (W*i)++V++(us.take (W*n)).drop (W*(i+1)):=by
 have m1:W*(i+1)=W*i+W:=by rw[zI];omega
 have m2:W*(i+1)≤W*n:=zH W (by omega);have hl:(us.take (W*i)++V).length=W*(i+1):=by simp;omega
 rw[xO,hl,zZ (by rw[hl];omega),yI]
end Go.Av.Mk
namespace Go.Proofs.YtjdfjgmebalaaaaGreat.P
open Go Go.Av Go.Av.Mk
set_option maxRecDepth 4000
set_option maxHeartbeats 1000000
theorem AAO:∃ c0 c1 cc body c3 cend,MLoop C0 30 1 19 (GS 30) Tryz.f30 c0 c1 cc body c3 cend∧∀ n:Int,QK C0 ALY ALX AHI 1 19 body n:=by
 refine⟨_,_,_,_,_,_,{ func:=Tryz.func30,code:=rfl,ntmps:=rfl,big:=by omega,results:=rfl,ok0:=⟨by kernel_rfl,rfl⟩,ok1:=⟨by kernel_rfl,rfl⟩,okc:=⟨by kernel_rfl,rfl⟩,ok3:=⟨by kernel_rfl,rfl⟩,oke:=⟨by kernel_rfl,rfl⟩,x0:=?_,x1:=?_,xc:=?_,xo:=?_,x3:=?_,xe:=?_,xf:=?_,nil:=?_ },?_⟩
 ·intro n R q;simp[MS]
 ·intro n R q;simp[MS]
 ·intro n i R q hi;simp[MS,hi]
 ·intro n R q;simp[MS]
 ·intro n i R q hi;have w6:IntKind.i64.wrap ((i:Int)+1)=i+1:=wrO;simp[MS,w6]
 ·intro n R q;simp[MS]
 ·intro n R q;simp[MS]
 ·intro k;rw[aD rfl Tryz.func30 rfl rfl];simp;rw[aG];simp
 ·intro x b N n i us vs q F a w hin g hvs hT hnd hbF h0 h1;have hlen:=g.len;have hfit:=g.fit;have h1:q+1<1000000000000:=h1
  cases hT with
  | @lit v _ vs' _ ho hT =>
   cases hT
   have hR:=iF 1 n us i hin;rw[hvs]at hR;have hset:=nQ 1 n us [.int .i64 q] i hin (by omega) rfl;simp only[yR,zB0]at hR hset;have w2:IntKind.i64.wrap (q+1)=q+1:=wrO;generalize hRR:rowsOf 1 n us=R at hR hset;refine wp_mono (AFS eO (G:=GS 30) (R':=R.set i [.int q]) (q':=q+1) (j9:=.junk) g hRR (by kernel_rfl) rfl (by simp[MS,hin,hR,w2]) hset) ?_;rintro e a' w' ⟨rfl,us',g',e',f'⟩;refine⟨rfl,us',[.int .i64 q],g',?_, .lit rfl .nil,f'⟩;rw[e'];exact DN hin (by omega) rfl
theorem AAN:rD C0 ALY ALX AHI 30:=by
 obtain⟨c0,c1,cc,body,c3,cend,L,hR⟩:=AAO;exact rD.of eO (by decide) L (fun _=>rfl) (by omega) (fun _=>zN _) hR
theorem ASO {w:World} {a:Ex} {vs:List Value} {F:List Nat} (h:TCells w a.cells vs F) :
 ∃ u,vs=[.int .i64 a.kind, .int .i64 a.col, .bool a.val.null, .int .i64 a.val.n,u]∧TCells w [.isl (Ex.aB a.kids)] [u] F:=by
 rw[Ex.aA]at h
 cases h with
 | @lit _ _ v1 _ o1 h1 =>
  cases h1 with
  | @lit _ _ v2 _ o2 h2 =>
   cases h2 with
   | @lit _ _ v3 _ o3 h3 =>
    cases h3 with
    | @lit _ _ v4 _ o4 h4 =>
     have hl:=h4.length
     cases v4 with
     | nil=>simp at hl
     | cons u r =>
      cases r with
      | cons=>simp at hl
      | nil=>exact⟨u,rfl,h4⟩
theorem AFR:∃ c0 c1 cc body c3 cend,MLoop C0 72 5 52 (GS 72) Tryz.f72 c0 c1 cc body c3 cend∧∀ x:Ex,QK C0 Ex.cells Ex.sG exZ 5 52 body x:=by
 have hl:∃ c0 c1 cc body c3 cend,MLoop C0 72 5 52 (GS 72) Tryz.f72 c0 c1 cc body c3 cend∧((∀ x:Ex,(∀ (w:World) (v:Value) (F:List Nat) (k:Int),TCells w [.isl (Ex.aB x.kids)] [v] F→F.Nodup→0≤k→k+(bL exZ x.kids:Nat)<1000000000000→Calls Tryz.prog 72 #[v, .int .i64 k] w (AGM Ex.cells Ex.sG exZ w v F k x.kids))→QK C0 Ex.cells Ex.sG exZ 5 52 body x)):=by
  refine⟨_,_,_,_,_,_,{ func:=Tryz.func72,code:=rfl,ntmps:=rfl,big:=by omega,results:=rfl,ok0:=⟨by kernel_rfl,rfl⟩,ok1:=⟨by kernel_rfl,rfl⟩,okc:=⟨by kernel_rfl,rfl⟩,ok3:=⟨by kernel_rfl,rfl⟩,oke:=⟨by kernel_rfl,rfl⟩,x0:=?_,x1:=?_,xc:=?_,xo:=?_,x3:=?_,xe:=?_,xf:=?_,nil:=?_ },?_⟩
  ·intro n R q;simp[MS]
  ·intro n R q;simp[MS]
  ·intro n i R q hi;simp[MS,hi]
  ·intro n R q;simp[MS]
  ·intro n i R q hi;have w6:IntKind.i64.wrap ((i:Int)+1)=i+1:=wrO;simp[MS,w6]
  ·intro n R q;simp[MS]
  ·intro n R q;simp[MS]
  ·intro k;rw[aD rfl Tryz.func72 rfl rfl];simp;rw[aG];simp
  ·intro x ih b N n i us vs q F a w hin g hvs hT hnd hbF h0 h1;have hlen:=g.len;have hfit:=g.fit;have hsz:exZ x=4+bL exZ x.kids:=by rw[rH];unfold exZ;rw[Ex.size_eq];omega
   rw[hsz]at h1;obtain⟨u,rfl,hu⟩:=ASO hT;have hR:=iF 5 n us i hin;rw[hvs]at hR;have hset:=nQ 5 n us [.int .i64 q, .int .i64 (q+1), .bool ((q+1+1).tmod 3 == 0), .int .i64 (q+1+1+1),u] i hin (by omega) rfl;simp only[yR,zB0]at hR hset;have w2:IntKind.i64.wrap (q+1)=q+1:=wrO;have w3:IntKind.i64.wrap (q+1+1)=q+1+1:=wrO;have w4:IntKind.i64.wrap (q+1+1+1)=q+1+1+1:=wrO;have w5:IntKind.i64.wrap (q+1+1+1+1)=q+1+1+1+1:=wrO;have rr:=g.to;generalize hRR:rowsOf 5 n us=R at hR hset rr;have hRl:R.length=n:=by rw[← hRR,eT]
   have hRs:∀ r:List IV,fJ (R.set i r) i=some r:=fun r=>by rw[gH,zC0 (by omega)]
   refine wp_seq (wp_mono (nD eO (lU b N) (G:=GS 72) (S':=MS 5 n (R.set i [.int q, .int x.col, .bool x.val.null, .int x.val.n, .lit u]) q .junk (.int i) .junk) (e:=.normal) (by kernel_rfl) (by simp[MS,hin,hR,hRs,w2,w3,w4,w5]) rr) ?_);rintro _ x1 y1 ⟨rfl,r1⟩;refine wp_seq (wp_mono (nD eO (lU b N) (G:=GS 72) (S':=MS 5 n (R.set i [.int q, .int x.col, .bool x.val.null, .int x.val.n, .lit u]) (q+1) .junk (.int i) .junk) (e:=.normal) (by kernel_rfl) (by simp[MS,hin,hR,hRs,w2,w3,w4,w5]) r1) ?_);rintro _ x2 y2 ⟨rfl,r2⟩;refine wp_seq (wp_mono (nD eO (lU b N) (G:=GS 72) (S':=MS 5 n (R.set i [.int q, .int (q+1), .bool x.val.null, .int x.val.n, .lit u]) (q+1) .junk (.int i) .junk) (e:=.normal) (by kernel_rfl) (by simp[MS,hin,hR,hRs,w2,w3,w4,w5]) r2) ?_);rintro _ x3 y3 ⟨rfl,r3⟩;refine wp_seq (wp_mono (nD eO (lU b N) (G:=GS 72) (S':=MS 5 n (R.set i [.int q, .int (q+1), .bool x.val.null, .int x.val.n, .lit u]) (q+1+1) .junk (.int i) .junk) (e:=.normal) (by kernel_rfl) (by simp[MS,hin,hR,hRs,w2,w3,w4,w5]) r3) ?_);rintro _ x4 y4 ⟨rfl,r4⟩;refine wp_seq (wp_mono (nD eO (lU b N) (G:=GS 72) (S':=MS 5 n (R.set i [.int q, .int (q+1), .bool ((q+1+1).tmod 3 == 0), .int x.val.n, .lit u]) (q+1+1) .junk (.int i) .junk) (e:=.normal) (by kernel_rfl) (by simp[MS,hin,hR,hRs,w2,w3,w4,w5]) r4) ?_);rintro _ x5 y5 ⟨rfl,r5⟩;refine wp_seq (wp_mono (nD eO (lU b N) (G:=GS 72) (S':=MS 5 n (R.set i [.int q, .int (q+1), .bool ((q+1+1).tmod 3 == 0), .int x.val.n, .lit u]) (q+1+1+1) .junk (.int i) .junk) (e:=.normal) (by kernel_rfl) (by simp[MS,hin,hR,hRs,w2,w3,w4,w5]) r5) ?_);rintro _ x6 y6 ⟨rfl,r6⟩;refine wp_seq (wp_mono (nD eO (lU b N) (G:=GS 72) (S':=MS 5 n (R.set i [.int q, .int (q+1), .bool ((q+1+1).tmod 3 == 0), .int (q+1+1+1), .lit u]) (q+1+1+1) .junk (.int i) .junk) (e:=.normal) (by kernel_rfl) (by simp[MS,hin,hR,hRs,w2,w3,w4,w5]) r6) ?_);rintro _ x7 y7 ⟨rfl,r7⟩;refine wp_seq (wp_mono (nD eO (lU b N) (G:=GS 72) (S':=MS 5 n (R.set i [.int q, .int (q+1), .bool ((q+1+1).tmod 3 == 0), .int (q+1+1+1), .lit u]) (q+1+1+1+1) .junk (.int i) .junk) (e:=.normal) (by kernel_rfl) (by simp[MS,hin,hR,hRs,w2,w3,w4,w5]) r7) ?_);rintro _ x8 y8 ⟨rfl,r8⟩;obtain⟨us8,g8,e8,f8⟩:=g.of (vs:=us.take (5*i)++[.int .i64 q, .int .i64 (q+1), .bool ((q+1+1).tmod 3 == 0), .int .i64 (q+1+1+1),u]++us.drop (5*(i+1))) (q':=q+1+1+1+1) (i':=i) r8.1 rfl rfl rfl (by rw[← hset];rfl);rw[DN (W:=5) (us:=us) (V:=[.int .i64 q, .int .i64 (q+1), .bool ((q+1+1).tmod 3 == 0), .int .i64 (q+1+1+1),u]) hin (by omega) rfl]at e8;have hR8:=iF 5 n us8 i hin
   have hrow8:(us8.drop (5*i)).take 5=[.int .i64 q, .int .i64 (q+1), .bool ((q+1+1).tmod 3 == 0), .int .i64 (q+1+1+1),u]:=by
    have:(us8.drop (5*i)).take 5=((us8.take (5*n)).drop (5*i)).take 5:=by rw[yI,zK,yT (by omega)]
    rw[this,e8,yZ,xM (by simp;omega)];rfl
   rw[hrow8]at hR8;simp only[yR,zB0]at hR8
   refine wp_mono (wE eO (s:=bL exZ x.kids) (K:=fun _ w2=>TCells w2 [.isl ((dU Ex.sG exZ (q+1+1+1+1) x.kids).map Ex.cells)] [u] F) (u:=u) (Fu:=F) g8 (os1:=[_,_,_,_,_,_]) rfl (by kernel_rfl) (zN 1)
    (R1:=⟨upd (upd (upd (upd (upd (upd (aZ (MS 5 n (rowsOf 5 n us8) (q+1+1+1+1) .junk (.int i) .junk).env) 44 (.osl 0 5 0 n)) 45 (.int i)) 46 (.ownE 0 5 i 0)) 47 (.ownE 0 5 i 4)) 48 (.i (.lit u))) 49 (.int (q+1+1+1+1)),bF (MS 5 n (rowsOf 5 n us8) (q+1+1+1+1) .junk (.int i) .junk).st,[]⟩)
    (by simp[MS,hin,hR8]) rfl rfl rfl rfl rfl rfl (by decide) (by decide) (by decide) (by decide) (by decide) Tryz.func72 (by decide) (by intro h;cases h) ?_ hbF) ?_
   ·intro w1 f1
    have hu1:TCells w1 [.isl (Ex.aB x.kids)] [u] F:=hu.mono fun f hf=>by
     have hlt:=tlt hu f hf;rw[f1.same f (zJ hlt f8.size) (by simp;intro e;subst e;exact hbF hf),f8.same f hlt (by simp;intro e;subst e;exact hbF hf)]
    refine(ih w1 u F _ hu1 hnd (by omega) (by push_cast at h1 ⊢;omega)).mono ?_;rintro en w2 ⟨p1,p2,p3,_⟩;exact⟨p1,p2,p3⟩
   ·rintro e a' w' ⟨rfl,us',g',e',w1,f1,f2,hK⟩;have hq:q+1+1+1+1+(bL exZ x.kids:Nat)=q+(exZ x:Nat):=by rw[hsz];push_cast;omega
    rw[hq]at g';refine⟨rfl,us',_,g',by rw[e',e8],?_,(f8.sub (by simp)).trans ((f1.sub (by simp)).trans (f2.sub fun f hf=>by simp[hf]))⟩;rw[Ex.RJ,LP,Ex.bV];exact .lit rfl (.lit rfl (.lit rfl (.lit rfl hK)))
 obtain⟨c0,c1,cc,body,c3,cend,L,hR⟩:=hl;refine⟨c0,c1,cc,body,c3,cend,L,fun x=>?_⟩
 induction x using Ex.ind with
 | h kd cl vl l ih =>
  refine hR _ fun w v F k hT hnd hk0 hk1=>?_
  simp only[Ex.kids]at hT hk1 ⊢;rw[Ex.bV]at hT;exact LK eO (by decide) L (fun e=>by rw[Ex.aA];rfl) (by omega) ih hT hnd hk0 hk1 (by have:=qD (sz:=exZ) (fun e=>by unfold exZ;have:=Ex.kU e;omega) l;omega)
theorem AHT:rD C0 Ex.cells Ex.sG exZ 72:=by
 obtain⟨c0,c1,cc,body,c3,cend,L,hR⟩:=AFR;exact rD.of eO (by decide) L (fun e=>by rw[Ex.aA];rfl) (by omega) (fun e=>by unfold exZ;have:=Ex.kU e;omega) hR
theorem one_cell {w:World} {c:IV} {cs:List IV} {vs:List Value} {F:List Nat} (h:TCells w (c::cs) vs F):∃ v r F1 F2,vs=v::r∧F=F1++F2∧TCells w [c] [v] F1∧TCells w cs r F2:=by
 have hl:=h.length
 cases vs with
 | nil=>simp at hl
 | cons v r =>
  obtain⟨F1,F2,hF,h1,h2⟩:=h.split 1;exact⟨v,r,F1,F2,rfl,hF,by simpa using h1,by simpa using h2⟩
theorem ARS {w:World} {p:Pn} {vs:List Value} {F:List Nat} (h:TCells w p.cells vs F) :
 ∃ u1 u2 u3 F1 F2 F3,vs=[.int .i64 p.kind, .int .i64 p.table,u1,u2,u3]∧F=F1++(F2++F3)∧TCells w [.isl (Ex.aB p.exprs)] [u1] F1∧TCells w [.isl (aF p.cols)] [u2] F2∧TCells w [.isl (Pn.aB p.kids)] [u3] F3:=by
 rw[Pn.aA]at h
 cases h with
 | @lit _ _ v1 _ o1 h1 =>
  cases h1 with
  | @lit _ _ v2 _ o2 h2 =>
   obtain⟨u1,r1,F1,G1,rfl,rfl,k1,h3⟩:=one_cell h2;obtain⟨u2,r2,F2,G2,rfl,rfl,k2,h4⟩:=one_cell h3;obtain⟨u3,r3,F3,G3,rfl,rfl,k3,h5⟩:=one_cell h4
   cases h5
   exact⟨u1,u2,u3,F1,F2,F3,rfl,by simp,k1,k2,k3⟩
theorem AEW:∃ c0 c1 cc body c3 cend,MLoop C0 73 5 48 (GS 73) Tryz.f73 c0 c1 cc body c3 cend∧∀ x:Pn,QK C0 Pn.cells Pn.tZ Pn.mz 5 48 body x:=by
 have hl:∃ c0 c1 cc body c3 cend,MLoop C0 73 5 48 (GS 73) Tryz.f73 c0 c1 cc body c3 cend∧((∀ x:Pn,(∀ (w:World) (v:Value) (F:List Nat) (k:Int),TCells w [.isl (Pn.aB x.kids)] [v] F→F.Nodup→0≤k→k+(bL Pn.mz x.kids:Nat)<1000000000000→Calls Tryz.prog 73 #[v, .int .i64 k] w (AGM Pn.cells Pn.tZ Pn.mz w v F k x.kids))→QK C0 Pn.cells Pn.tZ Pn.mz 5 48 body x)):=by
  refine⟨_,_,_,_,_,_,{ func:=Tryz.func73,code:=rfl,ntmps:=rfl,big:=by omega,results:=rfl,ok0:=⟨by kernel_rfl,rfl⟩,ok1:=⟨by kernel_rfl,rfl⟩,okc:=⟨by kernel_rfl,rfl⟩,ok3:=⟨by kernel_rfl,rfl⟩,oke:=⟨by kernel_rfl,rfl⟩,x0:=?_,x1:=?_,xc:=?_,xo:=?_,x3:=?_,xe:=?_,xf:=?_,nil:=?_ },?_⟩
  ·intro n R q;simp[MS]
  ·intro n R q;simp[MS]
  ·intro n i R q hi;simp[MS,hi]
  ·intro n R q;simp[MS]
  ·intro n i R q hi;have w6:IntKind.i64.wrap ((i:Int)+1)=i+1:=wrO;simp[MS,w6]
  ·intro n R q;simp[MS]
  ·intro n R q;simp[MS]
  ·intro k;rw[aD rfl Tryz.func73 rfl rfl];simp;rw[aG];simp
  ·intro x ih b N n i us vs q F a w hin g hvs hT hnd hbF h0 h1;have hlen:=g.len;have hfit:=g.fit;have hsz:x.mz=2+(bL exZ x.exprs+(x.cols.length+bL Pn.mz x.kids)):=by rw[rH,DR];exact Pn.AJP x
   rw[hsz]at h1;obtain⟨u1,u2,u3,F1,F2,F3,rfl,rfl,t1,t2,t3⟩:=ARS hT;have nd1:=yU.1 hnd;have nd2:=yU.1 nd1.2.1;have b1:b ∉ F1:=fun h=>hbF (by simp[h])
   have b2:b ∉ F2:=fun h=>hbF (by simp[h])
   have b3:b ∉ F3:=fun h=>hbF (by simp[h])
   have d12:∀ f∈F1,f ∉ F2:=fun f h h'=>nd1.2.2 f h f (by simp[h']) rfl
   have d13:∀ f∈F1,f ∉ F3:=fun f h h'=>nd1.2.2 f h f (by simp[h']) rfl
   have d23:∀ f∈F2,f ∉ F3:=fun f h h'=>nd2.2.2 f h f h' rfl
   have hR:=iF 5 n us i hin;rw[hvs]at hR;have hset:=nQ 5 n us [.int .i64 q, .int .i64 (q+1),u1,u2,u3] i hin (by omega) rfl;simp only[yR,zB0]at hR hset;have w2:IntKind.i64.wrap (q+1)=q+1:=wrO;have w3:IntKind.i64.wrap (q+1+1)=q+1+1:=wrO;have rr:=g.to;generalize hRR:rowsOf 5 n us=R at hR hset rr;have hRl:R.length=n:=by rw[← hRR,eT]
   have hRs:∀ r:List IV,fJ (R.set i r) i=some r:=fun r=>by rw[gH,zC0 (by omega)]
   refine wp_seq (wp_mono (nD eO (lU b N) (G:=GS 73) (S':=MS 5 n (R.set i [.int q, .int x.table, .lit u1, .lit u2, .lit u3]) q .junk (.int i) .junk) (e:=.normal) (by kernel_rfl) (by simp[MS,hin,hR,hRs,w2,w3]) rr) ?_);rintro _ x1 y1 ⟨rfl,r1⟩;refine wp_seq (wp_mono (nD eO (lU b N) (G:=GS 73) (S':=MS 5 n (R.set i [.int q, .int x.table, .lit u1, .lit u2, .lit u3]) (q+1) .junk (.int i) .junk) (e:=.normal) (by kernel_rfl) (by simp[MS,hin,hR,hRs,w2,w3]) r1) ?_);rintro _ x2 y2 ⟨rfl,r2⟩;refine wp_seq (wp_mono (nD eO (lU b N) (G:=GS 73) (S':=MS 5 n (R.set i [.int q, .int (q+1), .lit u1, .lit u2, .lit u3]) (q+1) .junk (.int i) .junk) (e:=.normal) (by kernel_rfl) (by simp[MS,hin,hR,hRs,w2,w3]) r2) ?_);rintro _ x3 y3 ⟨rfl,r3⟩;refine wp_seq (wp_mono (nD eO (lU b N) (G:=GS 73) (S':=MS 5 n (R.set i [.int q, .int (q+1), .lit u1, .lit u2, .lit u3]) (q+1+1) .junk (.int i) .junk) (e:=.normal) (by kernel_rfl) (by simp[MS,hin,hR,hRs,w2,w3]) r3) ?_);rintro _ x4 y4 ⟨rfl,r4⟩;obtain⟨us8,g8,e8,f8⟩:=g.of (vs:=us.take (5*i)++[.int .i64 q, .int .i64 (q+1),u1,u2,u3]++us.drop (5*(i+1))) (q':=q+1+1) (i':=i) r4.1 rfl rfl rfl (by rw[← hset];rfl);rw[DN (W:=5) (us:=us) (V:=[.int .i64 q, .int .i64 (q+1),u1,u2,u3]) hin (by omega) rfl]at e8
   have rowU:∀ us9:List Value,us9.take (5*n)=us8.take (5*n)→fJ (rowsOf 5 n us9) i=some [.int q, .int (q+1), .lit u1, .lit u2, .lit u3]:=by
    intro us9 e9;have hR8:=iF 5 n us9 i hin
    have hrow8:(us9.drop (5*i)).take 5=[.int .i64 q, .int .i64 (q+1),u1,u2,u3]:=by
     have:(us9.drop (5*i)).take 5=((us9.take (5*n)).drop (5*i)).take 5:=by rw[yI,zK,yT (by omega)]
     rw[this,e9,e8,yZ,xM (by simp;omega)];rfl
    rw[hrow8]at hR8;exact hR8
   have keep:∀ {w1 w2:World} {cs:List IV} {vs:List Value} {A B:List Nat},Fr w1 w2 B→TCells w1 cs vs A→(∀ f∈A,f ∉ B)→TCells w2 cs vs A:=fun fr h hd=>h.mono fun f hf=>fr.same f (tlt h f hf) (hd f hf)
   have nb:∀ {A:List Nat},b ∉ A→∀ f∈A,f ∉ [b]:=fun h f hf hh=>h (by simp at hh;exact hh ▸ hf)
   have hR8:=rowU us8 rfl
   refine wp_seq (wp_mono (wE eO (s:=bL exZ x.exprs) (K:=fun _ w2=>TCells w2 [.isl ((dU Ex.sG exZ (q+1+1) x.exprs).map Ex.cells)] [u1] F1) (u:=u1) (Fu:=F1) g8 (os1:=[_,_,_,_,_,_]) rfl (by kernel_rfl) (zN 1)
    (R1:=⟨upd (upd (upd (upd (upd (upd (aZ (MS 5 n (rowsOf 5 n us8) (q+1+1) .junk (.int i) .junk).env) 26 (.osl 0 5 0 n)) 27 (.int i)) 28 (.ownE 0 5 i 0)) 29 (.ownE 0 5 i 2)) 30 (.i (.lit u1))) 31 (.int (q+1+1)),bF (MS 5 n (rowsOf 5 n us8) (q+1+1) .junk (.int i) .junk).st,[]⟩)
    (by simp[MS,hin,hR8]) rfl rfl rfl rfl rfl rfl (by decide) (by decide) (by decide) (by decide) (by decide) Tryz.func72 (by decide) (by intro h;cases h) ?_ b1) ?_)
   ·intro w1 f1;have hu1:=keep f1 (keep f8 t1 (nb b1)) (nb b1);rw[Ex.bV]at hu1;refine(AHT x.exprs w1 u1 F1 _ hu1 nd1.1 (by omega) (by push_cast at h1 ⊢;omega)).mono ?_;rintro en w2 ⟨p1,p2,p3,_⟩;exact⟨p1,p2,p3⟩
   rintro e a9 y9 ⟨rfl,us9,g9,e9,wa,fa,fb,hK1⟩;have hR9:=rowU us9 e9;have t2a:=keep fb (keep fa (keep f8 t2 (nb b2)) (nb b2)) (fun f h h'=>d12 f h' h);have t3a:=keep fb (keep fa (keep f8 t3 (nb b3)) (nb b3)) (fun f h h'=>d13 f h' h)
   refine wp_seq (wp_mono (wE eO (s:=x.cols.length) (K:=fun _ w2=>TCells w2 [.isl ((FJ (q+1+1+(bL exZ x.exprs:Nat)) x.cols).map ALY)] [u2] F2) (u:=u2) (Fu:=F2) g9 (os1:=[_,_,_,_,_,_]) rfl (by kernel_rfl) (zN 1)
    (R1:=⟨upd (upd (upd (upd (upd (upd (aZ (MS 5 n (rowsOf 5 n us9) (q+1+1+(bL exZ x.exprs:Nat)) .junk (.int i) .junk).env) 33 (.osl 0 5 0 n)) 34 (.int i)) 35 (.ownE 0 5 i 0)) 36 (.ownE 0 5 i 3)) 37 (.i (.lit u2))) 38 (.int (q+1+1+(bL exZ x.exprs:Nat))),bF (MS 5 n (rowsOf 5 n us9) (q+1+1+(bL exZ x.exprs:Nat)) .junk (.int i) .junk).st,[]⟩)
    (by simp[MS,hin,hR9]) rfl rfl rfl rfl rfl rfl (by decide) (by decide) (by decide) (by decide) (by decide) Tryz.func30 (by decide) (by intro h;cases h) ?_ b2) ?_)
   ·intro w1 f1;have hu1:=keep f1 t2a (nb b2);rw[nU]at hu1;refine(AAN x.cols w1 u2 F2 _ hu1 nd2.1 (by omega) (by rw[nP];push_cast at h1 ⊢;omega)).mono ?_;rintro en w2 ⟨p1,p2,p3,_⟩;rw[nP]at p1;exact⟨p1,p2,p3⟩
   rintro e a10 y10 ⟨rfl,us10,g10,e10,wc,fc,fd,hK2⟩;have hR10:=rowU us10 (e10.trans e9);have k1a:=keep fd (keep fc hK1 (nb b1)) (fun f h h'=>d12 f h h');have t3b:=keep fd (keep fc t3a (nb b3)) (fun f h h'=>d23 f h' h)
   refine wp_mono (wE eO (s:=bL Pn.mz x.kids) (K:=fun _ w2=>TCells w2 [.isl ((dU Pn.tZ Pn.mz (q+1+1+(bL exZ x.exprs:Nat)+(x.cols.length:Nat)) x.kids).map Pn.cells)] [u3] F3) (u:=u3) (Fu:=F3) g10 (os1:=[_,_,_,_,_,_]) rfl (by kernel_rfl) (zN 1)
    (R1:=⟨upd (upd (upd (upd (upd (upd (aZ (MS 5 n (rowsOf 5 n us10) (q+1+1+(bL exZ x.exprs:Nat)+(x.cols.length:Nat)) .junk (.int i) .junk).env) 40 (.osl 0 5 0 n)) 41 (.int i)) 42 (.ownE 0 5 i 0)) 43 (.ownE 0 5 i 4)) 44 (.i (.lit u3))) 45 (.int (q+1+1+(bL exZ x.exprs:Nat)+(x.cols.length:Nat))),bF (MS 5 n (rowsOf 5 n us10) (q+1+1+(bL exZ x.exprs:Nat)+(x.cols.length:Nat)) .junk (.int i) .junk).st,[]⟩)
    (by simp[MS,hin,hR10]) rfl rfl rfl rfl rfl rfl (by decide) (by decide) (by decide) (by decide) (by decide) Tryz.func73 (by decide) (by intro h;cases h) ?_ b3) ?_
   ·intro w1 f1;have hu1:=keep f1 t3b (nb b3);refine(ih w1 u3 F3 _ hu1 nd2.2.1 (by omega) (by push_cast at h1 ⊢;omega)).mono ?_;rintro en w2 ⟨p1,p2,p3,_⟩;exact⟨p1,p2,p3⟩
   rintro e a' w' ⟨rfl,us',g',e',w1,f1,f2,hK3⟩;have hq:q+1+1+(bL exZ x.exprs:Nat)+(x.cols.length:Nat)+(bL Pn.mz x.kids:Nat)=q+(x.mz:Nat):=by rw[hsz];push_cast;omega
   rw[hq]at g';have k1b:=keep f2 (keep f1 k1a (nb b1)) (fun f h h'=>d13 f h h');have k2b:=keep f2 (keep f1 hK2 (nb b2)) (fun f h h'=>d23 f h h');refine⟨rfl,us',_,g',by rw[e',e10,e9,e8],?_,(f8.sub (by simp)).trans ((fa.sub (by simp)).trans ((fb.sub fun f hf=>by simp[hf]).trans ((fc.sub (by simp)).trans ((fd.sub fun f hf=>by simp[hf]).trans ((f1.sub (by simp)).trans (f2.sub fun f hf=>by simp[hf]))))))⟩;rw[Pn.RI,LP,Ex.bV,nU,OO,Pn.bV,← rH];exact .lit rfl (.lit rfl (k1b.append (k2b.append hK3)))
 obtain⟨c0,c1,cc,body,c3,cend,L,hR⟩:=hl;refine⟨c0,c1,cc,body,c3,cend,L,fun x=>?_⟩
 induction x using Pn.ind with
 | h k t es cs ks ih =>
  refine hR _ fun w v F k hT hnd hk0 hk1=>?_
  simp only[Pn.kids]at hT hk1 ⊢;rw[Pn.bV]at hT;exact LK eO (by decide) L (fun e=>by rw[Pn.aA];rfl) (by omega) ih hT hnd hk0 hk1 (by have:=qD (sz:=Pn.mz) (fun e=>by have:=Pn.AJP e;omega) ks;omega)
theorem AOI:rD C0 Pn.cells Pn.tZ Pn.mz 73:=by
 obtain⟨c0,c1,cc,body,c3,cend,L,hR⟩:=AEW;exact rD.of eO (by decide) L (fun e=>by rw[Pn.aA];rfl) (by omega) (fun e=>by have:=Pn.AJP e;omega) hR
end Go.Proofs.YtjdfjgmebalaaaaGreat.P
namespace Go.Av.Mk
open Go Go.Av
section
variable {X:Type} {cells:X→List IV} {W:Nat} {z:List IV}
@[simp] theorem APW (hp:∀ x,lV (cells x)=true) (l:List X):D7 W 0 l.length (some (mD cells W l))=some (l.map cells):=by
  unfold mD;split
  ·rename_i h;subst h;simp[D7,jD]
  ·simp[D7,rO hp l]
def vX (cells:X→List IV) (W:Nat) (z:List IV) (l:List X) (n:Nat):Nat→Blk
 | 0=>.arr W (List.replicate n z)
 | i+1=>.tre W ((l.take (i+1)).map cells++List.replicate (n-(i+1)) z)
theorem PE {l:List X} {n:Nat} (h:l.length=n):vX cells W z l n n=mD cells W l:=by
 subst h
 cases hl:l.length with
 | zero=>have:=zW.1 hl;subst this;simp[vX,mD]
 | succ n =>
  have hT:l.take (n+1)=l:=zZ (by omega);have hne:l≠[]:=fun h=>by subst h;simp at hl
  simp[vX,uZ hne,hT]
@[simp] theorem ALV (r:Nat→Option Nat) (l:List X) (n:Nat):∀ i,BQ r (some (vX cells W z l n i))=some (vX cells W z l n i)
  | 0=>rfl
  | _+1=>rfl
@[simp] theorem AHR (l:List X) (n:Nat):∀ i,gN (some (vX cells W z l n i))=[]
  | 0=>rfl
  | _+1=>rfl
theorem PD {l:List X} {n i:Nat} {a:X} (ha:l[i]?=some a) (hn:i<n) (hz:nX z=true) (hzl:z.length=(cells a).length) (hl:D9 (cells a)=false) (id:Nat) (st:Store) :
 fC id W i 0 (cells a) st (some (vX cells W z l n i))=some (upd st id (some (vX cells W z l n (i+1)))):=by
 have hil:=(zY.1 ha).1;have hS:(l.take i).map cells++[cells a]=(l.take (i+1)).map cells:=by rw[aJ ha];simp
 have hD:((l.take i).map cells).length=i:=by simp;omega
 have g1:=rR (n:=n) (z:=z) hD hn;have g2:=rQ (n:=n) (z:=z) (x:=cells a) hD hn;have g3:splice z 0 (cells a)=some (cells a):=l7 hzl;have g4:splice (rY z) 0 (cells a)=some (cells a):=l7 (by rw[EC];exact hzl);rw[hS]at g2;simp only[zC2]at g1 g2
 cases i with
 | zero =>
  simp at g1 g2;simp[vX,fC,BI,bnd,tst,g1,g3,g4,hl,g2,hz]
 | succ i=>simp[vX,fC,bnd,tst,g1,g2,g3]
end
end Go.Av.Mk
namespace Go.Av
@[simp] theorem Ex.AQ (e:Ex):lV e.cells=true:=by rw[Ex.aA];rfl
@[simp] theorem Pn.AQ (p:Pn):lV p.cells=true:=by rw[Pn.aA];rfl
def tP (p:Pn) (j:Nat):AV:=.agg [.int p.kind, .int p.table, .osl j 5 0 p.exprs.length, .osl (j+1) 1 0 p.cols.length, .osl (j+2) 5 0 p.kids.length]
def tPB (p:Pn):StL:=[some (Mk.mD Ex.cells 5 p.exprs),some (.arr 1 (aF p.cols)),some (Mk.mD Pn.cells 5 p.kids)]
def tE (e:Ex) (j:Nat):AV:=.agg [.int e.kind, .int e.col, .bool e.val.null, .int e.val.n, .osl j 5 0 e.kids.length]
end Go.Av
namespace Go.Proofs.YtjdfjgmebalaaaaGreat
open Go Go.Av
set_option maxRecDepth 4000
@[simp] theorem ALJ (b:Bool) (n:Int):aI C0 194 [.i (.agg [.bool b, .int n])] []=some (.int (Val.tr ⟨b,n⟩),[]):=by
  rw[aD rfl Tryz.func194 rfl rfl]
  cases b
  ·by_cases h:n=0<;>simp[Val.tr,h]
  ·simp[Val.tr]
@[simp] theorem ARU:aI C0 212 [] []=some (.i (.agg [.bool true, .int 0]),[]):=by
  rw[aD rfl Tryz.func212 rfl rfl];simp
@[simp] theorem number_eq (n:Int):aI C0 211 [.int n] []=some (.i (.agg [.bool false, .int n]),[]):=by
  rw[aD rfl Tryz.func211 rfl rfl];simp
@[simp] theorem AAP (n:Int):aI C0 214 [.int n] []=some (.i (.agg [.bool (ALW n).null, .int (ALW n).n]),[]):=by
  rw[aD rfl Tryz.func214 rfl rfl];by_cases h:-9999≤n∧n≤9999<;>simp[ALW,Val.ok,h]
@[simp] theorem ASA (b:Bool):aI C0 215 [.bool b] []=some (.i (.agg [.bool (SE b).null, .int (SE b).n]),[]):=by
  rw[aD rfl Tryz.func215 rfl rfl]
  cases b<;>simp[SE]
@[simp] theorem AMT (t:Int):aI C0 213 [.int t] []=some (.i (.agg [.bool (trV t).null, .int (trV t).n]),[]):=by
  rw[aD rfl Tryz.func213 rfl rfl];by_cases h:t=1
  ·simp[trV,h]
  ·by_cases h2:t=2<;>simp[trV,SE,h,h2]
theorem p8 (k:Int) (a b:Val) (ha:a.ok=true) (hb:b.ok=true):aI C0 208 [.int k, .i (.agg [.bool a.null, .int a.n]), .i (.agg [.bool b.null, .int b.n])] []=some (.i (.agg [.bool (Val.cmb k a b).null, .int (Val.cmb k a b).n]),[]):=by
 rw[aD rfl Tryz.func208 rfl rfl];obtain⟨an,a⟩:=a;obtain⟨bn,b⟩:=b;have ba:-9999≤a∧a≤9999:=by cases an<;>simp[Val.ok]at ha<;>omega
 have bb:-9999≤b∧b≤9999:=by cases bn<;>simp[Val.ok]at hb<;>omega
 have w1:IntKind.i64.wrap (a+b)=a+b:=wrO;have w2:IntKind.i64.wrap (a-b)=a-b:=wrO
 have w3:IntKind.i64.wrap (a*b)=a*b:=by
  have h1:a*b≤9999*9999:=by
   have:=Int.mul_le_mul_of_natAbs_le (x:=a) (y:=b) (s:=9999) (t:=9999) (by omega) (by omega);omega
  have h2:-(9999*9999)≤a*b:=by
   have:=Int.mul_le_mul_of_natAbs_le (x:=-a) (y:=b) (s:=9999) (t:=9999) (by omega) (by omega);rw[Int.neg_mul]at this;omega
  exact wrO
 by_cases k8:k=8
 ·by_cases hm:Val.tr ⟨bn,b⟩<Val.tr ⟨an,a⟩<;>simp[Val.cmb,k8,hm]
 by_cases k9:k=9
 ·by_cases hm:Val.tr ⟨an,a⟩<Val.tr ⟨bn,b⟩<;>simp[Val.cmb,k9,hm]
 cases an
 ·cases bn
  ·by_cases k3:k=3
   ·simp[Val.cmb,k3,w1]
   by_cases k4:k=4
   ·simp[Val.cmb,k4,w2]
   by_cases k5:k=5
   ·simp[Val.cmb,k5,w3]
   by_cases k6:k=6
   ·simp[Val.cmb,k6]
   ·simp[Val.cmb,k8,k9,k3,k4,k5,k6]
  ·simp[Val.cmb,k8,k9]
 ·simp[Val.cmb,k8,k9]
end Go.Proofs.YtjdfjgmebalaaaaGreat
namespace Go.Av
end Go.Av
namespace Go.Proofs.YtjdfjgmebalaaaaGreat
open Go Go.Av
set_option maxRecDepth 4000
set_option maxHeartbeats 1000000
end Go.Proofs.YtjdfjgmebalaaaaGreat
namespace Go.Av
end Go.Av
namespace Go.Proofs.YtjdfjgmebalaaaaGreat
open Go Go.Av
set_option maxRecDepth 4000
set_option maxHeartbeats 1000000
def SB (e:Ex) (w:Int) (vs:List Val) (i:Nat):AS :=
 { env:=[(0, .i (.agg [.int e.kind, .int e.col, .bool e.val.null, .int e.val.n, .isl (Ex.aB e.kids)])),(1, .int w),(2, .i (.isl (rZ vs))),(3, .own 0 0),(6, .own 1 0),(7, .bool false),(8, .int i),(9, .junk),(10, .junk),(14,jk i (.bool true)),(22,jk i (.bool false)),(34, .junk),(41, .junk)],
   st:=[some (.box [.int e.kind, .int e.col, .bool e.val.null, .int e.val.n, .i (.isl (Ex.aB e.kids))]),some (.box [.int 0, .int 0, .bool false, .int 0, .nils])] }
set_option maxHeartbeats 2000000
end Go.Proofs.YtjdfjgmebalaaaaGreat
namespace Go.Av
end Go.Av
namespace Go.Proofs.YtjdfjgmebalaaaaGreat
open Go Go.Av
set_option maxRecDepth 4000
set_option maxHeartbeats 2000000
end Go.Proofs.YtjdfjgmebalaaaaGreat
namespace Go.Av
theorem GN (P:Nat→Prop) [DecidablePred P]:∀ n:Nat,(∀ i,i<n→P i)∨∃ j,j<n∧(∀ i,i<j→P i)∧¬ P j
 | 0=>.inl fun i hi=>by omega
 | n+1=>by
  rcases GN P n with h|⟨j,h1,h2,h3⟩
  ·by_cases hn:P n
   ·exact .inl fun i hi=>by
     by_cases e:i=n
     ·subst e;exact hn
     ·exact h i (by omega)
   ·exact .inr ⟨n,by omega,h,hn⟩
  ·exact .inr ⟨j,by omega,h2,h3⟩
def dM (left:Int) (n:Nat):Int:=if(n:Int)≤left then left-n else -1
theorem R5 (l:List Ex) {i:Nat} {a:Ex} (h:l[i]?=some a):Ex.aQ (l.take (i+1))=Ex.aQ (l.take i)+a.size:=by
 induction l generalizing i with
 | nil=>simp at h
 | cons b l ih =>
  cases i with
  | zero=>simp at h;subst h;simp[Ex.aQ]
  | succ i=>have:=ih (i:=i) (by simpa using h);simp only[yP,Ex.aQ]at this ⊢;omega
theorem X7 (l:List Ex) (i:Nat):Ex.aQ (l.take i)≤Ex.aQ l:=by
 induction l generalizing i with
 | nil=>simp[Ex.aQ]
 | cons b l ih =>
  cases i with
  | zero=>simp[Ex.aQ]
  | succ i=>simp only[yP,Ex.aQ];have:=ih i;omega
theorem sP:∀ (l:List Ex) (i:Nat),i≤l.length→i≤Ex.aQ (l.take i)
 | [],i,h=>by simp at h;subst h;simp
 | a::l,0,_=>by simp
 | a::l,i+1,h=>by
  have:=sP l i (by simpa using h);have:=Ex.kU a;simp only[yP,Ex.aQ];omega
end Go.Av
namespace Go.Proofs.YtjdfjgmebalaaaaGreat
open Go Go.Av
set_option maxRecDepth 4000
set_option maxHeartbeats 1000000
theorem AN8 {e:Ex} {left:Int} (h:aI C0 48 [.i (.isl (Ex.aB e.kids)), .int left] []=some (.int (dM left (Ex.aQ e.kids)),[])) :
 aI C0 82 [.i (.agg e.cells), .int left] []=some (.int (dM left (Ex.aQ e.kids)),[]):=by
 rw[aD rfl Tryz.func82 rfl rfl,Ex.aA];simp[h];by_cases h0:dM left (Ex.aQ e.kids)<0
 ·have:dM left (Ex.aQ e.kids)=-1:=by unfold dM at h0 ⊢;split<;>rename_i hc<;>simp[hc]at h0 ⊢;omega
  simp[h0,this]
 ·simp[h0]
def szI (l:List Ex) (left:Int) (i:Nat):Int:=left-l.length-(Ex.aQ (l.take i)-i)
def SZ (l:List Ex) (left:Int) (i:Nat):AS :=
 { env:=[(0, .i (.isl (Ex.aB l))),(1, .int (szI l left i)),(4, .int 0),(5, .int i),(11, .bool false),(15,jk i (.bool true)),(25,jk i (.bool false))],st:=[] }
theorem TU {l:List Ex} {left:Int} (h0:0≤left) (h1:left<1000000000) (hl:l.length<9223372036854775808)
 (ih:∀ a∈l,∀ left:Int,0≤left→left<1000000000→aI C0 82 [.i (.agg a.cells), .int left] []=some (.int (dM left (Ex.aQ a.kids)),[])) :
 aI C0 48 [.i (.isl (Ex.aB l)), .int left] []=some (.int (dM left (Ex.aQ l)),[]):=by
 rw[aD rfl Tryz.func48 rfl rfl];have w1:IntKind.i64.wrap (left-l.length)=left-l.length:=wrO;have hsl:=Ex.bM l;by_cases hc:left-l.length<0
 ·have:¬ ((Ex.aQ l:Nat):Int)≤left:=by omega
  simp[w1,hc,dM,this]
 simp[w1,hc]
 have hpre:∀ i,i<l.length→∃ a,l[i]?=some a∧a∈l∧Ex.aQ (l.take (i+1))=Ex.aQ (l.take i)+(1+Ex.aQ a.kids)∧fJ (Ex.aB l) i=some a.cells:=by
  intro i hi;have h3:=zX hi;refine⟨_,h3,zV h3,?_,Ex.aN h3⟩;rw[R5 l h3,Ex.size_eq]
 have hround:∀ i,i<l.length→0≤szI l left i→∃ a:Ex,fJ (Ex.aB l) i=some a.cells∧aI C0 82 [.i (.agg a.cells), .int (szI l left i)] []=some (.int (if 0≤szI l left (i+1)then szI l left (i+1)else -1),[]):=by
  intro i hi hs;obtain⟨a,h3,hm,hz,hn⟩:=hpre i hi;have hti:=sP l i (by omega);refine⟨a,hn,?_⟩;rw[ih a hm _ hs (by unfold szI;omega)];congr 2;unfold dM;congr 1;by_cases hle:((Ex.aQ a.kids:Nat):Int)≤szI l left i
  ·rw[if_pos hle,if_pos (by unfold szI at hle ⊢;omega)];unfold szI;omega
  ·rw[if_neg hle,if_neg (by unfold szI at hle ⊢;omega)]
 rcases GN (fun i=>0≤szI l left (i+1)) l.length with hall|⟨j,hj,hlt,hbad⟩
 ·rw[aS (SZ l left) l.length (by simp[SZ,szI,Ex.aQ])]
  ·rw[aG]
   have hfin:dM left (Ex.aQ l)=szI l left l.length:=by
    have hT:l.take l.length=l:=zZ (by simp)
    have hge:0≤szI l left l.length:=by
     cases hn:l.length with
     | zero=>unfold szI;rw[hn];simp[Ex.aQ];omega
     | succ n=>exact hn ▸ hall n (by omega)
    unfold dM;unfold szI at hge ⊢;rw[hT]at hge ⊢;rw[if_pos (by omega)];omega
   rw[hfin];simp[SZ]
  ·intro i hi
   have hs:0≤szI l left i:=by
    cases i with
    | zero=>unfold szI;simp[Ex.aQ];omega
    | succ i=>exact hall i (by omega)
   obtain⟨a,hn,hc⟩:=hround i hi hs;have hs1:=hall i hi;have hs1:0≤szI l left (i+1):=hs1;rw[if_pos hs1]at hc;have w2:IntKind.i64.wrap ((i:Int)+1)=i+1:=wrO;rw[Ex.aA]at hn hc;simp[SZ,hi,hn,hc,w2,show ¬ szI l left (i+1)<0 by omega]
 ·have hsl2:dM left (Ex.aQ l)=-1:=by
   have hm:=X7 l (j+1);have hbad:¬ 0≤szI l left (j+1):=hbad;obtain⟨a,h3,_,_,_⟩:=hpre j hj
   have hrest:Ex.aQ (l.take (j+1))+(l.length-(j+1))≤Ex.aQ l:=by
    have e1:Ex.aQ l=Ex.aQ (l.take (j+1))+Ex.aQ (l.drop (j+1)):=by
     have key:∀ (n:Nat) (l:List Ex),Ex.aQ l=Ex.aQ (l.take n)+Ex.aQ (l.drop n):=by
      intro n
      induction n with
      | zero=>intro l;simp[Ex.aQ]
      | succ n ih=>intro l;cases l with
       | nil=>simp[Ex.aQ]
       | cons b l=>simp only[yP,zB2,Ex.aQ];have:=ih l;omega
     exact key _ _
    have e2:=Ex.bM (l.drop (j+1));simp at e2;omega
   unfold dM;unfold szI at hbad;rw[if_neg (by omega)]
  rw[hsl2,aS (SZ l left) j (by simp[SZ,szI,Ex.aQ])]
  ·rw[aG]
   have hs:0≤szI l left j:=by
    cases j with
    | zero=>unfold szI;simp[Ex.aQ];omega
    | succ j=>exact hlt j (by omega)
   obtain⟨a,hn,hc⟩:=hround j hj hs;have hbad:¬ 0≤szI l left (j+1):=hbad;rw[if_neg hbad]at hc;rw[Ex.aA]at hn hc;simp[SZ,hj,hn,hc]
  ·intro i hi
   have hs:0≤szI l left i:=by
    cases i with
    | zero=>unfold szI;simp[Ex.aQ];omega
    | succ i=>exact hlt i (by omega)
   obtain⟨a,hn,hc⟩:=hround i (by omega) hs;have hs1:0≤szI l left (i+1):=hlt i hi;rw[if_pos hs1]at hc;have w2:IntKind.i64.wrap ((i:Int)+1)=i+1:=wrO;rw[Ex.aA]at hn hc;simp[SZ,show i<l.length by omega,hn,hc,w2,show ¬ szI l left (i+1)<0 by omega]
set_option maxHeartbeats 2000000
theorem AR5:∀ (e:Ex),e.fat→∀ left:Int,0≤left→left<1000000000→aI C0 82 [.i (.agg e.cells), .int left] []=some (.int (dM left (Ex.aQ e.kids)),[]):=by
 intro e
 induction e using Ex.ind with
 | h k c v ks ih =>
  intro hf left h0 h1;have hf':=(Ex.uE _).1 hf;exact AN8 (TU h0 h1 hf'.1 fun a ha=>ih a ha (hf'.2 a ha))
theorem AN6 (l:List Ex) (hl:l.length<9223372036854775808) (hf:∀ a∈l,a.fat) (left:Int) (h0:0≤left) (h1:left<1000000000):aI C0 48 [.i (.isl (Ex.aB l)), .int left] []=some (.int (dM left (Ex.aQ l)),[]) :=
 TU h0 h1 hl fun a ha=>AR5 a (hf a ha)
theorem AFT (v:Val):aI C0 124 [.i (.agg [.bool v.null, .int v.n]), .i (.agg [.bool v.null, .int v.n])] []=some (.bool true,[]):=by
 rw[aD rfl Tryz.func124 rfl rfl];simp
theorem APG {e:Ex} (h:aI C0 55 [.i (.isl (Ex.aB e.kids)), .i (.isl (Ex.aB e.kids))] []=some (.bool true,[])):aI C0 87 [.i (.agg e.cells), .i (.agg e.cells)] []=some (.bool true,[]):=by
 rw[aD rfl Tryz.func87 rfl rfl,Ex.aA];have hv:=AFT e.val;simp[hv,h]
def EQ (l:List Ex) (i:Nat):AS :=
 { env:=[(0, .i (.isl (Ex.aB l))),(1, .i (.isl (Ex.aB l))),(4, .bool false),(5, .int i),(10, .bool false),(14,jk i (.bool true)),(26,jk i (.bool false))],st:=[] }
theorem AHV {l:List Ex} (hl:l.length<9223372036854775808) (ih:∀ a∈l,aI C0 87 [.i (.agg a.cells), .i (.agg a.cells)] []=some (.bool true,[])):aI C0 55 [.i (.isl (Ex.aB l)), .i (.isl (Ex.aB l))] []=some (.bool true,[]):=by
 rw[aD rfl Tryz.func55 rfl rfl];simp;rw[aS (EQ l) l.length (by simp[EQ])]
 ·rw[aG];simp[EQ]
 ·intro i hi;have h3:=zX hi;have hc:=ih _ (zV h3);have r2:=Ex.aN h3;generalize l[i]=a at h3 hc r2;have w2:IntKind.i64.wrap ((i:Int)+1)=i+1:=wrO;rw[Ex.aA]at hc r2;simp[EQ,hi,r2,hc,w2]
theorem AFV:∀ (e:Ex),e.fat→aI C0 87 [.i (.agg e.cells), .i (.agg e.cells)] []=some (.bool true,[]):=by
 intro e
 induction e using Ex.ind with
 | h k c v ks ih =>
  intro hf;have hf':=(Ex.uE _).1 hf;exact APG (AHV hf'.1 fun a ha=>ih a ha (hf'.2 a ha))
theorem AFU (l:List Ex) (hl:l.length<9223372036854775808) (hf:∀ a∈l,a.fat):aI C0 55 [.i (.isl (Ex.aB l)), .i (.isl (Ex.aB l))] []=some (.bool true,[]):=AHV hl fun a ha=>AFV a (hf a ha)
end Go.Proofs.YtjdfjgmebalaaaaGreat
namespace Go.Av
mutual
def Pn.fat:Pn→Prop
 | .mk _ _ es cs ks=>es.length<9223372036854775808∧(∀ e∈es,e.fat)∧cs.length<9223372036854775808∧ks.length<9223372036854775808∧Pn.ABU ks
def Pn.ABU:List Pn→Prop
 | []=>True
 | p::ps=>p.fat∧Pn.ABU ps
end
theorem Pn.vZ:∀ (l:List Pn),Pn.ABU l↔∀ p∈l,p.fat
 | []=>by simp[Pn.ABU]
 | p::ps=>by simp[Pn.ABU,Pn.vZ ps]
theorem Pn.uE (p:Pn):p.fat↔p.exprs.length<9223372036854775808∧(∀ e∈p.exprs,e.fat)∧p.cols.length<9223372036854775808∧p.kids.length<9223372036854775808∧∀ a∈p.kids,a.fat:=by
 cases p;simp[Pn.fat,Pn.vZ]
end Go.Av
namespace Go.Proofs.YtjdfjgmebalaaaaGreat.P
open Go Go.Av
set_option maxRecDepth 4000
set_option maxHeartbeats 4000000
def TIX (l:List Int) (i:Nat):AS :=
 { env:=[(0, .i (.isl (aF l))),(2, .nils),(3, .osl 0 1 0 l.length),(4, .int i),(11,jk i (.bool true))],st:=[some (.arr 1 (aF (l.take i)++List.replicate (l.length-i) [.int 0]))] }
def EIX (l:List Int) (i:Nat):AS :=
 { env:=[(0, .i (.isl (aF l))),(1, .i (.isl (aF l))),(4, .bool false),(5, .int i),(10, .bool false),(14,jk i (.bool true)),(25,jk i (.bool false))],st:=[] }
theorem uF (l:List Int) (hl:l.length<9223372036854775808):aI C0 18 [.i (.isl (aF l)), .i (.isl (aF l))] []=some (.bool true,[]):=by
 rw[aD rfl Tryz.func18 rfl rfl];simp;rw[aS (EIX l) l.length (by simp[EIX])]
 ·rw[aG];simp[EIX]
 ·intro i hi;have h3:=zX hi;have r2:=bH h3;generalize l[i]=a at h3 r2;have w2:IntKind.i64.wrap ((i:Int)+1)=i+1:=wrO;simp[EIX,hi,r2,w2]
theorem ABY {p:Pn} (h1:aI C0 55 [.i (.isl (Ex.aB p.exprs)), .i (.isl (Ex.aB p.exprs))] []=some (.bool true,[])) (h2:aI C0 18 [.i (.isl (aF p.cols)), .i (.isl (aF p.cols))] []=some (.bool true,[])) (h3:aI C0 56 [.i (.isl (Pn.aB p.kids)), .i (.isl (Pn.aB p.kids))] []=some (.bool true,[])) :
 aI C0 17 [.i (.agg p.cells), .i (.agg p.cells)] []=some (.bool true,[]):=by
 rw[aD rfl Tryz.func17 rfl rfl,Pn.aA];simp[h1,h2,h3]
def EPS (l:List Pn) (i:Nat):AS :=
 { env:=[(0, .i (.isl (Pn.aB l))),(1, .i (.isl (Pn.aB l))),(4, .bool false),(5, .int i),(10, .bool false),(14,jk i (.bool true)),(26,jk i (.bool false))],st:=[] }
theorem Y0 {l:List Pn} (hl:l.length<9223372036854775808) (ih:∀ a∈l,aI C0 17 [.i (.agg a.cells), .i (.agg a.cells)] []=some (.bool true,[])):aI C0 56 [.i (.isl (Pn.aB l)), .i (.isl (Pn.aB l))] []=some (.bool true,[]):=by
 rw[aD rfl Tryz.func56 rfl rfl];simp;rw[aS (EPS l) l.length (by simp[EPS])]
 ·rw[aG];simp[EPS]
 ·intro i hi;have h3:=zX hi;have hc:=ih _ (zV h3);have r2:=Pn.aN h3;generalize l[i]=a at h3 hc r2;have w2:IntKind.i64.wrap ((i:Int)+1)=i+1:=wrO;rw[Pn.aA]at hc r2;simp[EPS,hi,r2,hc,w2]
theorem SK:∀ (p:Pn),p.fat→aI C0 17 [.i (.agg p.cells), .i (.agg p.cells)] []=some (.bool true,[]):=by
 intro p
 induction p using Pn.ind with
 | h k t es cs ks ih =>
  intro hf;obtain⟨h1,h2,h3,h4,h5⟩:=(Pn.uE _).1 hf;exact ABY (AFU es h1 h2) (uF cs h3) (Y0 h4 fun a ha=>ih a ha (h5 a ha))
def zpw:List IV:=[.int 0, .int 0, .isl [], .isl [], .isl []]
end Go.Proofs.YtjdfjgmebalaaaaGreat.P
namespace Go.Proofs.YtjdfjgmebalaaaaGreat.P
open Go Go.Av Go.Av.Mk
set_option maxRecDepth 4000
set_option maxHeartbeats 1000000
noncomputable def AJJ:FuncId→Option (List AV→StL→Option (AV×StL))
 | 84=>none
 | 52=>none
 | 14=>none
 | 13=>none
 | 53=>none
 | 35=>none
 | 15=>none
 | g=>if g=nI then none else some (aI C0 g)
def LU:FuncId→Bool
 | 84=>true
 | 52=>true
 | 14=>true
 | 13=>true
 | 53=>true
 | 35=>true
 | 15=>true
 | g=>keepR g
noncomputable def CT:Ctx:={ P:=Tryz.prog,G:=GS,ownArgs:=cK,keepRes:=LU,eqT:=GZ,prim:=AJJ,tree:=true }
@[simp] theorem AgJ:CT.P=Tryz.prog:=(rfl)
@[simp] theorem AgK (f):CT.G f=GS f:=(rfl)
@[simp] theorem AgG (f):CT.ownArgs f=cK f:=(rfl)
@[simp] theorem AgH (f):CT.keepRes f=LU f:=(rfl)
@[simp] theorem AgI (f):CT.eqT f=GZ f:=(rfl)
@[simp] theorem AgF:CT.tree=true:=(rfl)
@[simp] theorem kT1:LU 84=true:=(rfl)
@[simp] theorem kT2:LU 52=true:=(rfl)
@[simp] theorem kT3:LU 14=true:=(rfl)
@[simp] theorem kT4:LU 13=true:=(rfl)
@[simp] theorem kT5:LU 53=true:=(rfl)
@[simp] theorem kT6:LU 35=true:=(rfl)
@[simp] theorem kT7:LU 15=true:=(rfl)
theorem AOG:PrimOk CT:=by
 have h0:=bP eO
 have key:∀ g q,CT.prim g=some q→g≠nI∧q=aI C0 g:=by
  intro g q h;have h:AJJ g=some q:=h;unfold AJJ at h;split at h<;>first|(cases h;done)|(split at h<;>first|(cases h;done)|(rename_i hy;injection h with h;exact⟨hy,h.symm⟩))
 constructor
 ·intro g args st p h;unfold fB at h
  cases hq:CT.prim g with
  | none=>rw[hq]at h;cases h
  | some q=>rw[hq]at h;obtain⟨hy,rfl⟩:=key g q hq;exact h0.name g args st p hy h
 ·intro g args st r st' h;unfold fB at h
  cases hq:CT.prim g with
  | none=>rw[hq]at h;cases h
  | some q=>rw[hq]at h;obtain⟨hy,rfl⟩:=key g q hq;exact h0.calls g args st r st' hy h
theorem ANQ:SoundOk CT:=rF (C:=CT) ft nt eqS mo AOG
@[simp] theorem ct1 (args:List AV) (st:StL):aI CT 123 args st=aI C0 123 args st:=bK (C:=CT) rfl args st
theorem AN3 (v:Val):aI C0 123 [.i (.agg [.bool v.null, .int v.n])] []=some (.i (.agg [.bool v.null, .int v.n]),[]):=by
 rw[aD rfl Tryz.func123 rfl rfl];simp
theorem AMX {e:Ex} (h:aI CT 52 [.i (.isl (Ex.aB e.kids))] []=some (.osl 0 5 0 e.kids.length,[some (mD Ex.cells 5 e.kids)])):aI CT 84 [.i (.agg e.cells)] []=some (tE e 0,[some (mD Ex.cells 5 e.kids)]):=by
 rw[aD rfl Tryz.func84 rfl rfl,Ex.aA];have hv:=AN3 e.val;simp[hv,h,tE]
def TTE (l:List Ex) (i:Nat):AS :=
 { env:=[(0, .i (.isl (Ex.aB l))),(2, .nils),(3, .osl 0 5 0 l.length),(4, .int i),(11,jk i (.bool true))],st:=[some (vX Ex.cells 5 Z0 l l.length i)] }
theorem AGT {l:List Ex} (hl:l.length<1000000000) (ih:∀ a∈l,aI CT 84 [.i (.agg a.cells)] []=some (tE a 0,[some (mD Ex.cells 5 a.kids)])):aI CT 52 [.i (.isl (Ex.aB l))] []=some (.osl 0 5 0 l.length,[some (mD Ex.cells 5 l)]):=by
 rw[aD rfl Tryz.func52 rfl rfl];have hb:56*(l.length:Int)≤281474976710656:=by omega
 simp[hb];rw[aS (TTE l) l.length (by simp[TTE,vX,Z0])]
 ·rw[aG];simp[TTE,PE]
 ·intro i hi;have h3:=zX hi;have hc:=ih _ (zV h3);have r2:=Ex.aN h3;have hput:=PD (cells:=Ex.cells) (W:=5) (z:=Z0) (n:=l.length) h3 hi (by simp[Z0]) (by rw[Ex.aA];simp[Z0]) (by rw[Ex.aA];simp[D9,AF9]);generalize l[i]=a at h3 hc r2 hput;have w2:IntKind.i64.wrap ((i:Int)+1)=i+1:=wrO;rw[Ex.aA]at hc r2;simp only[Ex.aA,Ex.bV]at hput;simp[TTE,hi,r2,hc,tE,w2,hput]
theorem AMY:∀ (e:Ex),e.thin→aI CT 84 [.i (.agg e.cells)] []=some (tE e 0,[some (mD Ex.cells 5 e.kids)]):=by
 intro e
 induction e using Ex.ind with
 | h k c v ks ih =>
  intro ht;have ht':=(Ex.bI _).1 ht;exact AMX (AGT ht'.1 fun a ha=>ih a ha (ht'.2 a ha))
theorem AMU (l:List Ex) (hl:l.length<1000000000) (ht:∀ a∈l,a.thin):aI CT 52 [.i (.isl (Ex.aB l))] []=some (.osl 0 5 0 l.length,[some (mD Ex.cells 5 l)]):=AGT hl fun a ha=>AMY a (ht a ha)
theorem AGU (l:List Int) (hl:l.length<1000000000):aI CT 14 [.i (.isl (aF l))] []=some (.osl 0 1 0 l.length,[some (.arr 1 (aF l))]):=by
 rw[aD rfl Tryz.func14 rfl rfl];have hb:8*(l.length:Int)≤281474976710656:=by omega
 simp[hb];rw[aS (TIX l) l.length (by simp[TIX,aF])]
 ·rw[aG];have hT:l.take l.length=l:=zZ (by simp);simp[TIX,hT]
 ·intro i hi;have h3:=zX hi;have r2:=bH h3;generalize l[i]=a at h3 r2;have w2:IntKind.i64.wrap ((i:Int)+1)=i+1:=wrO;have hD:(aF (l.take i)).length=i:=by simp;omega
  have g1:=rR (n:=l.length) (z:=[IV.int 0]) hD hi;have g2:=rQ (n:=l.length) (z:=[IV.int 0]) (x:=[IV.int a]) hD hi;have hS:aF (l.take i)++[[IV.int a]]=aF (l.take (i+1)):=by rw[aJ h3,fU]
  rw[hS]at g2;simp[TIX,hi,r2,w2,g1,g2]
theorem AMV {p:Pn} (h1:aI CT 52 [.i (.isl (Ex.aB p.exprs))] []=some (.osl 0 5 0 p.exprs.length,[some (mD Ex.cells 5 p.exprs)])) (h2:aI CT 14 [.i (.isl (aF p.cols))] []=some (.osl 0 1 0 p.cols.length,[some (.arr 1 (aF p.cols))])) (h3:aI CT 53 [.i (.isl (Pn.aB p.kids))] []=some (.osl 0 5 0 p.kids.length,[some (mD Pn.cells 5 p.kids)])) :
 aI CT 13 [.i (.agg p.cells)] []=some (tP p 0,tPB p):=by
 rw[aD rfl Tryz.func13 rfl rfl,Pn.aA];simp[h1,h2,h3,tP,tPB]
def TTP (l:List Pn) (i:Nat):AS :=
 { env:=[(0, .i (.isl (Pn.aB l))),(2, .nils),(3, .osl 0 5 0 l.length),(4, .int i),(11,jk i (.bool true))],st:=[some (vX Pn.cells 5 zpw l l.length i)] }
theorem lT (l:List Int):D7 1 0 l.length (some (.arr 1 (aF l)))=some (aF l):=by
 have:jD (aF l)=true:=by
  rw[nU]
  induction l with
  | nil=>rfl
  | cons n l ih=>simp only[yR,jD,ih,Bool.and_true];rfl
 simp[D7,this]
theorem AIH {l:List Pn} (hl:l.length<1000000000) (ih:∀ a∈l,aI CT 13 [.i (.agg a.cells)] []=some (tP a 0,tPB a)):aI CT 53 [.i (.isl (Pn.aB l))] []=some (.osl 0 5 0 l.length,[some (mD Pn.cells 5 l)]):=by
 rw[aD rfl Tryz.func53 rfl rfl];have hb:88*(l.length:Int)≤281474976710656:=by omega
 simp[hb];rw[aS (TTP l) l.length (by simp[TTP,vX,zpw])]
 ·rw[aG];simp[TTP,PE]
 ·intro i hi;have h3:=zX hi;have hc:=ih _ (zV h3);have r2:=Pn.aN h3;have hput:=PD (cells:=Pn.cells) (W:=5) (z:=zpw) (n:=l.length) h3 hi (by simp[zpw]) (by rw[Pn.aA];simp[zpw]) (by rw[Pn.aA];simp[D9,AF9]);generalize l[i]=a at h3 hc r2 hput;have w2:IntKind.i64.wrap ((i:Int)+1)=i+1:=wrO;have ha:=lT a.cols;rw[Pn.aA]at hc r2;simp only[Pn.aA,Ex.bV,Pn.bV]at hput;simp[TTP,hi,r2,hc,tP,tPB,w2,ha,hput]
theorem AMW:∀ (p:Pn),p.thin→aI CT 13 [.i (.agg p.cells)] []=some (tP p 0,tPB p):=by
 intro p
 induction p using Pn.ind with
 | h k t es cs ks ih =>
  intro ht;obtain⟨h1,h2,h3,h4,h5⟩:=(Pn.bI _).1 ht;exact AMV (AMU es h1 h2) (AGU cs h3) (AIH h4 fun a ha=>ih a ha (h5 a ha))
end Go.Proofs.YtjdfjgmebalaaaaGreat.P
namespace Go.Av
def EM (s:Stp):List IV:=[.int s.1, .isl (aF s.2)]
def bT (l:List Stp):List (List IV):=l.map EM
@[simp] theorem AH2 (l:List Stp):(bT l).length=l.length:=by simp[bT]
theorem aL (a b:List Stp):bT (a++b)=bT a++bT b:=by simp[bT]
@[simp] theorem ALQ (n:Nat) (l:List Stp):(bT l).take n=bT (l.take n):=by simp[bT,zC2]
theorem nM (r:Int) (path:List Int):bT [(r,path)]=[[.int r, .isl (aF path)]]:=rfl
theorem NJ {l:List Stp} {i:Nat} {s:Stp} (h:l[i]?=some s):fJ (bT l) i=some (EM s):=by
 rw[gH];simp[bT,h]
end Go.Av
namespace Go.Proofs.YtjdfjgmebalaaaaGreat.P
open Go Go.Av Go.Av.Mk
set_option maxRecDepth 4000
set_option maxHeartbeats 1000000
theorem AR6 {w:World} {s:Stp} {vs:List Value} {F:List Nat} (h:TCells w (EM s) vs F):∃ u,vs=[.int .i64 s.1,u]∧TCells w [.isl (aF s.2)] [u] F:=by
 simp only[EM]at h
 cases h with
 | @lit _ _ v1 _ o1 h1 =>
  have hl:=h1.length
  cases v1 with
  | nil=>simp at hl
  | cons u r =>
   cases r with
   | cons=>simp at hl
   | nil=>exact⟨u,rfl,h1⟩
theorem AE7:∃ c0 c1 cc body c3 cend,MLoop C0 31 2 27 (GS 31) Tryz.f31 c0 c1 cc body c3 cend∧∀ x:Stp,QK C0 EM IC o8 2 27 body x:=by
 refine⟨_,_,_,_,_,_,{ func:=Tryz.func31,code:=rfl,ntmps:=rfl,big:=by omega,results:=rfl,ok0:=⟨by kernel_rfl,rfl⟩,ok1:=⟨by kernel_rfl,rfl⟩,okc:=⟨by kernel_rfl,rfl⟩,ok3:=⟨by kernel_rfl,rfl⟩,oke:=⟨by kernel_rfl,rfl⟩,x0:=?_,x1:=?_,xc:=?_,xo:=?_,x3:=?_,xe:=?_,xf:=?_,nil:=?_ },?_⟩
 ·intro n R q;simp[MS]
 ·intro n R q;simp[MS]
 ·intro n i R q hi;simp[MS,hi]
 ·intro n R q;simp[MS]
 ·intro n i R q hi;have w6:IntKind.i64.wrap ((i:Int)+1)=i+1:=wrO;simp[MS,w6]
 ·intro n R q;simp[MS]
 ·intro n R q;simp[MS]
 ·intro k;rw[aD rfl Tryz.func31 rfl rfl];simp;rw[aG];simp
 ·intro x b N n i us vs q F a w hin g hvs hT hnd hbF h0 h1;have hlen:=g.len;have hfit:=g.fit;have h1:q+((1+x.2.length:Nat):Int)<1000000000000:=h1;obtain⟨u,rfl,hu⟩:=AR6 hT;have hR:=iF 2 n us i hin;rw[hvs]at hR;have hset:=nQ 2 n us [.int .i64 q,u] i hin (by omega) rfl;simp only[yR,zB0]at hR hset;have w2:IntKind.i64.wrap (q+1)=q+1:=wrO;have rr:=g.to;generalize hRR:rowsOf 2 n us=R at hR hset rr;have hRl:R.length=n:=by rw[← hRR,eT]
  have hRs:∀ r:List IV,fJ (R.set i r) i=some r:=fun r=>by rw[gH,zC0 (by omega)]
  refine wp_seq (wp_mono (nD eO (lU b N) (G:=GS 31) (S':=MS 2 n (R.set i [.int q, .lit u]) q .junk (.int i) .junk) (e:=.normal) (by kernel_rfl) (by simp[MS,hin,hR,hRs,w2]) rr) ?_);rintro _ x1 y1 ⟨rfl,r1⟩;refine wp_seq (wp_mono (nD eO (lU b N) (G:=GS 31) (S':=MS 2 n (R.set i [.int q, .lit u]) (q+1) .junk (.int i) .junk) (e:=.normal) (by kernel_rfl) (by simp[MS,hin,hR,hRs,w2]) r1) ?_);rintro _ x2 y2 ⟨rfl,r2⟩;obtain⟨us8,g8,e8,f8⟩:=g.of (vs:=us.take (2*i)++[.int .i64 q,u]++us.drop (2*(i+1))) (q':=q+1) (i':=i) r2.1 rfl rfl rfl (by rw[← hset];rfl);rw[DN (W:=2) (us:=us) (V:=[.int .i64 q,u]) hin (by omega) rfl]at e8;have hR8:=iF 2 n us8 i hin
  have hrow8:(us8.drop (2*i)).take 2=[.int .i64 q,u]:=by
   have:(us8.drop (2*i)).take 2=((us8.take (2*n)).drop (2*i)).take 2:=by rw[yI,zK,yT (by omega)]
   rw[this,e8,yZ,xM (by simp;omega)];rfl
  rw[hrow8]at hR8;simp only[yR,zB0]at hR8
  refine wp_mono (wE eO (s:=x.2.length) (K:=fun _ w2=>TCells w2 [.isl ((FJ (q+1) x.2).map ALY)] [u] F) (u:=u) (Fu:=F) g8 (os1:=[_,_,_,_,_,_]) rfl (by kernel_rfl) (zN 1)
   (R1:=⟨upd (upd (upd (upd (upd (upd (aZ (MS 2 n (rowsOf 2 n us8) (q+1) .junk (.int i) .junk).env) 19 (.osl 0 2 0 n)) 20 (.int i)) 21 (.ownE 0 2 i 0)) 22 (.ownE 0 2 i 1)) 23 (.i (.lit u))) 24 (.int (q+1)),bF (MS 2 n (rowsOf 2 n us8) (q+1) .junk (.int i) .junk).st,[]⟩)
   (by simp[MS,hin,hR8]) rfl rfl rfl rfl rfl rfl (by decide) (by decide) (by decide) (by decide) (by decide) Tryz.func30 (by decide) (by intro h;cases h) ?_ hbF) ?_
  ·intro w1 f1
   have hu1:TCells w1 [.isl (aF x.2)] [u] F:=hu.mono fun f hf=>by
    have hlt:=tlt hu f hf;rw[f1.same f (zJ hlt f8.size) (by simp;intro e;subst e;exact hbF hf),f8.same f hlt (by simp;intro e;subst e;exact hbF hf)]
   rw[nU]at hu1;refine(AAN x.2 w1 u F _ hu1 hnd (by omega) (by rw[nP];push_cast at h1 ⊢;omega)).mono ?_;rintro en w2 ⟨p1,p2,p3,_⟩;rw[nP]at p1;exact⟨p1,p2,p3⟩
  ·rintro e a' w' ⟨rfl,us',g',e',w1,f1,f2,hK⟩;have hq:q+1+(x.2.length:Nat)=q+(o8 x:Nat):=by unfold o8;push_cast;omega
   rw[hq]at g';refine⟨rfl,us',_,g',by rw[e',e8],?_,(f8.sub (by simp)).trans ((f1.sub (by simp)).trans (f2.sub fun f hf=>by simp[hf]))⟩;simp only[EM,IC,nU];exact .lit rfl hK
theorem ANA:rD C0 EM IC o8 31:=by
 obtain⟨c0,c1,cc,body,c3,cend,L,hR⟩:=AE7;exact rD.of eO (by decide) L (fun _=>rfl) (by omega) (fun e=>by unfold o8;omega) hR
end Go.Proofs.YtjdfjgmebalaaaaGreat.P
namespace Go.Av
theorem FW:∀ (l:List Int) (i:Nat) (x:Int),(aF l).set i [.int x]=aF (l.set i x)
 | [],i,x=>by simp[aF]
 | a::l,0,x=>by simp[aF]
 | a::l,i+1,x=>by simp[aF,FW l i x]
end Go.Av
namespace Go.Proofs.YtjdfjgmebalaaaaGreat
open Go Go.Av
set_option maxRecDepth 4000
set_option maxHeartbeats 2000000
def xv (a b:Nat):AV:=if b=a then .osl 0 2 0 a else .osl 1 2 0 b
def wi (n:Nat):Nat:=if n=0 then 1 else 2
end Go.Proofs.YtjdfjgmebalaaaaGreat
namespace Go.Av
end Go.Av
namespace Go.Proofs.YtjdfjgmebalaaaaGreat
open Go Go.Av
set_option maxRecDepth 4000
set_option maxHeartbeats 2000000
set_option maxHeartbeats 4000000
end Go.Proofs.YtjdfjgmebalaaaaGreat
namespace Go.Av
end Go.Av
namespace Go.Proofs.YtjdfjgmebalaaaaGreat
open Go Go.Av
set_option maxRecDepth 4000
set_option maxHeartbeats 2000000
end Go.Proofs.YtjdfjgmebalaaaaGreat
namespace Go.Proofs.YtjdfjgmebalaaaaGreat.P
open Go Go.Av
set_option maxRecDepth 4000
theorem qG (n:Int):n=1∨n=2∨n=3∨n=4∨n=5∨n=6∨n=7∨n=8∨(n≠1∧n≠2∧n≠3∧n≠4∧n≠5∧n≠6∧n≠7∧n≠8):=by omega
@[simp] theorem AD7 (n:Int):aI C0 146 [.int n] []=some (.tup [.int (eF n), .int (iN n)],[]):=by
  rw[aD rfl Tryz.func146 rfl rfl]
  rcases qG n with rfl|rfl|rfl|rfl|rfl|rfl|rfl|rfl|⟨h1,h2,h3,h4,h5,h6,h7,h8⟩
  all_goals first
   | (simp[eF,iN];done)
   | (have e1:eF n=0:=by unfold eF;rw[if_neg (by omega)]
      have e2:iN n=-1:=by unfold iN;rw[if_neg (by omega),if_neg (by omega),if_neg (by omega)]
      simp[e1,e2,h1,h2,h3,h4,h5,h6,h7,h8])
def pv (cs:List Int) (i:Nat):Int:=((-1)::cs)[i]?.getD 0
theorem AAB {cs:List Int} {i:Nat} {c:Int} (h:cs[i]?=some c):pv cs (i+1)=c:=by simp[pv,h]
theorem wD {cs:List Int} {i:Nat} {x:Int×Int} (h:(cs.zip (-1::cs))[i]?=some x):cs[i]?=some x.1∧pv cs i=x.2:=by
 rw[List.getElem?_zip_eq_some]at h;exact⟨h.1,by simp[pv,h.2]⟩
theorem VC (cs:List Int):(cs.zip (-1::cs)).length=cs.length:=by simp
def GX (cs:List Int) (w:Int) (i:Nat):AS :=
 { env:=[(0, .i (.isl (aF cs))),(1, .int w),(4, .bool false),(5, .int (pv cs i)),(7,jk i (.int (pv cs i))),(10, .bool false),(11, .i (.isl (aF cs))),(12, .int cs.length),(13, .int i),(14,jk i (.bool true)),(24,jk i (.bool false))],st:=[] }
theorem sD (cs:List Int) (w:Int):aI C0 174 [.i (.isl (aF cs)), .int w] []=some (.bool (decide (cs.length<6) && pV w cs),[]):=by
 rw[aD rfl Tryz.func174 rfl rfl];by_cases h6:cs.length<6
 case neg=>simp[h6,show(6:Int)≤cs.length by omega]
 simp[h6,show ¬ (6:Int)≤cs.length by omega];obtain⟨j,h1,h2⟩:=gK (fun x:Int×Int=>decide (x.2<x.1∧x.1<w)) (cs.zip (-1::cs));rw[aS (GX cs w) j (by simp[GX,pv])]
 ·rw[aG]
  rcases h2 with ⟨hj,ha⟩|⟨x,h3,_,h4,ha⟩
  ·rw[VC]at hj;have ha:pV w cs=true:=ha;simp[GX,hj,ha]
  ·obtain⟨c1,c2⟩:=wD h3;have r1:=(zY.1 c1).1;have r2:=bH c1;have hb:¬ (x.2<x.1∧x.1<w):=by simpa using h4
   have ha:pV w cs=false:=ha;by_cases hx:x.1≤x.2
   ·simp[GX,r1,r2,c2,hx,ha]
   ·simp[GX,r1,r2,c2,hx,ha,show w≤x.1 by omega]
 ·intro i hi;obtain⟨x,h3,_,h4⟩:=h1 i hi;obtain⟨c1,c2⟩:=wD h3;have r1:=(zY.1 c1).1;have r2:=bH c1;have c3:=AAB c1;have hb:x.2<x.1∧x.1<w:=by simpa using h4
  have w2:IntKind.i64.wrap ((i:Int)+1)=i+1:=wrO;simp[GX,r1,r2,c2,c3,w2,show ¬ x.1≤x.2 by omega,show ¬ w≤x.1 by omega]
def WX (p:Pn) (a b y:Int) (x14:Bool) (n21 n22:Nat) (x22:Bool) (n26 n27:Nat) (x27:Bool) (i:Nat):AS :=
 { env:=[(0, .i (.iref [.int p.kind, .int p.table, .isl (Ex.aB p.exprs), .isl (aF p.cols), .isl (Pn.aB p.kids)])),(1, .int a),(2, .int b),(6, .int 0),(7, .int y),(8,jk i (.int (i-1))),(13, .int p.kind),(14, .bool x14),(21,jk n21 (.bool false)),(22,jk n22 (.bool x22)),(26,jk n26 (.bool false)),(27,jk n27 (.bool x27)),(35, .junk),(46, .int p.exprs.length),(47, .int i),(48,jk i (.bool true)),(59,jk i (.bool false)),(65, .junk)],st:=[] }
theorem gD (p:Pn) (a b:Int) (ha:0≤a∧a≤6) (hb:0≤b∧b≤6) (hd:p.headOk=true):aI C0 147 [.i (.iref p.cells), .int a, .int b] []=some (.int (bS p.kind p.exprs p.cols a b),[]):=by
 rw[aD rfl Tryz.func147 rfl rfl];have he:=Pn.qN hd;rw[Pn.aA];have hg:=sD p.cols a;have w1:IntKind.i64.wrap (a+b)=a+b:=wrO;by_cases h6:p.kind=6
 ·have h8:p.kind≠8:=by omega
  have h4:p.kind≠5:=by omega
  have hz:p.exprs=[]:=by
   simp only[Pn.headOk,zT,zL,h6]at hd;have:=hd.2.1;simp[eF]at this;exact this
  by_cases hab:a=b
  ·subst hab;simp[h6];rw[aG];simp[hz,h6,bS]
  ·simp[h6,hab,bS]
 by_cases h8:p.kind=8
 ·by_cases h9:p.cols.length<6
  ·have w3:IntKind.i64.wrap ((p.cols.length:Int)+1)=p.cols.length+1:=wrO
   cases hc:pV a p.cols<;>simp[h8,hg,h9,hc,bS,w3]
  ·simp[h8,hg,h9,bS]
 by_cases h45:p.kind=4∨p.kind=5
 ·by_cases hs:a+b≤6
  case neg=>rcases h45 with h4|h4<;>simp[h4,w1,show 6<a+b by omega,bS,hs]
  have h4:True:=trivial
  rcases h45 with h45|h45
  ·simp[h45,w1,show ¬ 6<a+b by omega];obtain⟨j,h1,h2⟩:=gK (Ex.ok (a+b)) p.exprs;rw[aS (WX p a b (a+b) true 1 0 false 0 0 false) j (by simp[WX,h45])]
   ·rw[aG]
    rcases h2 with ⟨hj,hall⟩|⟨x,h3,_,h5,hall⟩
    ·simp[WX,hj,hall,bS,h45,hs]
    ·have r1:=(zY.1 h3).1;have r2:=Ex.aN h3;have r3:=ok_eq (a+b) x;rw[h5]at r3;rw[Ex.aA]at r2 r3;simp[WX,r1,r2,r3,hall,bS,h45,hs]
   ·intro i hi;obtain⟨x,h3,_,h5⟩:=h1 i hi;have r1:=(zY.1 h3).1;have r2:=Ex.aN h3;have r3:=ok_eq (a+b) x;rw[h5]at r3;rw[Ex.aA]at r2 r3;have w2:IntKind.i64.wrap ((i:Int)+1)=i+1:=wrO;simp[WX,r1,r2,r3,w2,h45]
  ·simp[h45,w1,show ¬ 6<a+b by omega];obtain⟨j,h1,h2⟩:=gK (Ex.ok (a+b)) p.exprs;rw[aS (WX p a b (a+b) true 1 0 false 0 0 false) j (by simp[WX,h45])]
   ·rw[aG]
    rcases h2 with ⟨hj,hall⟩|⟨x,h3,_,h5,hall⟩
    ·simp[WX,hj,hall,bS,h45,hs]
    ·have r1:=(zY.1 h3).1;have r2:=Ex.aN h3;have r3:=ok_eq (a+b) x;rw[h5]at r3;rw[Ex.aA]at r2 r3;simp[WX,r1,r2,r3,hall,bS,h45,hs]
   ·intro i hi;obtain⟨x,h3,_,h5⟩:=h1 i hi;have r1:=(zY.1 h3).1;have r2:=Ex.aN h3;have r3:=ok_eq (a+b) x;rw[h5]at r3;rw[Ex.aA]at r2 r3;have w2:IntKind.i64.wrap ((i:Int)+1)=i+1:=wrO;simp[WX,r1,r2,r3,w2,h45]
 have h4:p.kind≠4:=by omega
 have h5':p.kind≠5:=by omega
 simp[h6,h8,h4,h5'];obtain⟨j,h1,h2⟩:=gK (Ex.ok (a)) p.exprs;rw[aS (WX p a b a false 0 1 false 0 1 false) j (by simp[WX,h6,h8,h5'])]
 ·rw[aG]
  rcases h2 with ⟨hj,hall⟩|⟨x,h3,_,h5,hall⟩
  ·by_cases h3':p.kind=3
   ·simp[WX,hj,hall,bS,h3']
   ·simp[WX,hj,hall,bS,h6,h8,h4,h5',h3']
  ·have r1:=(zY.1 h3).1;have r2:=Ex.aN h3;have r3:=ok_eq (a) x;rw[h5]at r3;rw[Ex.aA]at r2 r3;by_cases h3':p.kind=3
   ·simp[WX,r1,r2,r3,hall,bS,h3']
   ·simp[WX,r1,r2,r3,hall,bS,h6,h8,h4,h5',h3']
 ·intro i hi;obtain⟨x,h3,_,h5⟩:=h1 i hi;have r1:=(zY.1 h3).1;have r2:=Ex.aN h3;have r3:=ok_eq (a) x;rw[h5]at r3;rw[Ex.aA]at r2 r3;have w2:IntKind.i64.wrap ((i:Int)+1)=i+1:=wrO;simp[WX,r1,r2,r3,w2]
set_option maxHeartbeats 2000000
@[simp] theorem AS2:iN 1=0:=by decide
@[simp] theorem AQN:eF 1=0:=by decide
@[simp] theorem AS1:iN 2=1:=by decide
@[simp] theorem AQM:eF 2=1:=by decide
@[simp] theorem AS0:iN 3=1:=by decide
@[simp] theorem AQL:eF 3=1:=by decide
@[simp] theorem ARZ:iN 4=2:=by decide
@[simp] theorem AQK:eF 4=1:=by decide
@[simp] theorem ARY:iN 5=2:=by decide
@[simp] theorem AQJ:eF 5=1:=by decide
@[simp] theorem ARX:iN 6=2:=by decide
@[simp] theorem AQI:eF 6=0:=by decide
@[simp] theorem ARW:iN 7=1:=by decide
@[simp] theorem AQH:eF 7=0:=by decide
@[simp] theorem ARV:iN 8=1:=by decide
@[simp] theorem AQG:eF 8=0:=by decide
theorem UF {k:Int} (h:k≠1∧k≠2∧k≠3∧k≠4∧k≠5∧k≠6∧k≠7∧k≠8):iN k=-1:=by
 unfold iN;rw[if_neg (by omega),if_neg (by omega),if_neg (by omega)]
theorem TC {ws:List Int} {t:Int} {es:List Ex} {cs:List Int} {ks:List Pn} {lv:Nat} {k:Int} (h:k≠1∧k≠2∧k≠3∧k≠4∧k≠5∧k≠6∧k≠7∧k≠8):aI C0 109 [.i (.iref [.int k, .int t, .isl (Ex.aB es), .isl (aF cs), .isl (Pn.aB ks)]), .i (.isl (aF ws)), .int lv] []=some (.int 0,[]):=by
 rw[aD rfl Tryz.func109 rfl rfl];have c1:¬ (ks.length:Int)=-1:=by omega
 have hn:=UF h;simp[h.2.2.1,hn,c1]
theorem ACJ {ws:List Int} {t:Int} {es:List Ex} {cs:List Int} {ks:List Pn} {lv:Nat} (h:¬ ((ks.length:Int)=0∧(es.length:Int)=0∧True∧cs=[])):aI C0 109 [.i (.iref [.int 1, .int t, .isl (Ex.aB es), .isl (aF cs), .isl (Pn.aB ks)]), .i (.isl (aF ws)), .int lv] []=some (.int 0,[]):=by
 rw[aD rfl Tryz.func109 rfl rfl];by_cases c1:(ks.length:Int)=0
 case neg=>simp at c1;simp[c1]
 by_cases c2:(es.length:Int)=0
 case neg=>simp at c2;simp[c1,c2]
 by_cases c5:cs=[]
 case neg=>simp[c1,c2,c5]
 exact absurd (by simp[c1,c2,c5]) h
theorem ACI {ws:List Int} {t:Int} {es:List Ex} {cs:List Int} {ks:List Pn} {lv:Nat} (h:¬ ((ks.length:Int)=1∧(es.length:Int)=1∧lv≠0∧t=0∧cs=[])):aI C0 109 [.i (.iref [.int 2, .int t, .isl (Ex.aB es), .isl (aF cs), .isl (Pn.aB ks)]), .i (.isl (aF ws)), .int lv] []=some (.int 0,[]):=by
 rw[aD rfl Tryz.func109 rfl rfl];by_cases c1:(ks.length:Int)=1
 case neg=>simp[c1]
 by_cases c2:(es.length:Int)=1
 case neg=>simp[c1,c2]
 by_cases c3:lv=0
 case pos=>subst c3;simp[c1,c2]
 have c3':¬ (lv:Int)=0:=by omega
 by_cases c4:t=0
 case neg=>simp[c1,c2,c3,c3',c4]
 by_cases c5:cs=[]
 case neg=>simp[c1,c2,c3,c3',c4,c5]
 exact absurd (by simp[c1,c2,c3,c3',c4,c5]) h
theorem ACH {ws:List Int} {t:Int} {es:List Ex} {cs:List Int} {ks:List Pn} {lv:Nat} (h:¬ ((ks.length:Int)=1∧(es.length:Int)=(if bJ es.length=true then(es.length:Int)else 1)∧lv≠0∧t=0∧cs=[])):aI C0 109 [.i (.iref [.int 3, .int t, .isl (Ex.aB es), .isl (aF cs), .isl (Pn.aB ks)]), .i (.isl (aF ws)), .int lv] []=some (.int 0,[]):=by
 rw[aD rfl Tryz.func109 rfl rfl]
 cases hv:bJ es.length
 ·have hq:(es.length:Int)≠1:=fun hq=>by rw[hq]at hv;simp[bJ]at hv
  by_cases c1:(ks.length:Int)=1
  case neg=>simp[hv,c1]
  simp[hv,c1,hq]
 by_cases c1:(ks.length:Int)=1
 case neg=>simp[hv,c1]
 by_cases c3:lv=0
 case pos=>subst c3;simp[hv,c1]
 have c3':¬ (lv:Int)=0:=by omega
 by_cases c4:t=0
 case neg=>simp[hv,c1,c3,c3',c4]
 by_cases c5:cs=[]
 case neg=>simp[hv,c1,c3,c3',c4,c5]
 exact absurd (by simp[hv,c1,c3,c4,c5]) h
theorem ACG {ws:List Int} {t:Int} {es:List Ex} {cs:List Int} {ks:List Pn} {lv:Nat} (h:¬ ((ks.length:Int)=2∧(es.length:Int)=1∧lv≠0∧t=0∧cs=[])):aI C0 109 [.i (.iref [.int 4, .int t, .isl (Ex.aB es), .isl (aF cs), .isl (Pn.aB ks)]), .i (.isl (aF ws)), .int lv] []=some (.int 0,[]):=by
 rw[aD rfl Tryz.func109 rfl rfl];by_cases c1:(ks.length:Int)=2
 case neg=>simp[c1]
 by_cases c2:(es.length:Int)=1
 case neg=>simp[c1,c2]
 by_cases c3:lv=0
 case pos=>subst c3;simp[c1,c2]
 have c3':¬ (lv:Int)=0:=by omega
 by_cases c4:t=0
 case neg=>simp[c1,c2,c3,c3',c4]
 by_cases c5:cs=[]
 case neg=>simp[c1,c2,c3,c3',c4,c5]
 exact absurd (by simp[c1,c2,c3,c3',c4,c5]) h
theorem ACF {ws:List Int} {t:Int} {es:List Ex} {cs:List Int} {ks:List Pn} {lv:Nat} (h:¬ ((ks.length:Int)=2∧(es.length:Int)=1∧lv≠0∧t=0∧cs=[])):aI C0 109 [.i (.iref [.int 5, .int t, .isl (Ex.aB es), .isl (aF cs), .isl (Pn.aB ks)]), .i (.isl (aF ws)), .int lv] []=some (.int 0,[]):=by
 rw[aD rfl Tryz.func109 rfl rfl];by_cases c1:(ks.length:Int)=2
 case neg=>simp[c1]
 by_cases c2:(es.length:Int)=1
 case neg=>simp[c1,c2]
 by_cases c3:lv=0
 case pos=>subst c3;simp[c1,c2]
 have c3':¬ (lv:Int)=0:=by omega
 by_cases c4:t=0
 case neg=>simp[c1,c2,c3,c3',c4]
 by_cases c5:cs=[]
 case neg=>simp[c1,c2,c3,c3',c4,c5]
 exact absurd (by simp[c1,c2,c3,c3',c4,c5]) h
theorem ACE {ws:List Int} {t:Int} {es:List Ex} {cs:List Int} {ks:List Pn} {lv:Nat} (h:¬ ((ks.length:Int)=2∧(es.length:Int)=0∧lv≠0∧t=0∧cs=[])):aI C0 109 [.i (.iref [.int 6, .int t, .isl (Ex.aB es), .isl (aF cs), .isl (Pn.aB ks)]), .i (.isl (aF ws)), .int lv] []=some (.int 0,[]):=by
 rw[aD rfl Tryz.func109 rfl rfl];by_cases c1:(ks.length:Int)=2
 case neg=>simp[c1]
 by_cases c2:(es.length:Int)=0
 case neg=>simp at c2;simp[c1,c2]
 by_cases c3:lv=0
 case pos=>subst c3;simp[c1,c2]
 have c3':¬ (lv:Int)=0:=by omega
 by_cases c4:t=0
 case neg=>simp[c1,c2,c3,c3',c4]
 by_cases c5:cs=[]
 case neg=>simp[c1,c2,c3,c3',c4,c5]
 exact absurd (by simp[c1,c2,c3,c3',c4,c5]) h
theorem ACD {ws:List Int} {t:Int} {es:List Ex} {cs:List Int} {ks:List Pn} {lv:Nat} (h:¬ ((ks.length:Int)=1∧(es.length:Int)=0∧lv≠0∧t=0∧cs=[])):aI C0 109 [.i (.iref [.int 7, .int t, .isl (Ex.aB es), .isl (aF cs), .isl (Pn.aB ks)]), .i (.isl (aF ws)), .int lv] []=some (.int 0,[]):=by
 rw[aD rfl Tryz.func109 rfl rfl];by_cases c1:(ks.length:Int)=1
 case neg=>simp[c1]
 by_cases c2:(es.length:Int)=0
 case neg=>simp at c2;simp[c1,c2]
 by_cases c3:lv=0
 case pos=>subst c3;simp[c1,c2]
 have c3':¬ (lv:Int)=0:=by omega
 by_cases c4:t=0
 case neg=>simp[c1,c2,c3,c3',c4]
 by_cases c5:cs=[]
 case neg=>simp[c1,c2,c3,c3',c4,c5]
 exact absurd (by simp[c1,c2,c3,c3',c4,c5]) h
theorem ACC {ws:List Int} {t:Int} {es:List Ex} {cs:List Int} {ks:List Pn} {lv:Nat} (h:¬ ((ks.length:Int)=1∧(es.length:Int)=0∧lv≠0∧t=0)):aI C0 109 [.i (.iref [.int 8, .int t, .isl (Ex.aB es), .isl (aF cs), .isl (Pn.aB ks)]), .i (.isl (aF ws)), .int lv] []=some (.int 0,[]):=by
 rw[aD rfl Tryz.func109 rfl rfl];by_cases c1:(ks.length:Int)=1
 case neg=>simp[c1]
 by_cases c2:(es.length:Int)=0
 case neg=>simp at c2;simp[c1,c2]
 by_cases c3:lv=0
 case pos=>subst c3;simp[c1,c2]
 have c3':¬ (lv:Int)=0:=by omega
 by_cases c4:t=0
 case neg=>simp[c1,c2,c3,c3',c4]
 exact absurd (by simp[c1,c2,c3,c3',c4]) h
theorem YF {ws:List Int} {t:Int} {lv:Nat}:aI C0 109 [.i (.iref [.int 1, .int t, .isl (Ex.aB []), .isl (aF []), .isl (Pn.aB [])]), .i (.isl (aF ws)), .int lv] []=some (.int (if 0≤t then(ws[t.toNat]?).getD 0 else 0),[]):=by
 rw[aD rfl Tryz.func109 rfl rfl];by_cases h0:0≤t
 case neg=>simp[Ex.aB,Pn.aB,aF,h0,show t<0 by omega]
 cases hx:ws[t.toNat]? with
 | none =>
  have:=xE.1 hx;simp[Ex.aB,Pn.aB,aF,h0,show ¬ t<0 by omega,show(ws.length:Int)≤t by omega]
 | some x =>
  have r1:=(zY.1 hx).1;have r2:=bH hx;simp[Ex.aB,Pn.aB,aF,h0,show ¬ t<0 by omega,show ¬ (ws.length:Int)≤t by omega,r2,show t<ws.length by omega]
theorem YE {ws:List Int} {es:List Ex} {a:Pn} {lv:Nat} {va:Int} (hl:lv≠0) (hl8:lv≤8) (hd:Pn.headOk (Pn.mk 2 0 es [] [a])=true) (ha:aI C0 109 [.i (.iref a.cells), .i (.isl (aF ws)), .int (lv-1:Nat)] []=some (.int va,[])) (ra:0≤va∧va≤6):aI C0 109 [.i (.iref [.int 2, .int 0, .isl (Ex.aB es), .isl (aF []), .isl (Pn.aB [a])]), .i (.isl (aF ws)), .int lv] []=some (.int (if va=0 then 0 else bS 2 es [] va 0),[]):=by
 rw[aD rfl Tryz.func109 rfl rfl];have c3':¬ (lv:Int)=0:=by omega
 have w1:IntKind.i64.wrap ((lv:Int)-1)=(lv-1:Nat):=by rw[wrO];omega
 have r0:fJ [a.cells] 0=some a.cells:=rfl;have hov:=gD (Pn.mk 2 0 es [] [a]) va 0 ra (by omega) hd;rw[Pn.dY]at hov;simp only[Pn.fD,Pn.cO,Pn.fK,Pn.aB,aF,Ex.aB]at hov;rw[Pn.aA a]at ha hov r0
 have c2:(es.length:Int)=1:=by
  simp only[Pn.headOk,zT,zL,Pn.cO,Pn.fD]at hd;simpa using hd.2.1
 simp[c2,hl,c3',Pn.aB,aF,Ex.aB];rw[Pn.aA a];rw[aG];by_cases z1:va=0
 case pos=>simp[w1,ha,r0,z1]
 simp[w1,ha,r0,z1,dE];rw[aG];simp[hov,z1]
theorem YD {ws:List Int} {es:List Ex} {a:Pn} {lv:Nat} {va:Int} (hl:lv≠0) (hl8:lv≤8) (hd:Pn.headOk (Pn.mk 3 0 es [] [a])=true) (ha:aI C0 109 [.i (.iref a.cells), .i (.isl (aF ws)), .int (lv-1:Nat)] []=some (.int va,[])) (ra:0≤va∧va≤6):aI C0 109 [.i (.iref [.int 3, .int 0, .isl (Ex.aB es), .isl (aF []), .isl (Pn.aB [a])]), .i (.isl (aF ws)), .int lv] []=some (.int (if va=0 then 0 else bS 3 es [] va 0),[]):=by
 rw[aD rfl Tryz.func109 rfl rfl];have c3':¬ (lv:Int)=0:=by omega
 have w1:IntKind.i64.wrap ((lv:Int)-1)=(lv-1:Nat):=by rw[wrO];omega
 have r0:fJ [a.cells] 0=some a.cells:=rfl;have hov:=gD (Pn.mk 3 0 es [] [a]) va 0 ra (by omega) hd;rw[Pn.dY]at hov;simp only[Pn.fD,Pn.cO,Pn.fK,Pn.aB,aF,Ex.aB]at hov;rw[Pn.aA a]at ha hov r0
 have hv:bJ es.length=true∨(es.length:Int)=1:=by
  simp only[Pn.headOk,zT,zL,Pn.cO,Pn.fD]at hd;have:=hd.2.1;split at this
  ·rename_i h;exact .inl h.2
  ·exact .inr (by simpa using this)
 have hv:bJ es.length=true:=by
  rcases hv with h|h
  ·exact h
  ·rw[h];decide
 simp[hv,hl,c3',Pn.aB,aF,Ex.aB];rw[Pn.aA a];rw[aG];by_cases z1:va=0
 case pos=>simp[w1,ha,r0,z1]
 simp[w1,ha,r0,z1,dE];rw[aG];simp[hov,z1]
theorem YC {ws:List Int} {es:List Ex} {a b:Pn} {lv:Nat} {va vb:Int} (hl:lv≠0) (hl8:lv≤8) (hd:Pn.headOk (Pn.mk 4 0 es [] [a,b])=true) (ha:aI C0 109 [.i (.iref a.cells), .i (.isl (aF ws)), .int (lv-1:Nat)] []=some (.int va,[])) (ra:0≤va∧va≤6) (hb:aI C0 109 [.i (.iref b.cells), .i (.isl (aF ws)), .int (lv-1:Nat)] []=some (.int vb,[])) (rb:0≤vb∧vb≤6):aI C0 109 [.i (.iref [.int 4, .int 0, .isl (Ex.aB es), .isl (aF []), .isl (Pn.aB [a,b])]), .i (.isl (aF ws)), .int lv] []=some (.int (if va=0∨vb=0 then 0 else bS 4 es [] va vb),[]):=by
 rw[aD rfl Tryz.func109 rfl rfl];have c3':¬ (lv:Int)=0:=by omega
 have w1:IntKind.i64.wrap ((lv:Int)-1)=(lv-1:Nat):=by rw[wrO];omega
 have r0:fJ [a.cells,b.cells] 0=some a.cells:=rfl;have r1:fJ [a.cells,b.cells] 1=some b.cells:=rfl;have hov:=gD (Pn.mk 4 0 es [] [a,b]) va vb ra rb hd;rw[Pn.dY]at hov;simp only[Pn.fD,Pn.cO,Pn.fK,Pn.aB,aF,Ex.aB]at hov;rw[Pn.aA a]at ha hov r0 r1;rw[Pn.aA b]at hb hov r0 r1
 have c2:(es.length:Int)=1:=by
  simp only[Pn.headOk,zT,zL,Pn.cO,Pn.fD]at hd;simpa using hd.2.1
 simp[c2,hl,c3',Pn.aB,aF,Ex.aB];rw[Pn.aA a,Pn.aA b];rw[aG];by_cases z1:va=0
 case pos=>simp[w1,ha,r0,z1]
 simp[w1,ha,r0,z1,dE];rw[aG];by_cases z2:vb=0
 case pos=>simp[w1,hb,r1,z2]
 simp[w1,hb,r1,z1,z2,wrap64 (x:=2) (by omega) (by omega)];rw[aG];simp[hov,z1,z2]
theorem YB {ws:List Int} {es:List Ex} {a b:Pn} {lv:Nat} {va vb:Int} (hl:lv≠0) (hl8:lv≤8) (hd:Pn.headOk (Pn.mk 5 0 es [] [a,b])=true) (ha:aI C0 109 [.i (.iref a.cells), .i (.isl (aF ws)), .int (lv-1:Nat)] []=some (.int va,[])) (ra:0≤va∧va≤6) (hb:aI C0 109 [.i (.iref b.cells), .i (.isl (aF ws)), .int (lv-1:Nat)] []=some (.int vb,[])) (rb:0≤vb∧vb≤6):aI C0 109 [.i (.iref [.int 5, .int 0, .isl (Ex.aB es), .isl (aF []), .isl (Pn.aB [a,b])]), .i (.isl (aF ws)), .int lv] []=some (.int (if va=0∨vb=0 then 0 else bS 5 es [] va vb),[]):=by
 rw[aD rfl Tryz.func109 rfl rfl];have c3':¬ (lv:Int)=0:=by omega
 have w1:IntKind.i64.wrap ((lv:Int)-1)=(lv-1:Nat):=by rw[wrO];omega
 have r0:fJ [a.cells,b.cells] 0=some a.cells:=rfl;have r1:fJ [a.cells,b.cells] 1=some b.cells:=rfl;have hov:=gD (Pn.mk 5 0 es [] [a,b]) va vb ra rb hd;rw[Pn.dY]at hov;simp only[Pn.fD,Pn.cO,Pn.fK,Pn.aB,aF,Ex.aB]at hov;rw[Pn.aA a]at ha hov r0 r1;rw[Pn.aA b]at hb hov r0 r1
 have c2:(es.length:Int)=1:=by
  simp only[Pn.headOk,zT,zL,Pn.cO,Pn.fD]at hd;simpa using hd.2.1
 simp[c2,hl,c3',Pn.aB,aF,Ex.aB];rw[Pn.aA a,Pn.aA b];rw[aG];by_cases z1:va=0
 case pos=>simp[w1,ha,r0,z1]
 simp[w1,ha,r0,z1,dE];rw[aG];by_cases z2:vb=0
 case pos=>simp[w1,hb,r1,z2]
 simp[w1,hb,r1,z1,z2,wrap64 (x:=2) (by omega) (by omega)];rw[aG];simp[hov,z1,z2]
theorem YA {ws:List Int} {a b:Pn} {lv:Nat} {va vb:Int} (hl:lv≠0) (hl8:lv≤8) (hd:Pn.headOk (Pn.mk 6 0 [] [] [a,b])=true) (ha:aI C0 109 [.i (.iref a.cells), .i (.isl (aF ws)), .int (lv-1:Nat)] []=some (.int va,[])) (ra:0≤va∧va≤6) (hb:aI C0 109 [.i (.iref b.cells), .i (.isl (aF ws)), .int (lv-1:Nat)] []=some (.int vb,[])) (rb:0≤vb∧vb≤6):aI C0 109 [.i (.iref [.int 6, .int 0, .isl (Ex.aB []), .isl (aF []), .isl (Pn.aB [a,b])]), .i (.isl (aF ws)), .int lv] []=some (.int (if va=0∨vb=0 then 0 else bS 6 [] [] va vb),[]):=by
 rw[aD rfl Tryz.func109 rfl rfl];have c3':¬ (lv:Int)=0:=by omega
 have w1:IntKind.i64.wrap ((lv:Int)-1)=(lv-1:Nat):=by rw[wrO];omega
 have r0:fJ [a.cells,b.cells] 0=some a.cells:=rfl;have r1:fJ [a.cells,b.cells] 1=some b.cells:=rfl;have hov:=gD (Pn.mk 6 0 [] [] [a,b]) va vb ra rb hd;rw[Pn.dY]at hov;simp only[Pn.fD,Pn.cO,Pn.fK,Pn.aB,aF,Ex.aB]at hov;rw[Pn.aA a]at ha hov r0 r1;rw[Pn.aA b]at hb hov r0 r1;simp[hl,c3',Pn.aB,aF,Ex.aB];rw[Pn.aA a,Pn.aA b];rw[aG];by_cases z1:va=0
 case pos=>simp[w1,ha,r0,z1]
 simp[w1,ha,r0,z1,dE];rw[aG];by_cases z2:vb=0
 case pos=>simp[w1,hb,r1,z2]
 simp[w1,hb,r1,z1,z2,wrap64 (x:=2) (by omega) (by omega)];rw[aG];simp[hov,z1,z2]
theorem Y9 {ws:List Int} {a:Pn} {lv:Nat} {va:Int} (hl:lv≠0) (hl8:lv≤8) (hd:Pn.headOk (Pn.mk 7 0 [] [] [a])=true) (ha:aI C0 109 [.i (.iref a.cells), .i (.isl (aF ws)), .int (lv-1:Nat)] []=some (.int va,[])) (ra:0≤va∧va≤6):aI C0 109 [.i (.iref [.int 7, .int 0, .isl (Ex.aB []), .isl (aF []), .isl (Pn.aB [a])]), .i (.isl (aF ws)), .int lv] []=some (.int (if va=0 then 0 else bS 7 [] [] va 0),[]):=by
 rw[aD rfl Tryz.func109 rfl rfl];have c3':¬ (lv:Int)=0:=by omega
 have w1:IntKind.i64.wrap ((lv:Int)-1)=(lv-1:Nat):=by rw[wrO];omega
 have r0:fJ [a.cells] 0=some a.cells:=rfl;have hov:=gD (Pn.mk 7 0 [] [] [a]) va 0 ra (by omega) hd;rw[Pn.dY]at hov;simp only[Pn.fD,Pn.cO,Pn.fK,Pn.aB,aF,Ex.aB]at hov;rw[Pn.aA a]at ha hov r0;simp[hl,c3',Pn.aB,aF,Ex.aB];rw[Pn.aA a];rw[aG];by_cases z1:va=0
 case pos=>simp[w1,ha,r0,z1]
 simp[w1,ha,r0,z1,dE];rw[aG];simp[hov,z1]
theorem Y8 {ws:List Int} {cs:List Int} {a:Pn} {lv:Nat} {va:Int} (hl:lv≠0) (hl8:lv≤8) (hd:Pn.headOk (Pn.mk 8 0 [] cs [a])=true) (ha:aI C0 109 [.i (.iref a.cells), .i (.isl (aF ws)), .int (lv-1:Nat)] []=some (.int va,[])) (ra:0≤va∧va≤6):aI C0 109 [.i (.iref [.int 8, .int 0, .isl (Ex.aB []), .isl (aF cs), .isl (Pn.aB [a])]), .i (.isl (aF ws)), .int lv] []=some (.int (if va=0 then 0 else bS 8 [] cs va 0),[]):=by
 rw[aD rfl Tryz.func109 rfl rfl];have c3':¬ (lv:Int)=0:=by omega
 have w1:IntKind.i64.wrap ((lv:Int)-1)=(lv-1:Nat):=by rw[wrO];omega
 have r0:fJ [a.cells] 0=some a.cells:=rfl;have hov:=gD (Pn.mk 8 0 [] cs [a]) va 0 ra (by omega) hd;rw[Pn.dY]at hov;simp only[Pn.fD,Pn.cO,Pn.fK,Pn.aB,aF,Ex.aB]at hov;rw[Pn.aA a]at ha hov r0;simp[hl,c3',Pn.aB,aF,Ex.aB];rw[Pn.aA a];rw[aG];by_cases z1:va=0
 case pos=>simp[w1,ha,r0,z1]
 simp[w1,ha,r0,z1,dE];rw[aG];simp[hov,z1]
theorem lD (k t:Int) (es:List Ex) (cs:List Int) (ks:List Pn):Pn.headOk (.mk k t es cs ks)=true↔((ks.length:Int)=iN k∧(es.length:Int)=(if k=3∧bJ es.length=true then(es.length:Int)else eF k)∧(k=1∨t=0)∧(k=8∨cs=[])):=by
 unfold Pn.headOk;simp only[zT,zC6,zL];exact Iff.rfl
theorem kN {α:Type} {l:List α} (h:(l.length:Int)=1):∃ a,l=[a]:=List.length_eq_one_iff.1 (by omega)
theorem A8 {α:Type} {l:List α} (h:(l.length:Int)=2):∃ a b,l=[a,b]:=by
 match l,h with
 | [a,b],_=>exact⟨a,b,rfl⟩
 | [],h=>simp at h
 | [_],h=>simp at h
 | _::_::_::_,h=>simp at h;omega
theorem gB {α:Type} {l:List α} (h:(l.length:Int)=0):l=[]:=zW.1 (by omega)
theorem uP {ws:List Int} (hw:∀ w∈ws,0≤w∧w≤6):∀ (p:Pn) (lv:Nat),lv≤8→aI C0 109 [.i (.iref p.cells), .i (.isl (aF ws)), .int lv] []=some (.int (p.wd ws lv),[]):=by
 intro p
 induction p using Pn.ind with
 | h k t es cs ks ih =>
  intro lv hlv;rw[Pn.dY];by_cases hh:Pn.headOk (.mk k t es cs ks)=true∧(ks=[]∨lv≠0)
  case neg =>
   rw[Pn.WA hh];rw[lD]at hh
   rcases qG k with rfl|rfl|rfl|rfl|rfl|rfl|rfl|rfl|h
   ·refine ACJ fun h=>hh ?_
    have:=gB h.1;simp[h.2.1,h.2.2.2,this]
   ·exact ACI fun h=>hh (by simp[h.1,h.2.1,h.2.2.1,h.2.2.2.1,h.2.2.2.2])
   ·exact ACH fun h=>hh (by refine⟨⟨by simp[h.1],by simpa using h.2.1,by simp[h.2.2.2.1],by simp[h.2.2.2.2]⟩, .inr h.2.2.1⟩)
   ·exact ACG fun h=>hh (by simp[h.1,h.2.1,h.2.2.1,h.2.2.2.1,h.2.2.2.2])
   ·exact ACF fun h=>hh (by simp[h.1,h.2.1,h.2.2.1,h.2.2.2.1,h.2.2.2.2])
   ·exact ACE fun h=>hh (by simp[h.1,gB h.2.1,h.2.2.1,h.2.2.2.1,h.2.2.2.2])
   ·exact ACD fun h=>hh (by simp[h.1,gB h.2.1,h.2.2.1,h.2.2.2.1,h.2.2.2.2])
   ·exact ACC fun h=>hh (by simp[h.1,gB h.2.1,h.2.2.1,h.2.2.2])
   ·exact TC h
  have hd:=hh.1;have hx:=Pn.uR ws lv (.mk k t es cs ks);rw[if_pos (by simpa using hh)]at hx;simp only[Pn.fD,Pn.kS,Pn.cO,Pn.fK,Pn.iA]at hx;rw[hx];rw[lD]at hh;obtain⟨⟨h1,h2,h3,h4⟩,h5⟩:=hh;have hr:=fun a=>Pn.rE hw a (lv-1)
  rcases qG k with rfl|rfl|rfl|rfl|rfl|rfl|rfl|rfl|h
  ·obtain rfl:=gB (by simpa using h1);obtain rfl:es=[]:=gB (by simpa using h2);obtain rfl:cs=[]:=by simpa using h4
   exact YF
  ·obtain⟨a,rfl⟩:=kN (by simpa using h1);obtain rfl:cs=[]:=by simpa using h4
   obtain rfl:t=0:=by simpa using h3
   have hl:lv≠0:=by simpa using h5
   rw[YE hl hlv hd (ih a (by simp) (lv-1) (by omega)) (hr a)];by_cases z:a.wd ws (lv-1)=0<;>simp[z]
  ·obtain⟨a,rfl⟩:=kN (by simpa using h1);obtain rfl:cs=[]:=by simpa using h4
   obtain rfl:t=0:=by simpa using h3
   have hl:lv≠0:=by simpa using h5
   rw[YD hl hlv hd (ih a (by simp) (lv-1) (by omega)) (hr a)];by_cases z:a.wd ws (lv-1)=0<;>simp[z]
  ·obtain⟨a,b,rfl⟩:=A8 (by simpa using h1);obtain rfl:cs=[]:=by simpa using h4
   obtain rfl:t=0:=by simpa using h3
   have hl:lv≠0:=by simpa using h5
   rw[YC hl hlv hd (ih a (by simp) (lv-1) (by omega)) (hr a) (ih b (by simp) (lv-1) (by omega)) (hr b)];by_cases z:a.wd ws (lv-1)=0<;>by_cases z2:b.wd ws (lv-1)=0<;>simp[z,z2]
  ·obtain⟨a,b,rfl⟩:=A8 (by simpa using h1);obtain rfl:cs=[]:=by simpa using h4
   obtain rfl:t=0:=by simpa using h3
   have hl:lv≠0:=by simpa using h5
   rw[YB hl hlv hd (ih a (by simp) (lv-1) (by omega)) (hr a) (ih b (by simp) (lv-1) (by omega)) (hr b)];by_cases z:a.wd ws (lv-1)=0<;>by_cases z2:b.wd ws (lv-1)=0<;>simp[z,z2]
  ·obtain⟨a,b,rfl⟩:=A8 (by simpa using h1);obtain rfl:es=[]:=gB (by simpa using h2);obtain rfl:cs=[]:=by simpa using h4
   obtain rfl:t=0:=by simpa using h3
   have hl:lv≠0:=by simpa using h5
   rw[YA hl hlv hd (ih a (by simp) (lv-1) (by omega)) (hr a) (ih b (by simp) (lv-1) (by omega)) (hr b)];by_cases z:a.wd ws (lv-1)=0<;>by_cases z2:b.wd ws (lv-1)=0<;>simp[z,z2]
  ·obtain⟨a,rfl⟩:=kN (by simpa using h1);obtain rfl:es=[]:=gB (by simpa using h2);obtain rfl:cs=[]:=by simpa using h4
   obtain rfl:t=0:=by simpa using h3
   have hl:lv≠0:=by simpa using h5
   rw[Y9 hl hlv hd (ih a (by simp) (lv-1) (by omega)) (hr a)];by_cases z:a.wd ws (lv-1)=0<;>simp[z]
  ·obtain⟨a,rfl⟩:=kN (by simpa using h1);obtain rfl:es=[]:=gB (by simpa using h2);obtain rfl:t=0:=by simpa using h3
   have hl:lv≠0:=by simpa using h5
   rw[Y8 hl hlv hd (ih a (by simp) (lv-1) (by omega)) (hr a)];by_cases z:a.wd ws (lv-1)=0<;>simp[z]
  ·exact absurd h1 (by rw[UF h];omega)
def VX (ws:List Int) (i:Nat):AS :=
 { env:=[(0, .i (.isl (aF ws))),(2, .bool false),(4,jk i (.int (ws[i-1]?.getD 0))),(12, .bool false),(13, .i (.isl (aF ws))),(14, .int ws.length),(15, .int i),(16,jk i (.bool true)),(21,jk i (.bool false))],st:=[] }
theorem IA (ws:List Int):aI C0 108 [.i (.isl (aF ws))] []=some (.bool (kE ws),[]):=by
 rw[aD rfl Tryz.func108 rfl rfl];by_cases h1:ws.length=0
 ·have:=zW.1 h1;subst this;simp[aF,kE]
 by_cases h4:ws.length≤4
 case neg=>simp[kE,h4,show ¬ (ws.length:Int)<1 by omega,show 4<(ws.length:Int)by omega]
 simp[show ¬ (ws.length:Int)<1 by omega,show ¬ 4<(ws.length:Int)by omega];obtain⟨j,h1',h2⟩:=gK bJ ws;rw[aS (VX ws) j (by simp[VX])]
 ·rw[aG]
  rcases h2 with ⟨hj,ha⟩|⟨x,h3,_,h5,ha⟩
  ·simp[VX,hj,kE,h4,ha,show 1≤ws.length by omega]
  ·have r1:=(zY.1 h3).1;have r2:=bH h3;simp[VX,r1,r2,h5,kE,ha]
 ·intro i hi;obtain⟨x,h3,_,h5⟩:=h1' i hi;have r1:=(zY.1 h3).1;have r2:=bH h3;have w2:IntKind.i64.wrap ((i:Int)+1)=i+1:=wrO;have h3':ws[i]=x:=(zY.1 h3).2;simp[VX,r1,r2,h5,w2,h3']
theorem l8 {ws:List Int} (h:kE ws=true):∀ w∈ws,0≤w∧w≤6:=by
 intro w hw;simp only[kE,zT]at h;have:=zO.1 h.2 w hw;simp[bJ]at this;omega
theorem BU (p:Pn) (ws:List Int):aI C0 68 [.i (.agg p.cells), .i (.isl (aF ws))] []=some (.int (p.width ws),[]):=by
 rw[aD rfl Tryz.func68 rfl rfl];have hv:=IA ws
 cases h:kE ws with
 | false=>rw[h]at hv;rw[Pn.aA];simp[hv,Pn.width,h]
 | true =>
  rw[h]at hv;have hb:=uP (l8 h) p 8 (by omega);rw[show((8:Nat):Int)=8 from rfl]at hb;rw[Pn.aA]at hb ⊢;simp[hv,Pn.width,h,hb]
def only (k t:Int) (es:List Ex) (cs:List Int) (ks:List Pn):Bool:=decide (1≤k∧k≤8) && (decide ((ks.length:Int)=iN k) && (decide ((es.length:Int)=if k=3 then(es.length:Int)else eF k) && ((decide (t=0) || decide (k=1)) && (decide (cs=[]) || decide (k=8)))))
theorem dS (k t:Int) (es:List Ex) (cs:List Int) (ks:List Pn):aI C0 139 [.i (.agg [.int k, .int t, .isl (Ex.aB es), .isl (aF cs), .isl (Pn.aB ks)])] []=some (.bool (only k t es cs ks),[]):=by
 rw[aD rfl Tryz.func139 rfl rfl]
 rcases qG k with rfl|rfl|rfl|rfl|rfl|rfl|rfl|rfl|h
 case inr.inr.inr.inr.inr.inr.inr.inr =>
  have h1:¬ (1≤k∧k≤8):=by omega
  simp[h.1,h.2.1,h.2.2.1,h.2.2.2.1,h.2.2.2.2.1,h.2.2.2.2.2.1,h1,only]
 case inr.inr.inl =>
  by_cases c1:(ks.length:Int)=1
  case neg=>simp[c1,only]
  by_cases c3:t=0
  case neg=>simp[c1,c3,only]
  by_cases c5:cs=[]<;>simp[c1,c3,c5,only,aF]
 case inl =>
  by_cases c1:ks=[]
  case neg=>simp[c1,only]
  by_cases c2:es=[]
  case neg=>simp[c1,c2,only]
  by_cases c3:t=0<;>by_cases c5:cs=[]<;>simp[c1,c2,c3,c5,only,aF,Ex.aB,Pn.aB]
 case inr.inl =>
  by_cases c1:(ks.length:Int)=1
  case neg=>simp[c1,only]
  by_cases c2:(es.length:Int)=1
  case neg=>simp[c1,c2,only]
  by_cases c3:t=0
  case neg=>simp[c1,c2,c3,only]
  by_cases c5:cs=[]<;>simp[c1,c2,c3,c5,only,aF]
 case inr.inr.inr.inl =>
  by_cases c1:(ks.length:Int)=2
  case neg=>simp[c1,only]
  by_cases c2:(es.length:Int)=1
  case neg=>simp[c1,c2,only]
  by_cases c3:t=0
  case neg=>simp[c1,c2,c3,only]
  by_cases c5:cs=[]<;>simp[c1,c2,c3,c5,only,aF]
 case inr.inr.inr.inr.inl =>
  by_cases c1:(ks.length:Int)=2
  case neg=>simp[c1,only]
  by_cases c2:(es.length:Int)=1
  case neg=>simp[c1,c2,only]
  by_cases c3:t=0
  case neg=>simp[c1,c2,c3,only]
  by_cases c5:cs=[]<;>simp[c1,c2,c3,c5,only,aF]
 case inr.inr.inr.inr.inr.inl =>
  by_cases c1:(ks.length:Int)=2
  case neg=>simp[c1,only]
  by_cases c2:es=[]
  case neg=>simp[c1,c2,only]
  by_cases c3:t=0
  case neg=>simp[c1,c2,c3,only]
  by_cases c5:cs=[]<;>simp[c1,c2,c3,c5,only,aF,Ex.aB]
 case inr.inr.inr.inr.inr.inr.inl =>
  by_cases c1:(ks.length:Int)=1
  case neg=>simp[c1,only]
  by_cases c2:es=[]
  case neg=>simp[c1,c2,only]
  by_cases c3:t=0
  case neg=>simp[c1,c2,c3,only]
  by_cases c5:cs=[]<;>simp[c1,c2,c3,c5,only,aF,Ex.aB]
 case inr.inr.inr.inr.inr.inr.inr.inl =>
  by_cases c1:(ks.length:Int)=1
  case neg=>simp[c1,only]
  by_cases c2:es=[]
  case neg=>simp[c1,c2,only]
  by_cases c3:t=0
  case neg=>simp[c1,c2,c3,only]
  by_cases c5:cs=[]<;>simp[c1,c2,c3,c5,only,aF,Ex.aB]
theorem AJF {cs:List Int} {w:Int}:∀ {i:Nat},(∀ k,k<i→∃ x,(cs.zip (-1::cs))[k]?=some x∧x∈cs.zip (-1::cs)∧decide (x.2<x.1∧x.1<w)=true)→-1≤pv cs i∧(i≠0→0≤pv cs i)
 | 0,_=>by simp[pv]
 | i+1,h=>by
  obtain⟨x,h3,_,h4⟩:=h i (by omega);obtain⟨c1,c2⟩:=wD h3;rw[AAB c1];have hb:x.2<x.1∧x.1<w:=by simpa using h4
  have:=AJF (i:=i) fun k hk=>h k (by omega)
  omega
def CX (cs:List Int) (w:Int) (i:Nat):AS :=
 { env:=[(0, .i (.isl (aF cs))),(1, .int w),(4, .bool false),(5, .int i),(9,jk i (.bool true)),(35,jk i (.bool false))],st:=[] }
theorem NF (cs:List Int) (w:Int) (hl:cs.length<9223372036854775808) (hw:0≤w∧w≤6):aI C0 142 [.i (.isl (aF cs)), .int w] []=some (.bool (pV w cs),[]):=by
 rw[aD rfl Tryz.func142 rfl rfl];have w1:IntKind.i64.wrap (w-1)=w-1:=wrO;simp;obtain⟨j,h1,h2⟩:=gK (fun x:Int×Int=>decide (x.2<x.1∧x.1<w)) (cs.zip (-1::cs));rw[aS (CX cs w) j (by simp[CX])]
 ·rw[aG]
  rcases h2 with ⟨hj,ha⟩|⟨x,h3,_,h4,ha⟩
  ·rw[VC]at hj;have ha:pV w cs=true:=ha;simp[CX,hj,ha]
  ·obtain⟨c1,c2⟩:=wD h3;have r1:=(zY.1 c1).1;have r2:=bH c1;have hb:¬ (x.2<x.1∧x.1<w):=by simpa using h4
   have ha:pV w cs=false:=ha;have hp:=AJF (i:=j) h1;by_cases hin:0≤x.1∧x.1≤w-1
   ·have hj:j≠0:=fun h=>by subst h;simp[pv]at c2;omega
    obtain⟨j,rfl⟩:∃ i,j=i+1:=⟨j-1,by omega⟩
    have q1:cs[j]?=some x.2:=by
     have:pv cs (j+1)=x.2:=c2;simp only[pv,zA3]at this;rw[zX (by omega)]at this ⊢;simpa using this
    have q2:=bH q1;have w4:IntKind.i64.wrap ((j:Int)+1-1)=j:=by rw[wrO];omega
    have w5:IntKind.i64.wrap ((j:Int))=j:=by rw[wrO]
    simp[CX,r1,r2,w1,hin,ha,q2,w4,w5,show(0:Int)<j+1 by omega,show x.1≤x.2 by omega,show(0:Int)≤(j:Int)+1 by omega,show j<cs.length by omega,show((j:Int)+1<cs.length)by omega]
   ·simp[CX,r1,r2,w1,hin,ha]
 ·intro i hi;obtain⟨x,h3,_,h4⟩:=h1 i hi;obtain⟨c1,c2⟩:=wD h3;have r1:=(zY.1 c1).1;have r2:=bH c1;have hb:x.2<x.1∧x.1<w:=by simpa using h4
  have hp:=AJF (i:=i) fun k hk=>h1 k (by omega)
  have hin:0≤x.1∧x.1≤w-1:=by omega
  have w2:IntKind.i64.wrap ((i:Int)+1)=i+1:=wrO;by_cases h0:i=0
  ·subst h0;simp[CX,r1,r2,w1,hin,dE]
  ·obtain⟨i,rfl⟩:∃ j,i=j+1:=⟨i-1,by omega⟩
   have q1:cs[i]?=some x.2:=by
    have:pv cs (i+1)=x.2:=c2;simp only[pv,zA3]at this;rw[zX (by omega)]at this ⊢;simpa using this
   have q2:=bH q1;have w5:IntKind.i64.wrap ((i:Int))=i:=by rw[wrO]
   have w2':IntKind.i64.wrap ((i:Int)+1+1)=i+1+1:=wrO;simp[CX,r1,r2,w1,hin,q2,w5,w2',show(0:Int)<i+1 by omega,show ¬ x.1≤x.2 by omega,show(0:Int)≤(i:Int)+1 by omega,show i<cs.length by omega,show((i:Int)+1<cs.length)by omega]
def pW (es:List Ex) (w:Int):Int:=if es.all (Ex.ok w)=true∧es.length≤6 then(es.length:Int)else 0
def QX (es:List Ex) (w:Int) (i:Nat):AS :=
 { env:=[(0, .i (.isl (Ex.aB es))),(1, .int w),(4, .int 0),(5, .int i),(9,jk i (.bool true)),(18,jk i (.bool false)),(21, .junk)],st:=[] }
theorem FB (es:List Ex) (w:Int) (hl:es.length<9223372036854775808):aI C0 141 [.i (.isl (Ex.aB es)), .int w] []=some (.int (pW es w),[]):=by
 rw[aD rfl Tryz.func141 rfl rfl];simp;obtain⟨j,h1,h2⟩:=gK (Ex.ok w) es;rw[aS (QX es w) j (by simp[QX])]
 ·rw[aG]
  rcases h2 with ⟨hj,hall⟩|⟨x,h3,_,h5,hall⟩
  ·by_cases h6:es.length≤6
   ·have hq:pW es w=es.length:=if_pos ⟨hall,h6⟩;simp[QX,hj,hq,show ¬ (6:Int)<es.length by omega]
   ·have hq:pW es w=0:=if_neg fun h=>h6 h.2
    simp[QX,hj,hq,show(6:Int)<es.length by omega]
  ·have r1:=(zY.1 h3).1;have r2:=Ex.aN h3;have r3:=NU w x;rw[h5]at r3;rw[Ex.aA]at r2 r3;have hq:pW es w=0:=if_neg fun h=>by rw[hall]at h;simp at h
   simp[QX,r1,r2,r3,hq]
 ·intro i hi;obtain⟨x,h3,_,h5⟩:=h1 i hi;have r1:=(zY.1 h3).1;have r2:=Ex.aN h3;have r3:=NU w x;rw[h5]at r3;rw[Ex.aA]at r2 r3;have w2:IntKind.i64.wrap ((i:Int)+1)=i+1:=wrO;simp[QX,r1,r2,r3,w2]
def UX (ws:List Int) (i:Nat):AS :=
 { env:=[(0, .i (.isl (aF ws))),(2, .bool false),(3, .int i),(7,jk i (.bool true)),(15,jk i (.bool false))],st:=[] }
theorem EL (ws:List Int) (hl:ws.length<9223372036854775808):aI C0 121 [.i (.isl (aF ws))] []=some (.bool (kE ws),[]):=by
 rw[aD rfl Tryz.func121 rfl rfl];simp;obtain⟨j,h1',h2⟩:=gK bJ ws;rw[aS (UX ws) j (by simp[UX])]
 ·rw[aG]
  rcases h2 with ⟨hj,ha⟩|⟨x,h3,_,h5,ha⟩
  ·by_cases h4:1≤ws.length∧ws.length≤4
   ·simp[UX,hj,kE,h4,ha,show(1:Int)≤ws.length∧(ws.length:Int)≤4 by omega]
   ·simp[UX,hj,kE,h4,ha,show ¬ ((1:Int)≤ws.length∧(ws.length:Int)≤4)by omega]
  ·have r1:=(zY.1 h3).1;have r2:=bH h3;have h5:¬ (1≤x∧x≤6):=by simpa [bJ]using h5
   simp[UX,r1,r2,h5,kE,ha]
 ·intro i hi;obtain⟨x,h3,_,h5⟩:=h1' i hi;have r1:=(zY.1 h3).1;have r2:=bH h3;have h5:1≤x∧x≤6:=by simpa [bJ]using h5
  have w2:IntKind.i64.wrap ((i:Int)+1)=i+1:=wrO;simp[UX,r1,r2,h5,w2]
theorem AEF {ws:List Int} {k t:Int} {es:List Ex} {cs:List Int} {ks:List Pn} {lv:Nat} (h:¬ (only k t es cs ks=true∧(ks=[]∨lv≠0))):aI C0 104 [.i (.agg [.int k, .int t, .isl (Ex.aB es), .isl (aF cs), .isl (Pn.aB ks)]), .i (.isl (aF ws)), .int lv] []=some (.int 0,[]):=by
 rw[aD rfl Tryz.func104 rfl rfl];have ho:=dS k t es cs ks
 cases hq:only k t es cs ks with
 | false=>rw[hq]at ho;simp[ho]
 | true =>
  rw[hq]at ho;by_cases hk:ks=[]
  ·exact absurd ⟨hq, .inl hk⟩ h
  by_cases hl:lv=0
  ·have:0<ks.length:=zA1.2 hk;subst hl;simp[ho,hk,this]
  ·exact absurd ⟨hq, .inr hl⟩ h
theorem X5 {ws:List Int} {lv:Nat} {t:Int} (ho:only 1 t [] [] []=true) (hw:ws.length<1000000000):aI C0 104 [.i (.agg [.int 1, .int t, .isl (Ex.aB []), .isl (aF []), .isl (Pn.aB [])]), .i (.isl (aF ws)), .int lv] []=some (.int (if 0≤t then(ws[t.toNat]?).getD 0 else 0),[]):=by
 rw[aD rfl Tryz.func104 rfl rfl];have hf:=dS 1 t [] [] [];rw[ho]at hf;have w1:IntKind.i64.wrap ((ws.length:Int)-1)=ws.length-1:=wrO;simp only[Ex.aB,Pn.aB,aF]at hf ⊢;simp[hf,w1];rw[aG];by_cases h0:0≤t
 case neg=>simp[h0,w1]
 cases hx:ws[t.toNat]? with
 | none =>
  have:=xE.1 hx;simp[h0,w1,show ¬ t≤ws.length-1 by omega]
 | some x =>
  have r1:=(zY.1 hx).1;have r2:=bH hx;simp[h0,w1,show t≤ws.length-1 by omega,show t<ws.length by omega,r2]
theorem X4 {ws:List Int} {lv:Nat} {a:Pn} {va:Int} {e:Ex} (ho:only 2 0 [e] [] [a]=true) (hl:lv≠0) (hl8:lv≤8) (ha:aI C0 104 [.i (.agg a.cells), .i (.isl (aF ws)), .int (lv-1:Nat)] []=some (.int va,[])) (ra:0≤va∧va≤6):aI C0 104 [.i (.agg [.int 2, .int 0, .isl (Ex.aB [e]), .isl (aF []), .isl (Pn.aB [a])]), .i (.isl (aF ws)), .int lv] []=some (.int (if va=0 then 0 else if e.ok va=true then va else 0),[]):=by
 rw[aD rfl Tryz.func104 rfl rfl];have hf:=dS 2 0 [e] [] [a];rw[ho]at hf;have c3':¬ (lv:Int)=0:=by omega
 have w1:IntKind.i64.wrap ((lv:Int)-1)=(lv-1:Nat):=by rw[wrO];omega
 have w2:IntKind.i64.wrap (1:Int)=1:=dE;have w3:IntKind.i64.wrap (2:Int)=2:=wrO;have r0:fJ [a.cells] 0=some a.cells:=rfl;simp only[Pn.aB,aF,Ex.aB]at hf ⊢;have q0:fJ [e.cells] 0=some e.cells:=rfl;have qe:=NU (va) e;rw[Ex.aA e]at q0 qe hf ⊢;rw[Pn.aA a]at ha r0 hf ⊢;simp[hf,hl,c3'];rw[aG];by_cases z1:va=0
 case pos=>simp[w1,ha,r0,z1]
 simp[w1,w2,ha,r0,z1];rw[aG]
 cases hv:e.ok va<;>rw[hv]at qe<;>simp[z1,q0,qe]
theorem JA {ws:List Int} {lv:Nat} {a:Pn} {va:Int} {es:List Ex} (ho:only 3 0 es [] [a]=true) (hl:lv≠0) (hl8:lv≤8) (ha:aI C0 104 [.i (.agg a.cells), .i (.isl (aF ws)), .int (lv-1:Nat)] []=some (.int va,[])) (ra:0≤va∧va≤6) (he:es.length<9223372036854775808):aI C0 104 [.i (.agg [.int 3, .int 0, .isl (Ex.aB es), .isl (aF []), .isl (Pn.aB [a])]), .i (.isl (aF ws)), .int lv] []=some (.int (if va=0 then 0 else pW es va),[]):=by
 rw[aD rfl Tryz.func104 rfl rfl];have hf:=dS 3 0 es [] [a];rw[ho]at hf;have c3':¬ (lv:Int)=0:=by omega
 have w1:IntKind.i64.wrap ((lv:Int)-1)=(lv-1:Nat):=by rw[wrO];omega
 have w2:IntKind.i64.wrap (1:Int)=1:=dE;have w3:IntKind.i64.wrap (2:Int)=2:=wrO;have r0:fJ [a.cells] 0=some a.cells:=rfl;simp only[Pn.aB,aF,Ex.aB]at hf ⊢;rw[Pn.aA a]at ha r0 hf ⊢;simp[hf,hl,c3'];rw[aG];by_cases z1:va=0
 case pos=>simp[w1,ha,r0,z1]
 simp[w1,w2,ha,r0,z1];rw[aG];have hp:=FB es va he;simp[z1,hp]
theorem X3 {ws:List Int} {lv:Nat} {a:Pn} {va:Int} {b:Pn} {vb:Int} {e:Ex} (ho:only 4 0 [e] [] [a,b]=true) (hl:lv≠0) (hl8:lv≤8) (ha:aI C0 104 [.i (.agg a.cells), .i (.isl (aF ws)), .int (lv-1:Nat)] []=some (.int va,[])) (ra:0≤va∧va≤6) (hb:aI C0 104 [.i (.agg b.cells), .i (.isl (aF ws)), .int (lv-1:Nat)] []=some (.int vb,[])) (rb:0≤vb∧vb≤6):aI C0 104 [.i (.agg [.int 4, .int 0, .isl (Ex.aB [e]), .isl (aF []), .isl (Pn.aB [a,b])]), .i (.isl (aF ws)), .int lv] []=some (.int (if va=0∨vb=0 then 0 else if va+vb≤6∧e.ok (va+vb)=true then va+vb else 0),[]):=by
 rw[aD rfl Tryz.func104 rfl rfl];have hf:=dS 4 0 [e] [] [a,b];rw[ho]at hf;have c3':¬ (lv:Int)=0:=by omega
 have w1:IntKind.i64.wrap ((lv:Int)-1)=(lv-1:Nat):=by rw[wrO];omega
 have w2:IntKind.i64.wrap (1:Int)=1:=dE;have w3:IntKind.i64.wrap (2:Int)=2:=wrO;have r0:fJ [a.cells,b.cells] 0=some a.cells:=rfl;have r1:fJ [a.cells,b.cells] 1=some b.cells:=rfl;simp only[Pn.aB,aF,Ex.aB]at hf ⊢;have q0:fJ [e.cells] 0=some e.cells:=rfl;have qe:=NU (va+vb) e;rw[Ex.aA e]at q0 qe hf ⊢;rw[Pn.aA a]at ha r0 hf ⊢;rw[Pn.aA a]at r1;rw[Pn.aA b]at hb r0 r1 hf ⊢;simp[hf,hl,c3'];rw[aG];by_cases z1:va=0
 case pos=>simp[w1,ha,r0,z1]
 simp[w1,w2,ha,r0,z1];rw[aG];by_cases z2:vb=0
 case pos=>simp[w1,hb,r1,z2]
 simp[w1,hb,r1,z1,z2,w2,w3];rw[aG];have w4:IntKind.i64.wrap (va+vb)=va+vb:=wrO;by_cases h6:va+vb≤6
 ·cases hv:e.ok (va+vb)<;>rw[hv]at qe<;>simp[z1,z2,q0,qe,w4,h6]
 ·simp[z1,z2,w4,h6]
theorem X0 {ws:List Int} {lv:Nat} {a:Pn} {va:Int} {b:Pn} {vb:Int} {e:Ex} (ho:only 5 0 [e] [] [a,b]=true) (hl:lv≠0) (hl8:lv≤8) (ha:aI C0 104 [.i (.agg a.cells), .i (.isl (aF ws)), .int (lv-1:Nat)] []=some (.int va,[])) (ra:0≤va∧va≤6) (hb:aI C0 104 [.i (.agg b.cells), .i (.isl (aF ws)), .int (lv-1:Nat)] []=some (.int vb,[])) (rb:0≤vb∧vb≤6):aI C0 104 [.i (.agg [.int 5, .int 0, .isl (Ex.aB [e]), .isl (aF []), .isl (Pn.aB [a,b])]), .i (.isl (aF ws)), .int lv] []=some (.int (if va=0∨vb=0 then 0 else if va+vb≤6∧e.ok (va+vb)=true then va+vb else 0),[]):=by
 rw[aD rfl Tryz.func104 rfl rfl];have hf:=dS 5 0 [e] [] [a,b];rw[ho]at hf;have c3':¬ (lv:Int)=0:=by omega
 have w1:IntKind.i64.wrap ((lv:Int)-1)=(lv-1:Nat):=by rw[wrO];omega
 have w2:IntKind.i64.wrap (1:Int)=1:=dE;have w3:IntKind.i64.wrap (2:Int)=2:=wrO;have r0:fJ [a.cells,b.cells] 0=some a.cells:=rfl;have r1:fJ [a.cells,b.cells] 1=some b.cells:=rfl;simp only[Pn.aB,aF,Ex.aB]at hf ⊢;have q0:fJ [e.cells] 0=some e.cells:=rfl;have qe:=NU (va+vb) e;rw[Ex.aA e]at q0 qe hf ⊢;rw[Pn.aA a]at ha r0 hf ⊢;rw[Pn.aA a]at r1;rw[Pn.aA b]at hb r0 r1 hf ⊢;simp[hf,hl,c3'];rw[aG];by_cases z1:va=0
 case pos=>simp[w1,ha,r0,z1]
 simp[w1,w2,ha,r0,z1];rw[aG];by_cases z2:vb=0
 case pos=>simp[w1,hb,r1,z2]
 simp[w1,hb,r1,z1,z2,w2,w3];rw[aG];have w4:IntKind.i64.wrap (va+vb)=va+vb:=wrO;by_cases h6:va+vb≤6
 ·cases hv:e.ok (va+vb)<;>rw[hv]at qe<;>simp[z1,z2,q0,qe,w4,h6]
 ·simp[z1,z2,w4,h6]
theorem WZ {ws:List Int} {lv:Nat} {a:Pn} {va:Int} {b:Pn} {vb:Int} (ho:only 6 0 [] [] [a,b]=true) (hl:lv≠0) (hl8:lv≤8) (ha:aI C0 104 [.i (.agg a.cells), .i (.isl (aF ws)), .int (lv-1:Nat)] []=some (.int va,[])) (ra:0≤va∧va≤6) (hb:aI C0 104 [.i (.agg b.cells), .i (.isl (aF ws)), .int (lv-1:Nat)] []=some (.int vb,[])) (rb:0≤vb∧vb≤6):aI C0 104 [.i (.agg [.int 6, .int 0, .isl (Ex.aB []), .isl (aF []), .isl (Pn.aB [a,b])]), .i (.isl (aF ws)), .int lv] []=some (.int (if va=0∨vb=0 then 0 else if va=vb then va else 0),[]):=by
 rw[aD rfl Tryz.func104 rfl rfl];have hf:=dS 6 0 [] [] [a,b];rw[ho]at hf;have c3':¬ (lv:Int)=0:=by omega
 have w1:IntKind.i64.wrap ((lv:Int)-1)=(lv-1:Nat):=by rw[wrO];omega
 have w2:IntKind.i64.wrap (1:Int)=1:=dE;have w3:IntKind.i64.wrap (2:Int)=2:=wrO;have r0:fJ [a.cells,b.cells] 0=some a.cells:=rfl;have r1:fJ [a.cells,b.cells] 1=some b.cells:=rfl;simp only[Pn.aB,aF,Ex.aB]at hf ⊢;rw[Pn.aA a]at ha r0 hf ⊢;rw[Pn.aA a]at r1;rw[Pn.aA b]at hb r0 r1 hf ⊢;simp[hf,hl,c3'];rw[aG];by_cases z1:va=0
 case pos=>simp[w1,ha,r0,z1]
 simp[w1,w2,ha,r0,z1];rw[aG];by_cases z2:vb=0
 case pos=>simp[w1,hb,r1,z2]
 simp[w1,hb,r1,z1,z2,w2,w3];rw[aG];by_cases h6:va=vb<;>simp[z1,z2,h6]
theorem WY {ws:List Int} {lv:Nat} {a:Pn} {va:Int} (ho:only 7 0 [] [] [a]=true) (hl:lv≠0) (hl8:lv≤8) (ha:aI C0 104 [.i (.agg a.cells), .i (.isl (aF ws)), .int (lv-1:Nat)] []=some (.int va,[])) (ra:0≤va∧va≤6):aI C0 104 [.i (.agg [.int 7, .int 0, .isl (Ex.aB []), .isl (aF []), .isl (Pn.aB [a])]), .i (.isl (aF ws)), .int lv] []=some (.int (if va=0 then 0 else va),[]):=by
 rw[aD rfl Tryz.func104 rfl rfl];have hf:=dS 7 0 [] [] [a];rw[ho]at hf;have c3':¬ (lv:Int)=0:=by omega
 have w1:IntKind.i64.wrap ((lv:Int)-1)=(lv-1:Nat):=by rw[wrO];omega
 have w2:IntKind.i64.wrap (1:Int)=1:=dE;have w3:IntKind.i64.wrap (2:Int)=2:=wrO;have r0:fJ [a.cells] 0=some a.cells:=rfl;simp only[Pn.aB,aF,Ex.aB]at hf ⊢;rw[Pn.aA a]at ha r0 hf ⊢;simp[hf,hl,c3'];rw[aG];by_cases z1:va=0
 case pos=>simp[w1,ha,r0,z1]
 simp[w1,w2,ha,r0,z1];rw[aG];simp[z1]
theorem WW {ws:List Int} {lv:Nat} {a:Pn} {va:Int} {cs:List Int} (ho:only 8 0 [] cs [a]=true) (hl:lv≠0) (hl8:lv≤8) (ha:aI C0 104 [.i (.agg a.cells), .i (.isl (aF ws)), .int (lv-1:Nat)] []=some (.int va,[])) (ra:0≤va∧va≤6) (hc:cs.length<9223372036854775808):aI C0 104 [.i (.agg [.int 8, .int 0, .isl (Ex.aB []), .isl (aF cs), .isl (Pn.aB [a])]), .i (.isl (aF ws)), .int lv] []=some (.int (if va=0 then 0 else if cs.length<6∧pV va cs=true then(cs.length:Int)+1 else 0),[]):=by
 rw[aD rfl Tryz.func104 rfl rfl];have hf:=dS 8 0 [] cs [a];rw[ho]at hf;have c3':¬ (lv:Int)=0:=by omega
 have w1:IntKind.i64.wrap ((lv:Int)-1)=(lv-1:Nat):=by rw[wrO];omega
 have w2:IntKind.i64.wrap (1:Int)=1:=dE;have w3:IntKind.i64.wrap (2:Int)=2:=wrO;have r0:fJ [a.cells] 0=some a.cells:=rfl;simp only[Pn.aB,aF,Ex.aB]at hf ⊢;rw[Pn.aA a]at ha r0 hf ⊢;simp[hf,hl,c3'];rw[aG];by_cases z1:va=0
 case pos=>simp[w1,ha,r0,z1]
 simp[w1,w2,ha,r0,z1];rw[aG];have hp:=NF cs va hc ra;by_cases h6:cs.length<6
 ·have w5:IntKind.i64.wrap ((cs.length:Int)+1)=cs.length+1:=wrO
  cases hv:pV va cs<;>rw[hv]at hp<;>simp[z1,hp,h6,show(cs.length:Int)<6 by omega,w5]
 ·cases hv:pV va cs<;>rw[hv]at hp<;>simp[z1,hp,h6,show ¬ (cs.length:Int)<6 by omega]
theorem UC (k t:Int) (es:List Ex) (cs:List Int) (ks:List Pn):only k t es cs ks=true↔((1≤k∧k≤8)∧(ks.length:Int)=iN k∧((es.length:Int)=if k=3 then(es.length:Int)else eF k)∧(t=0∨k=1)∧(cs=[]∨k=8)):=by
 unfold only;simp only[zT,zC6,zL]
theorem vL {ws:List Int} (hw:∀ w∈ws,0≤w∧w≤6) (hwl:ws.length<1000000000):∀ (p:Pn),p.lim→∀ (lv:Nat),lv≤8→aI C0 104 [.i (.agg p.cells), .i (.isl (aF ws)), .int lv] []=some (.int (p.wd ws lv),[]):=by
 intro p
 induction p using Pn.ind with
 | h k t es cs ks ih =>
  intro hp lv hlv;have hp:=(Pn.FT _).1 hp;simp only[Pn.cO,Pn.fK,Pn.iA]at hp;obtain⟨he,hc,-,hks⟩:=hp;rw[Pn.dY];have hr:=fun a=>Pn.rE hw a (lv-1)
  by_cases ho:only k t es cs ks=true∧(ks=[]∨lv≠0)
  case neg =>
   rw[AEF ho,Pn.WA];intro hh;apply ho;refine⟨?_,hh.2⟩;have h:=(lD k t es cs ks).1 hh.1;rw[UC];refine⟨?_,h.1,?_,h.2.2.1.symm,h.2.2.2.symm⟩
   ·rcases FL k with h1|h1|h1|h1<;>omega
   ·by_cases h3:k=3
    ·rw[if_pos h3]
    ·have:=h.2.1;rw[if_neg fun h=>h3 h.1]at this;rw[if_neg h3];exact this
  have hoo:=ho.1;have hq:=(UC k t es cs ks).1 ho.1;obtain⟨h0,h1,h2,h3,h4⟩:=hq;have h5:=ho.2;by_cases hd:Pn.headOk (.mk k t es cs ks)=true
  case neg =>
   rw[Pn.WA fun h=>hd h.1]
   have hk3:k=3∧¬ bJ es.length=true∧(es.length:Int)≠1:=by
    by_cases hk:k=3
    ·refine⟨hk,?_,?_⟩
     ·intro hv;exact hd ((lD k t es cs ks).2 ⟨h1,by rw[if_pos ⟨hk,hv⟩],h3.symm,h4.symm⟩)
     ·intro hv;have:bJ es.length=true:=by rw[hv];decide
      exact hd ((lD k t es cs ks).2 ⟨h1,by rw[if_pos ⟨hk,this⟩],h3.symm,h4.symm⟩)
    ·exact absurd ((lD k t es cs ks).2 ⟨h1,by rw[if_neg fun h=>hk h.1];rwa [if_neg hk]at h2,h3.symm,h4.symm⟩) hd
   obtain⟨rfl,hv,hv1⟩:=hk3;obtain⟨a,rfl⟩:=kN (by simpa using h1);obtain rfl:cs=[]:=by simpa using h4
   obtain rfl:t=0:=by simpa using h3
   have hl:lv≠0:=by simpa using h5
   rw[JA hoo hl hlv (ih a (by simp) (hks a (by simp)) (lv-1) (by omega)) (hr a) he]
   have:pW es (a.wd ws (lv-1))=0:=by
    unfold pW;split
    ·rename_i h;have:¬ (1≤(es.length:Int)∧(es.length:Int)≤6):=by simpa [bJ]using hv
     omega
    ·rfl
   simp[this]
  have hx:=Pn.uR ws lv (.mk k t es cs ks);rw[if_pos (by simpa using (⟨hd,h5⟩:_∧_))]at hx;simp only[Pn.fD,Pn.kS,Pn.cO,Pn.fK,Pn.iA]at hx;rw[hx]
  rcases qG k with rfl|rfl|rfl|rfl|rfl|rfl|rfl|rfl|h
  ·obtain rfl:=gB (by simpa using h1);obtain rfl:es=[]:=gB (by simpa using h2);obtain rfl:cs=[]:=by simpa using h4
   exact X5 hoo hwl
  ·obtain⟨a,rfl⟩:=kN (by simpa using h1);obtain⟨e,rfl⟩:=kN (by simpa using h2);obtain rfl:cs=[]:=by simpa using h4
   obtain rfl:t=0:=by simpa using h3
   have hl:lv≠0:=by simpa using h5
   rw[X4 hoo hl hlv (ih a (by simp) (hks a (by simp)) (lv-1) (by omega)) (hr a)];by_cases z:a.wd ws (lv-1)=0<;>simp[z,bS]
  ·obtain⟨a,rfl⟩:=kN (by simpa using h1);obtain rfl:cs=[]:=by simpa using h4
   obtain rfl:t=0:=by simpa using h3
   have hl:lv≠0:=by simpa using h5
   rw[JA hoo hl hlv (ih a (by simp) (hks a (by simp)) (lv-1) (by omega)) (hr a) he];have h6:=Pn.qN hd;simp only[Pn.cO]at h6;by_cases z:a.wd ws (lv-1)=0<;>simp[z,bS,pW,h6]
  ·obtain⟨a,b,rfl⟩:=A8 (by simpa using h1);obtain⟨e,rfl⟩:=kN (by simpa using h2);obtain rfl:cs=[]:=by simpa using h4
   obtain rfl:t=0:=by simpa using h3
   have hl:lv≠0:=by simpa using h5
   rw[X3 hoo hl hlv (ih a (by simp) (hks a (by simp)) (lv-1) (by omega)) (hr a) (ih b (by simp) (hks b (by simp)) (lv-1) (by omega)) (hr b)];by_cases z:a.wd ws (lv-1)=0<;>by_cases z2:b.wd ws (lv-1)=0<;>simp[z,z2,bS]
  ·obtain⟨a,b,rfl⟩:=A8 (by simpa using h1);obtain⟨e,rfl⟩:=kN (by simpa using h2);obtain rfl:cs=[]:=by simpa using h4
   obtain rfl:t=0:=by simpa using h3
   have hl:lv≠0:=by simpa using h5
   rw[X0 hoo hl hlv (ih a (by simp) (hks a (by simp)) (lv-1) (by omega)) (hr a) (ih b (by simp) (hks b (by simp)) (lv-1) (by omega)) (hr b)];by_cases z:a.wd ws (lv-1)=0<;>by_cases z2:b.wd ws (lv-1)=0<;>simp[z,z2,bS]
  ·obtain⟨a,b,rfl⟩:=A8 (by simpa using h1);obtain rfl:es=[]:=gB (by simpa using h2);obtain rfl:cs=[]:=by simpa using h4
   obtain rfl:t=0:=by simpa using h3
   have hl:lv≠0:=by simpa using h5
   rw[WZ hoo hl hlv (ih a (by simp) (hks a (by simp)) (lv-1) (by omega)) (hr a) (ih b (by simp) (hks b (by simp)) (lv-1) (by omega)) (hr b)];by_cases z:a.wd ws (lv-1)=0<;>by_cases z2:b.wd ws (lv-1)=0<;>simp[z,z2,bS]
  ·obtain⟨a,rfl⟩:=kN (by simpa using h1);obtain rfl:es=[]:=gB (by simpa using h2);obtain rfl:cs=[]:=by simpa using h4
   obtain rfl:t=0:=by simpa using h3
   have hl:lv≠0:=by simpa using h5
   rw[WY hoo hl hlv (ih a (by simp) (hks a (by simp)) (lv-1) (by omega)) (hr a)];by_cases z:a.wd ws (lv-1)=0<;>simp[z,bS]
  ·obtain⟨a,rfl⟩:=kN (by simpa using h1);obtain rfl:es=[]:=gB (by simpa using h2);obtain rfl:t=0:=by simpa using h3
   have hl:lv≠0:=by simpa using h5
   rw[WW hoo hl hlv (ih a (by simp) (hks a (by simp)) (lv-1) (by omega)) (hr a) hc];by_cases z:a.wd ws (lv-1)=0<;>simp[z,bS]
  ·omega
theorem W9 (p:Pn) (hp:p.lim) (ws:List Int) (hl:ws.length<9223372036854775808):aI C0 71 [.i (.agg p.cells), .i (.isl (aF ws))] []=some (.int (p.width ws),[]):=by
 rw[aD rfl Tryz.func71 rfl rfl];have hv:=EL ws hl
 cases h:kE ws with
 | false=>rw[h]at hv;rw[Pn.aA];simp[hv,Pn.width,h]
 | true =>
  rw[h]at hv;have h4:ws.length≤4:=by simp[kE]at h;omega
  have hb:=vL (l8 h) (by omega) p hp 8 (by omega);rw[show((8:Nat):Int)=8 from rfl]at hb;rw[Pn.aA]at hb ⊢;simp[hv,Pn.width,h,hb]
def IX (l m:List Int) (i:Nat):AS :=
 { env:=[(0, .i (.isl (aF l))),(1, .i (.isl (aF m))),(4, .bool false),(5, .int i),(10, .bool false),(14,jk i (.bool true)),(25,jk i (.bool false))],st:=[] }
def SX (l m:List Int) (i:Nat):AS :=
 { env:=[(0, .i (.isl (aF l))),(1, .i (.isl (aF m))),(4, .bool false),(5,jk i (.int (i-1))),(10, .bool false),(12, .int l.length),(13, .int i),(14,jk i (.bool true)),(24,jk i (.bool false))],st:=[] }
def EX (a b:Ex) (i:Nat):AS :=
 { env:=[(0, .i (.iref [.int a.kind, .int a.col, .bool a.val.null, .int a.val.n, .isl (Ex.aB a.kids)])),(1, .i (.iref [.int b.kind, .int b.col, .bool b.val.null, .int b.val.n, .isl (Ex.aB b.kids)])),(4, .bool false),(5,jk i (.int (i-1))),(49, .bool false),(54, .int a.kids.length),(55, .int i),(56,jk i (.bool true)),(71,jk i (.bool false))],st:=[] }
def FX (a b:Ex) (i:Nat):AS :=
 { env:=[(0, .i (.agg [.int a.kind, .int a.col, .bool a.val.null, .int a.val.n, .isl (Ex.aB a.kids)])),(1, .i (.agg [.int b.kind, .int b.col, .bool b.val.null, .int b.val.n, .isl (Ex.aB b.kids)])),(2, .own 0 0),(3, .own 1 0),(4, .bool false),(5, .int i),(33, .bool false),(38,jk i (.bool true)),(52,jk i (.bool false))],
   st:=[some (.box [.int a.kind, .int a.col, .bool a.val.null, .int a.val.n, .i (.isl (Ex.aB a.kids))]),some (.box [.int b.kind, .int b.col, .bool b.val.null, .int b.val.n, .i (.isl (Ex.aB b.kids))])] }
def HX (p q:Pn) (n m:Nat) (i j k:AV) (x51 x65 x70 x83 x88 x102:AV):AS :=
 { env:=[(0, .i (.agg [.int p.kind, .int p.table, .isl (Ex.aB p.exprs), .isl (aF p.cols), .isl (Pn.aB p.kids)])),(1, .i (.agg [.int q.kind, .int q.table, .isl (Ex.aB q.exprs), .isl (aF q.cols), .isl (Pn.aB q.kids)])),(2, .own 0 0),(3, .own 1 0),(4, .bool false),(5,i),(6,j),(7,k),(46, .bool false),(51,x51),(65,x65),(70,x70),(83,x83),(88,x88),(102,x102)],
   st:=[some (.box [.int p.kind, .int p.table, .i (.isl (Ex.aB p.exprs)), .i (.isl (aF p.cols)), .i (.isl (Pn.aB p.kids))]),some (.box [.int q.kind, .int q.table, .i (.isl (Ex.aB q.exprs)), .i (.isl (aF q.cols)), .i (.isl (Pn.aB q.kids))])] }
def H1 (p q:Pn) (i:Nat):AS:=HX p q 0 0 (.int i) .junk .junk (jk i (.bool true)) (jk i (.bool false)) .junk .junk .junk .junk
def H2 (p q:Pn) (i:Nat):AS:=HX p q 0 0 (.int p.exprs.length) (.int i) .junk (.bool false) (jk p.exprs.length (.bool false)) (jk i (.bool true)) (jk i (.bool false)) .junk .junk
end Go.Proofs.YtjdfjgmebalaaaaGreat.P

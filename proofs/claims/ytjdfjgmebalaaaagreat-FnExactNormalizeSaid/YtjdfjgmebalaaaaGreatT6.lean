/- Part 6 of what the proof rests on: the executor and what it is worth, and the program's functions as it runs them. No condition. -/
import Derived.Test.YtjdfjgmebalaaaaGreatT5
set_option linter.unusedVariables false
set_option linter.unusedSimpArgs false
namespace Go.Proofs.YtjdfjgmebalaaaaGreat.P
open Go Go.Av
set_option maxRecDepth 4000
set_option maxHeartbeats 4000000
def OIX (e e2:Ex) (x y:Pn) (ws:List Int) (n m i:Nat):AS :=
 { env:=[(0, .i (.iref [.int 2, .int 0, .isl [[.int e.kind, .int e.col, .bool e.val.null, .int e.val.n, .isl (Ex.aB e.kids)]], .isl [], .isl [[.int 5, .int 0, .isl [[.int e2.kind, .int e2.col, .bool e2.val.null, .int e2.val.n, .isl (Ex.aB e2.kids)]], .isl [], .isl [[.int x.kind, .int x.table, .isl (Ex.aB x.exprs), .isl (aD x.cols), .isl (Pn.aB x.kids)],[.int y.kind, .int y.table, .isl (Ex.aB y.exprs), .isl (aD y.cols), .isl (Pn.aB y.kids)]]]]])),(1, .i (.isl (aD ws))),(4, .own 0 0),(5, .bool false),(6, .i (.iref [.int e.kind, .int e.col, .bool e.val.null, .int e.val.n, .isl (Ex.aB e.kids)])),
    (7, .i (.iref [.int 5, .int 0, .isl [[.int e2.kind, .int e2.col, .bool e2.val.null, .int e2.val.n, .isl (Ex.aB e2.kids)]], .isl [], .isl [[.int x.kind, .int x.table, .isl (Ex.aB x.exprs), .isl (aD x.cols), .isl (Pn.aB x.kids)],[.int y.kind, .int y.table, .isl (Ex.aB y.exprs), .isl (aD y.cols), .isl (Pn.aB y.kids)]]])),(8, .bool true),(9, .int ((n:Int)+m)),(10,gro 1 1 i),(11, .int ((n:Int)+i)),(19, .bool false),(36,jk i (.bool true)),(49, .junk)],
   st:=some (.box [.int 0, .int 0, .nils, .nils, .nils])::AEM 1 (aD (mE n i)) i }
theorem AL6 {ws:List Int} (hw:kM ws=true) {e e2:Ex} {x y:Pn} (hp:(filt e (bB 5 e2 x y)).wd ws 8≠0):jJ 116 ws 7 (filt e (bB 5 e2 x y)):=by
 obtain⟨h1,h2,h3⟩:=wE hp;obtain⟨g1,g2,g3,g4,g5⟩:=PV (.inr rfl) h1;have c1:=FU hw (bB 5 e2 x y);rw[g5]at h2 c1;obtain⟨n,hn,n1,n2⟩:=BQ hw g1;obtain⟨m,hm,m1,m2⟩:=BQ hw g2;have c2:=FU hw x;rw[hn,hm,← Int.natCast_add]at h2 c1;rw[hn]at c2;have c3:=nZ 4 e2 x y;have c4:=eQ e (bB 4 e2 x y);have c5:=XP e (n:=n+m) (p:=n) (m:=m) rfl h2;have o1:=fJ (e:=e) (k:=bB 5 e2 x y) (kd:=5) rfl
 have hr:rwP ws 7 (filt e (bB 5 e2 x y))=if AG4 e (n+m:Nat) n=true then some (filt e (bB 4 e2 x y))else none:=by
  rw[fD]
  have:(Pn.mk 5 0 [e2] [] [x,y]).wd ws 8=((n+m:Nat):Int):=by
   have:=g5;unfold bB at this;rw[this,hn,hm];simp
  simp[rwF,bB,Pn.ex0,Pn.jG,Pn.qP,Pn.kind,Pn.exprs,Pn.kids,hn,this]
 generalize AG4 e (n+m:Nat) n=b at *
 have key:aI C0 116 [.i (.iref (filt e (bB 5 e2 x y)).cells), .i (.isl (aD ws))] []=some (.tup [.i (.agg (if b=true then filt e (bB 4 e2 x y)else Pn.zero).cells), .bool b],[]):=by
  rw[aF rfl Tryz.func116 rfl rfl];simp only[aV,pair_cells,aW,Ex.aA e,Ex.aA e2,Pn.aA x,Pn.aA y]at o1 c1 c2 c3 c4 c5 ⊢;have ht:∀ k,(mE n k).take k=mE n k:=fun k=>zZ (by simp)
  simp only[yC]at c5;simp[o1,c1,c2];rw[aT (OIX e e2 x y ws n m) m (by simp[OIX])]
  ·rw[aG];simp[OIX,aQ (show m≠0 by omega),aJ (show m≠0 by omega),bU (show m≠0 by omega)]
   cases b with
   | true=>simp[c3,c4,c5,ht,aV,pair_cells,Ex.aA e,Ex.aA e2,Pn.aA x,Pn.aA y]
   | false=>simp[c5,ht,aW]
  ·intro i hi;have w2:IntKind.i64.wrap ((n:Int)+i+1)=n+(i+1):=by rw[wrO];omega
   have hs:=OP n i;have hlt:(n:Int)+i<n+m:=by omega
   by_cases h0:i=0
   ·subst h0;have hlt0:(n:Int)<n+m:=by omega
    have w3:IntKind.i64.wrap ((n:Int)+1)=n+1:=by rw[wrO]
    simp[OIX,w3,hlt0,hs,gB,aD,mE]
   ·have hl1:(i+1)*8≤140737488355328:=by omega
    simp[OIX,w2,hlt,hs,aQ h0,aJ h0,bU h0,gB,aD,hl1,ht]
 cases b with
 | true=>exact .yes key (by rw[hr];rfl)
 | false=>exact .no key (by rw[hr];rfl)
theorem AZC {ws:List Int} (hw:kM ws=true) {p:Pn} (hp:p.wd ws 8≠0):jJ 116 ws 7 p:=by
 by_cases hk:p.kind=2
 ·obtain⟨e,a,rfl⟩:=qX (nN hp) hk;by_cases hk2:a.kind=5
  ·obtain⟨e2,x,y,hx⟩:=jN (iU (nN hp)).1 (.inr hk2);rw[hk2]at hx;subst hx;exact AL6 hw hp
  ·have h1:=dV (e:=e) (k:=a) (kd:=5) hk2;refine .no ?_ (by rw[fD];simp[rwF,hk2]);rw[aF rfl Tryz.func116 rfl rfl];simp only[aV,aW]at h1 ⊢;simp[h1]
 ·have h1:=fG (p:=p) (kd:=5) hk;refine .no ?_ (by simp[rwP,hk]);rw[aF rfl Tryz.func116 rfl rfl];simp only[aW,Pn.aA p]at h1 ⊢;simp[h1]
theorem AAP {n m i:Nat} (h:i<n+m):(aX (m:Int) n++aX 0 m)[i]?=some (AAR (rJ n m i)):=by
 by_cases hi:i<n
 ·rw[zK (by simpa using hi),uR hi];unfold rJ;rw[if_pos (by omega),Int.add_comm]
 ·rw[zI (by simp;omega),uS,uR (by omega)];unfold rJ;rw[if_neg (by omega)];congr 2;omega
def MPX (fs es:List Ex) (x:Pn) (ws:List Int) (W:Int) (zs:List Ex) (i:Nat):AS :=
 { env:=[(0, .i (.iref [.int 3, .int 0, .isl (Ex.aB fs), .isl [], .isl [[.int 3, .int 0, .isl (Ex.aB es), .isl [], .isl [[.int x.kind, .int x.table, .isl (Ex.aB x.exprs), .isl (aD x.cols), .isl (Pn.aB x.kids)]]]]])),(1, .i (.isl (aD ws))),(4, .own 0 0),(5, .bool false),(6, .i (.iref [.int 3, .int 0, .isl (Ex.aB es), .isl [], .isl [[.int x.kind, .int x.table, .isl (Ex.aB x.exprs), .isl (aD x.cols), .isl (Pn.aB x.kids)]]])),(7, .int W),(8, .own 1 0),(9,jk i (.int (i-1))),(10,if i=0 then .junk else .own 3 0),(11,jk i (.bool true)),(26, .bool false),(50, .int fs.length),(51, .int i),(52,jk i (.bool true)),(71,jk i (.bool false))],
   st:=some (.box [.int 0, .int 0, .nils, .nils, .nils])::some (.box [.int 3, .int 0,gro 2 5 i, .nils, .i (.isl [[.int x.kind, .int x.table, .isl (Ex.aB x.exprs), .isl (aD x.cols), .isl (Pn.aB x.kids)]])])::(if i=0 then []else [some (.arr 5 (Ex.aB (zs.take i))),some (.box (jW ((zs[i-1]?).getD Ex.zero).cells))]) }
def CJX (e:Ex) (x y:Pn) (ws:List Int) (n m i:Nat):AS :=
 { env:=[(0, .i (.iref [.int 4, .int 0, .isl [[.int e.kind, .int e.col, .bool e.val.null, .int e.val.n, .isl (Ex.aB e.kids)]], .isl [], .isl [[.int x.kind, .int x.table, .isl (Ex.aB x.exprs), .isl (aD x.cols), .isl (Pn.aB x.kids)],[.int y.kind, .int y.table, .isl (Ex.aB y.exprs), .isl (aD y.cols), .isl (Pn.aB y.kids)]]])),(1, .i (.isl (aD ws))),(4, .own 0 0),(5, .bool false),(6, .own 1 0),(7, .own 2 0),(8, .fn (.func 155) [.own 1 0, .own 2 0]),(9, .own 3 0),(10,jk i (.int (i-1))),(15, .bool false),(37, .int ((n:Int)+m)),(38, .int i),(39,jk i (.bool true))],
   st:=some (.box [.int 0, .int 0, .nils, .nils, .nils])::some (.box [.int n])::some (.box [.int m])::some (.box [.int 3, .int 0,gro 4 5 i, .nils, .nils])::AEM 5 (Ex.aB ((aX (m:Int) n++aX 0 m).take i)) i }
theorem AL7 {ws:List Int} (hw:kM ws=true) {e:Ex} {x y:Pn} (hp:(bB 4 e x y).wd ws 8≠0):jJ 115 ws 6 (bB 4 e x y):=by
 obtain⟨g1,g2,g3,g4,g5⟩:=PV (.inl rfl) hp;obtain⟨n,hn,n1,n2⟩:=BQ hw g1;obtain⟨m,hm,m1,m2⟩:=BQ hw g2;have c1:=FU hw x;have c2:=FU hw y;have hwf:=Ex.AGI g4;have hsz:e.size<1000000000:=by have:=Ex.gH g4;omega
 have c5:=X7 (a:=n) (b:=m) (by omega) (by omega) e hwf hsz;have c4:=nZ 4 (e.AL (rJ n m)) y x
 have hr:rwP ws 6 (bB 4 e x y)=some (proj (aX m n++aX 0 m) (bB 4 (e.AL (rJ n m)) y x)):=by
  simp[rwP,bB,Pn.ex0,Pn.jG,Pn.qP,Pn.kind,Pn.exprs,Pn.kids,hn,hm]
 rw[hn]at c1;rw[hm]at c2;refine .yes ?_ hr;generalize e.AL (rJ n m)=z at *
 rw[aF rfl Tryz.func115 rfl rfl];simp only[jS,pair_cells,aW,Ex.aA e,Ex.aA z,Pn.aA x,Pn.aA y]at c1 c2 c4 c5 ⊢;have w0:IntKind.i64.wrap ((n:Int)+m)=n+m:=wrO;have hlen:(aX (m:Int) n++aX 0 m).length=n+m:=by simp
 simp[c1,c2,w0];rw[aT (CJX e x y ws n m) (n+m) (by simp[CJX])]
 ·rw[aG];have htk:(aX (m:Int) n++aX 0 m).take (n+m)=aX (m:Int) n++aX 0 m:=zZ (by omega);simp[CJX,aQ (show n+m≠0 by omega),aJ (show n+m≠0 by omega),bU (show n+m≠0 by omega),htk,c4,c5]
 ·intro i hi;have hnth:=AAP hi;have htk:=aL hnth;have hpl:=NU i n m (by omega) (by omega) (by omega);have hco:=F7 (rJ n m i);generalize rJ n m i=c at *
  rw[lL]at hco;have hlt:(i:Int)<n+m:=by omega
  have w2:IntKind.i64.wrap ((i:Int)+1)=i+1:=wrO;by_cases h0:i=0
  ·subst h0;have hlt0:(0:Int)<n+m:=by omega
   simp at hpl;simp[CJX,hlt0,hpl,hco,dP,htk,Ex.aB,lL]
  ·have hl1:(i+1)*56≤140737488355328:=by omega
   have hl2:i≤min i (n+m):=by omega
   simp[CJX,w2,hlt,hpl,hco,aQ h0,aJ h0,bU h0,htk,Ex.aZ,lL,hl1,hl2,zG]
theorem AFR {ws:List Int} (hw:kM ws=true) {fs es:List Ex} {x:Pn} (hp:(proj fs (proj es x)).wd ws 8≠0):jJ 120 ws 11 (proj fs (proj es x)):=by
 obtain⟨h1,h2,h3,h4⟩:=ACH hp;obtain⟨g1,g2,g3,g4⟩:=ACH h1;rw[g4]at h3;have c2:=FU hw x;have c5:=fun e=>AHJ e es (x.wd ws 8)
 have hr:rwP ws 11 (proj fs (proj es x))=some (proj (fs.map (Ex.sub es)) x):=by
  simp[rwP,proj,Pn.ex0,Pn.jG,Pn.qP,Pn.kind,Pn.exprs,Pn.kids]
 generalize hW:x.wd ws 8=W at *
 have hin:∀ (i:Nat) (a:Ex),fs[i]?=some a→(a.subst es W).isSome=true→(fs.map (Ex.sub es))[i]?=some (a.sub es)∧a.subst es W=some (a.sub es):=by
  intro i a ha hs;refine⟨by simp[ha],?_⟩;unfold Ex.subst at hs ⊢;split at hs
  ·rename_i hc;rw[if_pos hc]
  ·simp at hs
 have hlen:fs.length≤6:=by unfold bQ at h2;simp at h2;omega
 obtain⟨j,k1,k2⟩:=iV (fun e=>(e.subst es W).isSome) fs
 have hround:∀ i,i<j→i<fs.length∧∃ f z,fs[i]?=some f∧fU (Ex.aB fs) i=some f.cells∧(fs.map (Ex.sub es))[i]?=some z∧f.subst es W=some z:=by
  intro i hi;obtain⟨f,q1,q2,q3⟩:=k1 i hi;obtain⟨q4,q5⟩:=hin i f q1 q3;exact⟨(zY.1 q1).1,f,_,q1,Ex.aP q1,q4,q5⟩
 have hfl:fs.length≠0:=by intro h;rw[h]at h2;simp[bQ]at h2
 have hzl:(fs.map (Ex.sub es)).length=fs.length:=by simp
 have hq:∀ lv,(proj (fs.map (Ex.sub es)) x).wd ws lv≠0→∀ f∈fs,(f.sub es).ok W=true:=by
  intro lv hne f hf
  cases lv with
  | zero=>exact absurd (by rw[Pn.ABJ];simp[proj,Pn.kids]) hne
  | succ lv =>
   rw[ED]at hne;obtain⟨⟨q1,q2,q3⟩,_⟩:=gP hne;have e8:=ANI (nN (p:=x) (lv:=8) (by rw[hW];exact g1)) q1;rw[e8,hW]at q3;exact zO.1 q3 _ (List.mem_map_of_mem hf)
 generalize fs.map (Ex.sub es)=zs at *
 have main:∀ r,aI C0 120 [.i (.iref (proj fs (proj es x)).cells), .i (.isl (aD ws))] []=r→r=if j=fs.length then some (.tup [.i (.agg (proj zs x).cells), .bool true],[])else some (.tup [.i (.agg Pn.zero.cells), .bool false],[]):=by
  intro r hr';subst hr';rw[aF rfl Tryz.func120 rfl rfl];simp only[jS,Pn.aA x]at c2 ⊢;simp[c2];rw[aT (MPX fs es x ws W zs) j (by simp[MPX])]
  ·rw[aG]
   rcases k2 with ⟨hj,ha⟩|⟨f,q1,q2,q3,ha⟩
   ·have htk:zs.take fs.length=zs:=zZ (by omega);simp[MPX,hj,hfl,aQ hfl,htk,hzl]
   ·have hj:j<fs.length:=(zY.1 q1).1;have hne:¬ j=fs.length:=by omega
    have r1:=Ex.aP q1;have hn:f.subst es W=none:=by cases h:f.subst es W with|none=>rfl|some _=>rw[h]at q3;simp at q3
    have c6:=c5 f;rw[hn]at c6;simp only[AMH,Option.getD,Option.isSome,Ex.aA f,aW]at c6 r1;by_cases h0:j=0
    ·subst h0;simp[MPX,hj,hne,r1,c6,aW]
    ·simp[MPX,hj,hne,r1,c6,h0,aQ h0,bU h0,aW]
  ·intro i hi;obtain⟨hil,f,z,q1,r1,q4,q5⟩:=hround i hi;have c6:=c5 f;rw[q5]at c6;have htk:=aL q4;have w2:IntKind.i64.wrap ((i:Int)+1)=i+1:=wrO;simp only[AMH,Option.getD,Option.isSome,Ex.aA f,Ex.aA z]at c6 r1;by_cases h0:i=0
   ·subst h0;simp[MPX,hil,r1,c6,dP,htk,q4,Ex.aB,Ex.aA z]
   ·have hl1:(i+1)*56≤140737488355328:=by omega
    have hl2:i≤min i zs.length:=by omega
    simp[MPX,hil,r1,c6,w2,htk,q4,h0,aQ h0,bU h0,Ex.aZ,Ex.aA z,hl1,hl2,zG]
 have hm:=main _ rfl
 rcases k2 with ⟨hj,ha⟩|⟨f,q1,q2,q3,ha⟩
 ·rw[if_pos hj]at hm;exact .yes hm hr
 ·have hj:j<fs.length:=(zY.1 q1).1;rw[if_neg (by omega)]at hm;refine⟨.zero,false,hm,by simp,fun _ q' hq' lv=>?_⟩;rw[hr]at hq';injection hq' with hq';subst hq';by_cases hne:(proj zs x).wd ws lv=0
  ·exact hne
  ·have hok:=hq lv hne f q2;unfold Ex.subst at q3;rw[if_pos (by simp only[zT];exact⟨List.all_eq_true.1 h3 f q2,g3,hok⟩)]at q3;simp at q3
theorem AZD {ws:List Int} (hw:kM ws=true) {p:Pn} (hp:p.wd ws 8≠0):jJ 115 ws 6 p:=by
 by_cases hk:p.kind=4
 ·obtain⟨e,x,y,hx⟩:=jN (nN hp) (.inl hk);rw[hk]at hx;subst hx;exact AL7 hw hp
 ·refine .no ?_ ?_
  ·rw[aF rfl Tryz.func115 rfl rfl];simp only[aW,Pn.aA p];simp[hk]
  ·unfold rwP;split
   ·unfold rwF;simp
   ·simp[hk]
theorem AVH {ws:List Int} (hw:kM ws=true) {p:Pn} (hp:p.wd ws 8≠0):jJ 120 ws 11 p:=by
 by_cases hk:p.kind=3
 ·obtain⟨fs,a,rfl⟩:=pK (nN hp) hk;by_cases hk2:a.kind=3
  ·obtain⟨V,hV,_⟩:=BK (nN hp);obtain⟨es,x,rfl⟩:=pK hV hk2;exact AFR hw hp
  ·refine .no ?_ (by simp[rwP,Pn.jG,proj,hk2]);rw[aF rfl Tryz.func120 rfl rfl];simp only[jS,aW,Pn.aA a];simp[hk2]
 ·refine .no ?_ ?_
  ·rw[aF rfl Tryz.func120 rfl rfl];simp only[aW,Pn.aA p];simp[hk]
  ·unfold rwP;split
   ·unfold rwF;simp
   ·simp[hk]
end Go.Proofs.YtjdfjgmebalaaaaGreat.P
namespace Go.Av
theorem ZE {ws:List Int} {r:Int} {lv:Nat} {p:Pn} (h:∀ q',rwP ws r p=some q'→∀ lv,q'.wd ws lv=0):rwL ws r lv p=none:=by
 unfold rwL
 cases hq:rwP ws r p with
 | none=>rfl
 | some q=>simp[h q hq lv]
theorem AL3 {ws:List Int} {r:Int} {lv:Nat} {p q:Pn} (h:rwP ws r p=some q):rwL ws r lv p=if q.wd ws lv=0 then none else some q:=by
 unfold rwL;rw[h];by_cases hq:q.wd ws lv=0<;>simp[hq]
def IY (o:Option Pn):Pn:=o.getD Pn.zero
end Go.Av
namespace Go.Proofs.YtjdfjgmebalaaaaGreat.P
open Go Go.Av
set_option maxRecDepth 4000
set_option maxHeartbeats 4000000
theorem PM {ws:List Int} {p:Pn} {r:Int} {lv:Nat} (h:r<1∨11<r):aI C0 70 [.i (.iref p.cells), .i (.isl (aD ws)), .int r, .int lv] []=some (.tup [.i (.agg Pn.zero.cells), .bool false],[]):=by
 rw[aF rfl Tryz.func70 rfl rfl,aW]
 rcases h with h|h
 ·simp[h]
 ·simp[show ¬ r<1 by omega,show 12≤r by omega]
theorem lX {ws:List Int} (hw:kM ws=true) {p:Pn} (hp:p.wd ws 8≠0) (r:Int) {lv:Nat} (hl:lv≤8):aI C0 70 [.i (.iref p.cells), .i (.isl (aD ws)), .int r, .int lv] []=some (.tup [.i (.agg (IY (rwL ws r lv p)).cells), .bool (rwL ws r lv p).isSome],[]):=by
 have hr:(r<1∨11<r)∨(r=1∧jJ 110 ws 1 p)∨(r=2∧jJ 111 ws 2 p)∨(r=3∧jJ 112 ws 3 p)∨(r=4∧jJ 113 ws 4 p)∨(r=5∧jJ 114 ws 5 p)∨(r=6∧jJ 115 ws 6 p)∨(r=7∧jJ 116 ws 7 p)∨(r=8∧jJ 117 ws 8 p)∨(r=9∧jJ 118 ws 9 p)∨(r=10∧jJ 119 ws 10 p)∨(r=11∧jJ 120 ws 11 p):=by
  by_cases h:r<1∨11<r
  ·exact .inl h
  ·refine .inr ?_;have:r=1∨r=2∨r=3∨r=4∨r=5∨r=6∨r=7∨r=8∨r=9∨r=10∨r=11:=by omega
   rcases this with rfl|rfl|rfl|rfl|rfl|rfl|rfl|rfl|rfl|rfl|rfl
   ·exact(.inl ⟨rfl,AZI (nN hp)⟩)
   ·exact(.inr (.inl ⟨rfl,AZH (nN hp)⟩))
   ·exact(.inr (.inr (.inl ⟨rfl,AZG hw hp⟩)))
   ·exact(.inr (.inr (.inr (.inl ⟨rfl,AZF hw hp⟩))))
   ·exact(.inr (.inr (.inr (.inr (.inl ⟨rfl,AZE (nN hp)⟩)))))
   ·exact(.inr (.inr (.inr (.inr (.inr (.inl ⟨rfl,AZD hw hp⟩))))))
   ·exact(.inr (.inr (.inr (.inr (.inr (.inr (.inl ⟨rfl,AZC hw hp⟩)))))))
   ·exact(.inr (.inr (.inr (.inr (.inr (.inr (.inr (.inl ⟨rfl,AZB (nN hp)⟩))))))))
   ·exact(.inr (.inr (.inr (.inr (.inr (.inr (.inr (.inr (.inl ⟨rfl,AZA (nN hp)⟩)))))))))
   ·exact(.inr (.inr (.inr (.inr (.inr (.inr (.inr (.inr (.inr (.inl ⟨rfl,AVI hw hp⟩))))))))))
   ·exact(.inr (.inr (.inr (.inr (.inr (.inr (.inr (.inr (.inr (.inr (⟨rfl,AVH hw hp⟩)))))))))))
 rcases hr with h|⟨rfl,q,b,h1,h2,h3⟩|⟨rfl,q,b,h1,h2,h3⟩|⟨rfl,q,b,h1,h2,h3⟩|⟨rfl,q,b,h1,h2,h3⟩|⟨rfl,q,b,h1,h2,h3⟩|⟨rfl,q,b,h1,h2,h3⟩|⟨rfl,q,b,h1,h2,h3⟩|⟨rfl,q,b,h1,h2,h3⟩|⟨rfl,q,b,h1,h2,h3⟩|⟨rfl,q,b,h1,h2,h3⟩|⟨rfl,q,b,h1,h2,h3⟩
 ·rw[PM h]
  have:rwL ws r lv p=none:=ZE fun q' hq=>by
   have:=ZC hq;simp[rules]at this;omega
  rw[this];rfl
 all_goals
  have h4:=BN (jV hw) q lv hl;rw[aF rfl Tryz.func70 rfl rfl]
  cases b with
  | false =>
   rw[ZE (h3 rfl)];simp only[IY,Option.getD,Option.isSome,aW,Pn.aA p,Pn.aA q]at h1 h4 ⊢;simp[h1]
  | true =>
   rw[AL3 (h2 rfl)];by_cases hq:q.wd ws lv=0
   ·rw[hq]at h4;rw[if_pos hq];simp only[IY,Option.getD,Option.isSome,aW,Pn.aA p,Pn.aA q]at h1 h4 ⊢;simp[h1,h4]
   ·rw[if_neg hq];simp only[IY,Option.getD,Option.isSome,Pn.aA p,Pn.aA q]at h1 h4 ⊢;simp[h1,h4,hq]
end Go.Proofs.YtjdfjgmebalaaaaGreat.P
namespace Go.Av
def wX (s:Stp):List IV:=[.int s.1, .isl (aD s.2)]
def bR (l:List Stp):List (List IV):=l.map wX
@[simp] theorem AO2 (l:List Stp):(bR l).length=l.length:=by simp[bR]
theorem G8 (a b:List Stp):bR (a++b)=bR a++bR b:=by simp[bR]
@[simp] theorem ABS (n:Nat) (l:List Stp):(bR l).take n=bR (l.take n):=by simp[bR,zC4]
theorem AFD:bR []=[]:=rfl
theorem nX {l:List Stp} {i:Nat} {s:Stp} (h:l[i]?=some s):fU (bR l) i=some (wX s):=by
 rw[fI];simp[bR,h]
theorem WT {ws:List Int} {p:Pn} {lv:Nat} (h:p.wd ws lv≠0) (hk:p.kids≠[]):p.kids.length≤2∧lv≠0∧∀ a∈p.kids,a.wd ws (lv-1)≠0:=by
 rw[Pn.BP]at h;obtain⟨h1,h2⟩:=gP h;refine⟨Pn.LD h1.1,h1.2.resolve_left hk,?_⟩;split at h2
 ·rename_i hk1;exact absurd (Pn.AU h1.1 hk1) hk
 ·obtain⟨h3,_⟩:=gP h2;exact fun a ha=>by simpa using zO.1 h3 a ha
theorem wY (ws:List Int) (path:List Int):∀ (l m:List Pn) (i:Nat),I8 ws path i (l++m)=I8 ws path i l++I8 ws path (i+l.length) m
 | [],m,i=>by simp[I8]
 | a::l,m,i=>by simp only[yX,I8,wY ws path l m (i+1),yY,zQ];congr 3;omega
theorem TG (ws:List Int) (path:List Int) {l:List Pn} {i:Nat} {a:Pn} (h:l[i]?=some a):I8 ws path 0 (l.take (i+1))=I8 ws path 0 (l.take i)++stI ws (path++[(i:Int)]) a:=by
 have hl:(l.take i).length=i:=by have:=(zY.1 h).1;simp;omega
 rw[aL h,wY,hl];simp[I8]
theorem APZ (ws:List Int):∀ (p:Pn) (path:List Int),(stI ws path p).length≤11*p.size:=by
 intro p
 induction p using Pn.ind with
 | h k t es cs ks ih =>
  intro path
  have hL:∀ (l:List Pn) (i:Nat),(∀ a∈l,a∈ks)→(I8 ws path i l).length≤11*Pn.aM l:=by
   intro l
   induction l with
   | nil=>intro i _;simp[I8,Pn.aM]
   | cons a l ihl =>
    intro i hm;have h1:=ih a (hm a (by simp)) (path++[(i:Int)]);have h2:=ihl (i+1) fun x hx=>hm x (by simp[hx])
    simp only[I8,Pn.aM,zN];omega
  have h1:=hL ks 0 fun a h=>h
  have h2:∀ f:Int→Bool,(rules.filter f).length≤11:=fun f=>by have:=List.length_filter_le f rules;simpa [rules]using this
  simp only[stI,Pn.size,zN,zA3];have:=h2 fun r=>(rwL ws r (8-path.length) (.mk k t es cs ks)).isSome
  omega
def OX (ws path:List Int) (p:Pn) (i:Nat):List Stp:=((rules.take i).filter fun r=>(rwL ws r (8-path.length) p).isSome).map fun r=>(r,path)
theorem DX {ws path:List Int} {p:Pn} {i:Nat} (h:i<11):OX ws path p (i+1)=OX ws path p i++if(rwL ws ((i:Int)+1) (8-path.length) p).isSome=true then [((i:Int)+1,path)]else []:=by
 have h1:rules[i]?=some ((i:Int)+1):=by
  have:i=0∨i=1∨i=2∨i=3∨i=4∨i=5∨i=6∨i=7∨i=8∨i=9∨i=10:=by omega
  rcases this with rfl|rfl|rfl|rfl|rfl|rfl|rfl|rfl|rfl|rfl|rfl<;>rfl
 unfold OX;rw[aL h1,List.filter_append,yD];congr 1;simp only[List.filter];split<;>rename_i h2<;>simp[h2]
theorem AFM (ws path:List Int) (p:Pn):stI ws path p=OX ws path p 11++I8 ws path 0 p.kids:=by
 rw[AOB];rfl
end Go.Av
namespace Go.Proofs.YtjdfjgmebalaaaaGreat.P
open Go Go.Av
set_option maxRecDepth 4000
set_option maxHeartbeats 4000000
structure Yl (R:Rng) (cs:List AV):Prop where
 ids:cs=[.own 1 0, .junk, .junk]
 y00:∀ r:Int,aI C0 lU [.fn (.yield 0) [.own 0 0], .agg [.int r, .nils]] [some (.loop R cs .ready),some (.box [.nils])]=some (.bool true,[some (.loop R cs .ready),some (.box [.osl 2 2 0 1]),some (.arr 2 [[.int r, .isl []]])])
 y01:∀ (r:Int) (path:List Int),path≠[]→aI C0 lU [.fn (.yield 0) [.own 0 0], .agg [.int r, .osl 2 1 0 path.length]] [some (.loop R cs .ready),some (.box [.nils]),some (.arr 1 (aD path))]=some (.bool true,[some (.loop R cs .ready),some (.box [.osl 3 2 0 1]),some (.frz 1 (aD path)),some (.arr 2 [[.int r, .isl (aD path)]])])
 y10:∀ (r:Int) (n:Nat) (l:List Stp),l.length=n→n≠0→n<1000000→aI C0 lU [.fn (.yield 0) [.own 0 0], .agg [.int r, .nils]] [some (.loop R cs .ready),some (.box [.osl 2 2 0 n]),some (.arr 2 (bR l))]=some (.bool true,[some (.loop R cs .ready),some (.box [.osl 3 2 0 (n+1)]),none,some (.arr 2 (bR l++[[.int r, .isl []]]))])
 y11:∀ (r:Int) (n:Nat) (l:List Stp) (path:List Int),path≠[]→l.length=n→n≠0→n<1000000→aI C0 lU [.fn (.yield 0) [.own 0 0], .agg [.int r, .osl 3 1 0 path.length]] [some (.loop R cs .ready),some (.box [.osl 2 2 0 n]),some (.arr 2 (bR l)),some (.arr 1 (aD path))]=some (.bool true,[some (.loop R cs .ready),some (.box [.osl 4 2 0 (n+1)]),none,some (.frz 1 (aD path)),some (.arr 2 (bR l++[[.int r, .isl (aD path)]]))])
theorem AKT (p:Pn) (ws:List Int):aI C0 60 [.i (.iref p.cells), .i (.isl (aD ws))] []=some (.fn (.func 95) [.own 0 0, .own 1 0],[some (.box [.i (.iref p.cells)]),some (.box [.i (.isl (aD ws))])]):=by
 rw[aF rfl Tryz.func60 rfl rfl];simp
set_option maxHeartbeats 8000000
theorem ADM (path:List Int):path=[]∨path≠[]:=by cases path<;>simp
end Go.Proofs.YtjdfjgmebalaaaaGreat.P
namespace Go.Av
theorem nO {p:Pn} {ws:List Int} (h:p.width ws≠0):kM ws=true∧p.wd ws 8≠0∧p.width ws=p.wd ws 8:=by
 unfold Pn.width at h ⊢;split at h
 ·rename_i hw;exact⟨hw,h,if_pos hw⟩
 ·exact absurd rfl h
def JL (p:Pn) (ws:List Int):List Stp:=if p.width ws=0 then []else stI ws [] p
theorem ANE {ws path:List Int} {p:Pn} {i:Nat} {s:Stp} (h:s∈OX ws path p i):s.2=path:=by
 unfold OX at h;obtain⟨r,_,rfl⟩:=yK.1 h;rfl
mutual
theorem AFL (ws:List Int):∀ (p:Pn) (path:List Int),∀ s∈stI ws path p,∃ r,s.2=path++r
 | .mk k t es cs ks,path,s,h=>by
  rw[AFM]at h
  rcases zV.1 h with h|h
  ·exact⟨[],by rw[ANE h];simp⟩
  ·obtain⟨j,r,_,hr⟩:=Z9 ws ks path 0 s h;exact⟨_,hr⟩
theorem Z9 (ws:List Int):∀ (l:List Pn) (path:List Int) (i:Nat),∀ s∈I8 ws path i l,∃ (j:Nat) (r:List Int),i≤j∧s.2=path++((j:Int)::r)
 | [],_,_,s,h=>by simp[I8]at h
 | a::l,path,i,s,h=>by
  simp only[I8,zV]at h
  rcases h with h|h
  ·obtain⟨r,hr⟩:=AFL ws a (path++[(i:Int)]) s h;exact⟨i,r,zP _,by rw[hr];simp⟩
  ·obtain⟨j,r,hj,hr⟩:=Z9 ws l path (i+1) s h;exact⟨j,r,by omega,hr⟩
end
end Go.Av
namespace Go.Proofs.YtjdfjgmebalaaaaGreat.P
open Go Go.Av
set_option maxRecDepth 4000
set_option maxHeartbeats 8000000
end Go.Proofs.YtjdfjgmebalaaaaGreat.P
namespace Go.Av
theorem dJ {ws:List Int}:∀ (p:Pn) (lv:Nat),p.wd ws lv≠0→p.thin:=by
 intro p
 induction p using Pn.ind with
 | h k t es cs ks ih =>
  intro lv h
  have hk:∀ a∈ks,a.thin:=fun a ha=>by
   have h2:=(WT (p:=.mk k t es cs ks) h (by intro e;simp only[Pn.kids]at e;rw[e]at ha;simp at ha)).2.2 a ha;exact ih a ha _ h2
  have hs:=rC h;rw[Pn.bO];generalize hp:Pn.mk k t es cs ks=p at *
  have hks:ks=p.kids:=by rw[← hp];rfl
  subst hks;have ok1:∀ {w:Int} {e:Ex},e.ok w=true→e.thin:=fun h=>Ex.fZ _ (by have:=Ex.gH h;omega)
  cases hs with
  | scan=>simp[Pn.scan,Pn.exprs,Pn.cols,Pn.kids]
  | filt m e a _ _ he=>exact⟨by simp[filt,Pn.exprs],fun x hx=>by simp[filt,Pn.exprs]at hx;subst hx;exact ok1 he,by simp[filt,Pn.cols],by simp[filt,Pn.kids],hk⟩
  | proj m es a _ _ hl he=>exact⟨by simp[proj,Pn.exprs];unfold bQ at hl;simp at hl;omega,fun x hx=>ok1 (he x hx),by simp[proj,Pn.cols],by simp[proj,Pn.kids],hk⟩
  | pair m kd e a b _ _ _ _ _ he=>exact⟨by simp[bB,Pn.exprs],fun x hx=>by simp[bB,Pn.exprs]at hx;subst hx;exact ok1 he,by simp[bB,Pn.cols],by simp[bB,Pn.kids],hk⟩
  | union m a b=>exact⟨by simp[dF,Pn.exprs],by simp[dF,Pn.exprs],by simp[dF,Pn.cols],by simp[dF,Pn.kids],hk⟩
  | dist m a=>exact⟨by simp[Pn.exprs],by simp[Pn.exprs],by simp[Pn.cols],by simp[Pn.kids],hk⟩
  | group m cs a _ _ hc=>exact⟨by simp[Pn.exprs],by simp[Pn.exprs],by simp only[Pn.cols];omega,by simp[Pn.kids],hk⟩
theorem VG (c:Int):(AAR c).thin:=by simp[AAR,Ex.thin,Ex.rH]
theorem sN (a:Int) (n:Nat):∀ b∈aX a n,b.thin:=by
 intro b hb;simp only[aX,yK]at hb;obtain⟨i,_,rfl⟩:=hb;exact VG _
theorem YZ {ws:List Int} {p:Pn} (h:p.wd ws 8≠0) (hk:p.kids≠[]):∀ a∈p.kids,a.wd ws 8≠0:=fun a ha=>by
 have h2:=(WT h hk).2.2 a ha;rw[Pn.gD a 7 8 h2 (by omega)];exact h2
end Go.Av
namespace Go.Proofs.YtjdfjgmebalaaaaGreat.P
open Go Go.Av
set_option maxRecDepth 4000
set_option maxHeartbeats 4000000
theorem JQ {ws:List Int} (hw:kM ws=true) {p:Pn} (hp:p.thin):aI C0 104 [.i (.agg p.cells), .i (.isl (aD ws)), .int 8] []=some (.int (p.wd ws 8),[]):=by
 refine CE (jV hw) ?_ p (Pn.Z0 p hp) 8 (by omega);unfold kM at hw;simp at hw;omega
theorem fC (e:Ex) (p:Pn):aI C0 167 [.i (.agg e.cells), .i (.agg p.cells)] []=some (.i (.agg (filt e p).cells),[]):=by
 rw[aF rfl Tryz.func167 rfl rfl,aV,Ex.aA,Pn.aA];simp
def CFX (a:Int) (n i:Nat):AS :=
 { env:=[(0, .int a),(1, .int n),(4, .nils),(5, .osl 0 5 0 i),(6, .int i),(10,jk i (.bool true))],st:=[some (.arr 5 (Ex.aB (aX a i)))] }
theorem oW (a:Int) (ha:0≤a∧a≤100) (n:Nat) (hn:n<1000):aI C0 137 [.int a, .int n] []=some (.osl 0 5 0 n,[some (.arr 5 (Ex.aB (aX a n)))]):=by
 rw[aF rfl Tryz.func137 rfl rfl];simp;rw[aT (CFX a n) n (by simp[CFX,aX,Ex.aB])]
 ·rw[aG];have h8:(aX a n).take n=aX a n:=zZ (by simp);simp[CFX,h8]
 ·intro i hi;have w2:IntKind.i64.wrap ((i:Int)+1)=i+1:=wrO;have w3:IntKind.i64.wrap (a+(i:Int))=a+i:=wrO;have h8:(aX a i).take i=aX a i:=zZ (by simp);simp[CFX,hi,w2,w3,h8,QN,Ex.aZ,lL,show(i+1)*56≤140737488355328 by omega]
def oO (ws:List Int) (r:Int) (e:Ex) (k:Pn):Prop:=aI C0 136 [.i (.agg (filt e k).cells), .int r, .i (.isl (aD ws))] []=some (.tup [.i (.agg ((rwF ws r e k).getD (filt e k)).cells), .bool (rwF ws r e k).isSome],[])
theorem X3 {ws:List Int} (hw:kM ws=true) {e:Ex} {k:Pn} (hp:(filt e k).wd ws 8≠0) {r:Int} (hr:r≠1∧r≠2∧r≠3∧r≠4∧r≠5∧r≠7∧r≠8∧r≠10):oO ws r e k:=by
 obtain⟨h1,h2,h3⟩:=wE hp;have c1:=JQ hw (dJ k 8 h1);unfold oO;obtain⟨r1,r2,r3,r4,r5,r7,r8,r10⟩:=hr;have hn:rwF ws r e k=none:=by simp[rwF,r1,r2,r3,r4,r5,r7,r8,r10]
 rw[hn,aF rfl Tryz.func136 rfl rfl]
 cases hk:k.kids with
 | nil =>
  simp only[Option.getD,aV,Ex.aA e,Pn.aA k,hk,Pn.aB]at c1 ⊢;simp[c1,r1,r2,r3,r4,r5,r7,r8,r10]
 | cons x xs =>
  have c2:=JQ hw (dJ x 8 (YZ h1 (by simp[hk]) x (by simp[hk])));simp only[Option.getD,aV,Ex.aA e,Pn.aA k,hk,Pn.aB,Pn.aA x]at c1 c2 ⊢;simp[c1,c2,r1,r2,r3,r4,r5,r7,r8,r10]
theorem oU {ws:List Int} (hw:kM ws=true) {e:Ex} {k:Pn} (hp:(filt e k).wd ws 8≠0) {r:Int} (hr:(r=1∧k.kind≠2)∨(r=2∧e.kind≠8)∨(r=3∧¬ (k.kind=4∨k.kind=5))∨(r=4∧k.kind≠4)∨(r=5∧k.kind≠4)∨(r=7∧k.kind≠5)∨(r=8∧k.kind≠6)∨(r=10∧k.kind≠3)):oO ws r e k:=by
 obtain⟨h1,h2,h3⟩:=wE hp;have c1:=JQ hw (dJ k 8 h1);unfold oO
 have hn:rwF ws r e k=none:=by
  rcases hr with ⟨rfl,q⟩|⟨rfl,q⟩|⟨rfl,q⟩|⟨rfl,q⟩|⟨rfl,q⟩|⟨rfl,q⟩|⟨rfl,q⟩|⟨rfl,q⟩<;>simp[rwF,q]
 have hr':(r=1∧k.kind≠2)∨(r=2∧e.kind≠8)∨(r=3∧(k.kind≠4∧k.kind≠5))∨(r=4∧k.kind≠4)∨(r=5∧k.kind≠4)∨(r=7∧k.kind≠5)∨(r=8∧k.kind≠6)∨(r=10∧k.kind≠3):=by omega
 rw[hn,aF rfl Tryz.func136 rfl rfl]
 cases hk:k.kids with
 | nil =>
  simp only[Option.getD,aV,Ex.aA e,Pn.aA k,hk,Pn.aB]at c1 ⊢
  rcases hr' with ⟨rfl,q⟩|⟨rfl,q⟩|⟨rfl,q⟩|⟨rfl,q⟩|⟨rfl,q⟩|⟨rfl,q⟩|⟨rfl,q⟩|⟨rfl,q⟩<;>simp[c1,q]
 | cons x xs =>
  have c2:=JQ hw (dJ x 8 (YZ h1 (by simp[hk]) x (by simp[hk])));simp only[Option.getD,aV,Ex.aA e,Pn.aA k,hk,Pn.aB,Pn.aA x]at c1 c2 ⊢
  rcases hr' with ⟨rfl,q⟩|⟨rfl,q⟩|⟨rfl,q⟩|⟨rfl,q⟩|⟨rfl,q⟩|⟨rfl,q⟩|⟨rfl,q⟩|⟨rfl,q⟩<;>simp[c1,c2,q]
theorem AV4 {ws:List Int} (hw:kM ws=true) {e e2:Ex} {a:Pn} (hp:(filt e (filt e2 a)).wd ws 8≠0):oO ws 1 e (filt e2 a):=by
 obtain⟨h1,h2,h3⟩:=wE hp;have c1:=JQ hw (dJ _ 8 h1);have c2:=JQ hw (dJ _ 8 (wE h1).1);have c3:=fC (AB3 e2 e) a;have hr:rwF ws 1 e (filt e2 a)=some (filt (AB3 e2 e) a):=by simp[rwF,filt,Pn.ex0,Pn.jG,Pn.kind,Pn.exprs,Pn.kids]
 unfold oO;rw[hr,aF rfl Tryz.func136 rfl rfl];generalize (filt e2 a).wd ws 8=W at *
 generalize a.wd ws 8=V at *
 simp only[Option.getD,Option.isSome,aV,qV,Ex.aA e,Ex.aA e2,Pn.aA a]at c1 c2 c3 ⊢;simp[c1,c2,c3]
theorem AV3 {ws:List Int} (hw:kM ws=true) {e x y:Ex} {k:Pn} (hp:(filt e k).wd ws 8≠0) (he:e.kind=8) (hk2:e.kids=[x,y]):oO ws 2 e k:=by
 obtain⟨h1,h2,h3⟩:=wE hp;have c1:=JQ hw (dJ k 8 h1);have c3:=fC x k;have c4:=fC y (filt x k);have hr:rwF ws 2 e k=some (filt y (filt x k)):=by simp[rwF,he,Ex.jG,Ex.qP,hk2]
 unfold oO;rw[hr,aF rfl Tryz.func136 rfl rfl]
 cases hk:k.kids with
 | nil =>
  simp only[Option.getD,Option.isSome,aV,Ex.aA e,hk2,Ex.aB,Ex.aA x,Ex.aA y,Pn.aA k,hk,Pn.aB]at c1 c3 c4 ⊢;simp[c1,c3,c4,he]
 | cons z zs =>
  have c2:=JQ hw (dJ z 8 (YZ h1 (by simp[hk]) z (by simp[hk])));simp only[Option.getD,Option.isSome,aV,Ex.aA e,hk2,Ex.aB,Ex.aA x,Ex.aA y,Pn.aA k,hk,Pn.aB,Pn.aA z]at c1 c2 c3 c4 ⊢;simp[c1,c2,c3,c4,he]
theorem AV2 {ws:List Int} (hw:kM ws=true) {e e2:Ex} {x y:Pn} {kd:Int} (hkd:kd=4∨kd=5) (hp:(filt e (bB kd e2 x y)).wd ws 8≠0):oO ws 3 e (bB kd e2 x y):=by
 obtain⟨h1,h2,h3⟩:=wE hp;obtain⟨g1,g2,g3,g4,g5⟩:=PV hkd h1;have c1:=JQ hw (dJ _ 8 h1);have c2:=JQ hw (dJ _ 8 g1);obtain⟨n,hn,n1,n2⟩:=BQ hw g1;rw[hn]at c2;have c3:=fC e x;have c4:=RO e (Ex.I9 h2).1 (by have:=Ex.gH h2;omega) 0 n (by omega);have w1:IntKind.i64.wrap ((n:Int)-1)=n-1:=wrO
 have hr:rwF ws 3 e (bB kd e2 x y)=if e.cin 0 n=true then some (bB kd e2 (filt e x) y)else none:=by
  simp[rwF,bB,Pn.ex0,Pn.jG,Pn.qP,Pn.kind,Pn.exprs,Pn.kids,hkd,hn]
 unfold oO;rw[hr,aF rfl Tryz.func136 rfl rfl];generalize (bB kd e2 x y).wd ws 8=W at *
 cases hb:e.cin 0 n with
 | true =>
  rw[hb]at c4;simp only[if_true,Option.getD,Option.isSome,aV,pair_cells,Ex.aA e,Ex.aA e2,Pn.aA x,Pn.aA y]at c1 c2 c3 c4 ⊢
  rcases hkd with rfl|rfl<;>simp[c1,c2,c3,c4,w1]
 | false =>
  rw[hb]at c4;simp only[yM,if_false,Option.getD,Option.isSome,aV,pair_cells,Ex.aA e,Ex.aA e2,Pn.aA x,Pn.aA y]at c1 c2 c3 c4 ⊢
  rcases hkd with rfl|rfl<;>simp[c1,c2,c4,w1]
theorem AV1 {ws:List Int} (hw:kM ws=true) {e e2:Ex} {x y:Pn} (hp:(filt e (bB 4 e2 x y)).wd ws 8≠0):oO ws 4 e (bB 4 e2 x y):=by
 obtain⟨h1,h2,h3⟩:=wE hp;obtain⟨g1,g2,g3,g4,g5⟩:=PV (.inl rfl) h1;have c1:=JQ hw (dJ _ 8 h1);have c2:=JQ hw (dJ _ 8 g1);obtain⟨n,hn,n1,n2⟩:=BQ hw g1;obtain⟨m,hm,m1,m2⟩:=BQ hw g2;have hwf:=(Ex.I9 h2).1;rw[g5,hn,hm,← Int.natCast_add]at hwf;have g5':=g5;rw[hn,hm,← Int.natCast_add]at g5';rw[g5']at c1;rw[hn]at c2;have c4:=RO e hwf (by have:=Ex.gH h2;omega) n (n+m:Nat) (by omega);have w1:IntKind.i64.wrap ((n:Int)+m-1)=n+m-1:=wrO;have w2:IntKind.i64.wrap ((n:Int)+m-n)=m:=by rw[wrO];omega
 have hr:rwF ws 4 e (bB 4 e2 x y)=if e.cin n (n+m:Nat)=true then some (bB 4 e2 x (filt (e.AL (·-n)) y))else none:=by
  have:=g5';unfold bB at this;simp[rwF,bB,Pn.ex0,Pn.jG,Pn.qP,Pn.kind,Pn.exprs,Pn.kids,hn,this]
 have f1:=oW 0 (by omega) n (by omega);have f2:=oW 0 (by omega) m (by omega);have hlen:(aX 0 n++aX 0 m).length=n+m:=by simp
 have f3:=mY (aX 0 n++aX 0 m) (fun b hb=>by
  rcases zV.1 hb with h|h<;>exact sN _ _ b h) e (Ex.fZ _ (by have:=Ex.gH h2;omega)) (by rw[hlen];exact Ex.IE e hwf)
 unfold oO;rw[hr,aF rfl Tryz.func136 rfl rfl]
 cases hb:e.cin n (n+m:Nat)with
 | true =>
  have hsub:e.sub (aX 0 n++aX 0 m)=e.AL (·-n):=Ex.Z7 (g:=fun c=>decide ((n:Int)≤c∧c<(n+m:Nat))) (fun c hc=>by
   simp only[zM]at hc;rw[zI (by simp;omega),uS,uR (by omega)]
   congr 2;omega) e hb
  rw[hsub]at f3;have c3:=fC (e.AL (·-n)) y;generalize e.AL (·-(n:Int))=z at *
  rw[hb]at c4;have ht:∀ k:Nat,(aX 0 k).take k=aX 0 k:=fun k=>zZ (by simp)
  have ht2:(Ex.aB (aX 0 n)++Ex.aB (aX 0 m)).take (n+m)=Ex.aB (aX 0 n)++Ex.aB (aX 0 m):=zZ (by simp);have hl1:(n+m)*56≤140737488355328:=by omega
  simp only[yC]at c1 c4;simp only[if_true,Option.getD,Option.isSome,aV,pair_cells,Ex.aA e,Ex.aA e2,Ex.aA z,Pn.aA x,Pn.aA y,Ex.kS]at c1 c2 c3 c4 f3 ⊢;simp[c1,c2,c3,c4,w1,w2,f1,f2,f3,ht,ht2,hl1]
 | false =>
  rw[hb]at c4;simp only[yC]at c1 c4;simp only[yM,if_false,Option.getD,Option.isSome,aV,pair_cells,Ex.aA e,Ex.aA e2,Pn.aA x,Pn.aA y]at c1 c2 c4 ⊢;simp[c1,c2,c4,w1]
theorem AV0 {ws:List Int} (hw:kM ws=true) {e e2:Ex} {x y:Pn} (hp:(filt e (bB 4 e2 x y)).wd ws 8≠0):oO ws 5 e (bB 4 e2 x y):=by
 obtain⟨h1,h2,h3⟩:=wE hp;obtain⟨g1,g2,g3,g4,g5⟩:=PV (.inl rfl) h1;have c1:=JQ hw (dJ _ 8 h1);have c2:=JQ hw (dJ _ 8 g1)
 have hr:rwF ws 5 e (bB 4 e2 x y)=some (bB 4 (AB3 e2 e) x y):=by
  simp[rwF,bB,Pn.ex0,Pn.jG,Pn.qP,Pn.kind,Pn.exprs,Pn.kids]
 unfold oO;rw[hr,aF rfl Tryz.func136 rfl rfl];generalize (bB 4 e2 x y).wd ws 8=W at *
 generalize x.wd ws 8=V at *
 simp only[Option.getD,Option.isSome,aV,pair_cells,qV,Ex.aA e,Ex.aA e2,Pn.aA x,Pn.aA y]at c1 c2 ⊢;simp[c1,c2]
theorem AUZ {ws:List Int} (hw:kM ws=true) {e e2:Ex} {x y:Pn} (hp:(filt e (bB 5 e2 x y)).wd ws 8≠0):oO ws 7 e (bB 5 e2 x y):=by
 obtain⟨h1,h2,h3⟩:=wE hp;obtain⟨g1,g2,g3,g4,g5⟩:=PV (.inr rfl) h1;have c1:=JQ hw (dJ _ 8 h1);have c2:=JQ hw (dJ _ 8 g1);obtain⟨n,hn,n1,n2⟩:=BQ hw g1;obtain⟨m,hm,m1,m2⟩:=BQ hw g2;have hwf:=(Ex.I9 h2).1;rw[g5,hn,hm,← Int.natCast_add]at hwf;have g5':=g5;rw[hn,hm,← Int.natCast_add]at g5';rw[g5']at c1;rw[hn]at c2;have c3:=fC e (bB 4 e2 x y);have f1:=QM (n:=n+m) (p:=n) (m:=m) rfl (by omega);have f2:=X4 e (n:=n+m) (p:=n) (m:=m) rfl (by omega) hwf
 have hr:rwF ws 7 e (bB 5 e2 x y)=if AG4 e (n+m:Nat) n=true then some (filt e (bB 4 e2 x y))else none:=by
  have:=g5';unfold bB at this;simp[rwF,bB,Pn.ex0,Pn.jG,Pn.qP,Pn.kind,Pn.exprs,Pn.kids,hn,this]
 unfold oO;rw[hr,aF rfl Tryz.func136 rfl rfl];simp only[yC]at c1 f1 f2
 cases hb:AG4 e (n+m:Nat) n with
 | true =>
  rw[show AG4 e ((n:Int)+m) n=true by rw[← Int.natCast_add];exact hb]at f2;simp only[if_true,Option.getD,Option.isSome,aV,pair_cells,Ex.aA e,Ex.aA e2,Pn.aA x,Pn.aA y]at c1 c2 c3 f2 ⊢;simp[c1,c2,c3,f1,f2]
 | false =>
  rw[show AG4 e ((n:Int)+m) n=false by rw[← Int.natCast_add];exact hb]at f2;simp only[yM,if_false,Option.getD,Option.isSome,aV,pair_cells,Ex.aA e,Ex.aA e2,Pn.aA x,Pn.aA y]at c1 c2 f2 ⊢;simp[c1,c2,f1,f2]
theorem AUY {ws:List Int} (hw:kM ws=true) {e:Ex} {x y:Pn} (hp:(filt e (dF x y)).wd ws 8≠0):oO ws 8 e (dF x y):=by
 obtain⟨h1,h2,h3⟩:=wE hp;have c1:=JQ hw (dJ _ 8 h1);have c2:=JQ hw (dJ x 8 (YZ h1 (by simp[dF,Pn.kids]) x (by simp[dF,Pn.kids])));have c3:=fC e x;have c4:=fC e y
 have hr:rwF ws 8 e (dF x y)=some (dF (filt e x) (filt e y)):=by
  simp[rwF,dF,Pn.ex0,Pn.jG,Pn.qP,Pn.kind,Pn.exprs,Pn.kids]
 unfold oO;rw[hr,aF rfl Tryz.func136 rfl rfl];generalize (dF x y).wd ws 8=W at *
 generalize x.wd ws 8=V at *
 simp only[Option.getD,Option.isSome,aV,JH,Ex.aA e,Pn.aA x,Pn.aA y]at c1 c2 c3 c4 ⊢;simp[c1,c2,c3,c4]
theorem AQ7 {ws:List Int} (hw:kM ws=true) {e:Ex} {es:List Ex} {x:Pn} (hp:(filt e (proj es x)).wd ws 8≠0):oO ws 10 e (proj es x):=by
 obtain⟨h1,h2,h3⟩:=wE hp;obtain⟨g1,g2,g3,g4⟩:=ACH h1;have c1:=JQ hw (dJ _ 8 h1);have c2:=JQ hw (dJ _ 8 g1);rw[g4]at h2;have c3:=fC (e.sub es) x;have f3:=mY es (fun b hb=>Ex.fZ _ (by have:=Ex.gH (zO.1 g3 b hb);omega)) e (Ex.fZ _ (by have:=Ex.gH h2;omega)) (Ex.IE e (Ex.I9 h2).1)
 have hr:rwF ws 10 e (proj es x)=some (proj es (filt (e.sub es) x)):=by
  simp[rwF,proj,Pn.ex0,Pn.jG,Pn.qP,Pn.kind,Pn.exprs,Pn.kids]
 unfold oO;rw[hr,aF rfl Tryz.func136 rfl rfl];generalize (proj es x).wd ws 8=W at *
 generalize x.wd ws 8=V at *
 generalize e.sub es=z at *
 simp only[Option.getD,Option.isSome,aV,jS,Ex.aA e,Ex.aA z,Pn.aA x]at c1 c2 c3 f3 ⊢;simp[c1,c2,c3,f3]
theorem AKY {ws:List Int} (hw:kM ws=true) {e:Ex} {k:Pn} (hp:(filt e k).wd ws 8≠0) (r:Int):oO ws r e k:=by
 obtain⟨h1,h2,h3⟩:=wE hp;by_cases hr:r≠1∧r≠2∧r≠3∧r≠4∧r≠5∧r≠7∧r≠8∧r≠10
 ·exact X3 hw hp hr
 have hk:=nN h1;have hr':r=1∨r=2∨r=3∨r=4∨r=5∨r=7∨r=8∨r=10:=by omega
 rcases hr' with rfl|rfl|rfl|rfl|rfl|rfl|rfl|rfl
 ·by_cases q:k.kind=2
  ·obtain⟨e2,a,rfl⟩:=qX hk q;exact AV4 hw hp
  ·exact oU hw hp (.inl ⟨rfl,q⟩)
 ·by_cases q:e.kind=8
  ·rcases Ex.BO (Ex.I9 h2).1 with ⟨h,_⟩|⟨h,_⟩|⟨h,_⟩|⟨_,x,y,h,_⟩
   ·omega
   ·omega
   ·omega
   ·exact AV3 hw hp q h
  ·exact oU hw hp (.inr (.inl ⟨rfl,q⟩))
 ·by_cases q:k.kind=4∨k.kind=5
  ·obtain⟨e2,x,y,hx⟩:=jN hk q;generalize k.kind=kd at *
   subst hx;exact AV2 hw q hp
  ·exact oU hw hp (.inr (.inr (.inl ⟨rfl,q⟩)))
 ·by_cases q:k.kind=4
  ·obtain⟨e2,x,y,hx⟩:=jN hk (.inl q);rw[q]at hx;subst hx;exact AV1 hw hp
  ·exact oU hw hp (.inr (.inr (.inr (.inl ⟨rfl,q⟩))))
 ·by_cases q:k.kind=4
  ·obtain⟨e2,x,y,hx⟩:=jN hk (.inl q);rw[q]at hx;subst hx;exact AV0 hw hp
  ·exact oU hw hp (.inr (.inr (.inr (.inr (.inl ⟨rfl,q⟩)))))
 ·by_cases q:k.kind=5
  ·obtain⟨e2,x,y,hx⟩:=jN hk (.inr q);rw[q]at hx;subst hx;exact AUZ hw hp
  ·exact oU hw hp (.inr (.inr (.inr (.inr (.inr (.inl ⟨rfl,q⟩))))))
 ·by_cases q:k.kind=6
  ·obtain⟨x,y,rfl⟩:=AJE hk q;exact AUY hw hp
  ·exact oU hw hp (.inr (.inr (.inr (.inr (.inr (.inr (.inl ⟨rfl,q⟩)))))))
 ·by_cases q:k.kind=3
  ·obtain⟨es,x,rfl⟩:=pK hk q;exact AQ7 hw hp
  ·exact oU hw hp (.inr (.inr (.inr (.inr (.inr (.inr (.inr ⟨rfl,q⟩)))))))
def SRw (ws:List Int) (r:Int) (p:Pn):Prop:=aI C0 102 [.i (.agg p.cells), .int r, .i (.isl (aD ws))] []=some (.tup [.i (.agg ((rwP ws r p).getD p).cells), .bool (rwP ws r p).isSome],[])
theorem AKX {ws:List Int} (hw:kM ws=true) {e:Ex} {k:Pn} (hp:(filt e k).wd ws 8≠0) (r:Int):SRw ws r (filt e k):=by
 have h:=AKY hw hp r;unfold oO at h;unfold SRw;rw[fD];generalize (rwF ws r e k).getD (filt e k)=q at *
 generalize (rwF ws r e k).isSome=b at *
 rw[aF rfl Tryz.func102 rfl rfl];simp only[aV,Pn.aA q]at h ⊢;simp[h]
theorem AUW {ws:List Int} {p:Pn} {r:Int} (h2:p.kind≠2) (h4:¬ (r=6∧p.kind=4)) (h7:¬ (r=9∧p.kind=7)) (h3:¬ (r=11∧p.kind=3)):SRw ws r p:=by
 have hn:rwP ws r p=none:=by
  unfold rwP;rw[if_neg h2,if_neg h4,if_neg (fun h=>h7 ⟨h.1,h.2.1⟩),if_neg (fun h=>h3 ⟨h.1,h.2.1⟩)]
 unfold SRw;rw[hn,aF rfl Tryz.func102 rfl rfl];simp only[Option.getD,Option.isSome,Pn.aA p];by_cases r6:r=6
 ·have k4:¬ p.kind=4:=fun h=>h4 ⟨r6,h⟩
  simp[h2,r6,k4]
 ·by_cases r9:r=9
  ·have k7:¬ p.kind=7:=fun h=>h7 ⟨r9,h⟩
   simp[h2,r9,k7]
  ·by_cases r11:r=11
   ·have k3:¬ p.kind=3:=fun h=>h3 ⟨r11,h⟩
    simp[h2,r11,k3]
   ·simp[h2,r6,r9,r11]
theorem AQ6 {ws:List Int} (hw:kM ws=true) {e:Ex} {x y:Pn} (hp:(bB 4 e x y).wd ws 8≠0):SRw ws 6 (bB 4 e x y):=by
 obtain⟨g1,g2,g3,g4,g5⟩:=PV (.inl rfl) hp;have c1:=JQ hw (dJ _ 8 g1);have c2:=JQ hw (dJ _ 8 g2);obtain⟨n,hn,n1,n2⟩:=BQ hw g1;obtain⟨m,hm,m1,m2⟩:=BQ hw g2;have hwf:=(Ex.I9 g4).1;rw[hn]at c1 hwf;rw[hm]at c2 hwf;have f1:=oW m (by omega) n (by omega);have f2:=oW 0 (by omega) m (by omega);have hlen:(aX (m:Int) n++aX 0 m).length=n+m:=by simp
 have f3:=mY (aX (m:Int) n++aX 0 m) (fun b hb=>by
  rcases zV.1 hb with h|h<;>exact sN _ _ b h) e (Ex.fZ _ (by have:=Ex.gH g4;omega)) (by rw[hlen,yC];exact Ex.IE e hwf)
 have hsub:e.sub (aX (m:Int) n++aX 0 m)=e.AL (rJ n m):=Ex.Z7 (g:=fun c=>decide (0≤c∧c<(n:Int)+m)) (fun c hc=>by
  simp only[zM]at hc;rw[AAP (by omega)]
  congr 3;omega) e (Ex.P6 e hwf)
 rw[hsub]at f3
 have hr:rwP ws 6 (bB 4 e x y)=some (proj (aX m n++aX 0 m) (bB 4 (e.AL (rJ n m)) y x)):=by
  simp[rwP,bB,Pn.ex0,Pn.jG,Pn.qP,Pn.kind,Pn.exprs,Pn.kids,hn,hm]
 unfold SRw;rw[hr,aF rfl Tryz.func102 rfl rfl];generalize e.AL (rJ n m)=z at *
 have ht:∀ (a:Int) (k:Nat),(aX a k).take k=aX a k:=fun a k=>zZ (by simp)
 have ht2:(Ex.aB (aX m n)++Ex.aB (aX 0 m)).take (n+m)=Ex.aB (aX m n)++Ex.aB (aX 0 m):=zZ (by simp);have hl1:(n+m)*56≤140737488355328:=by omega
 simp only[Option.getD,Option.isSome,jS,pair_cells,Ex.aA e,Ex.aA z,Pn.aA x,Pn.aA y,Ex.kS]at c1 c2 f3 ⊢;simp[c1,c2,f1,f2,f3,ht,ht2,hl1]
theorem AKW {ws:List Int} {a:Pn}:SRw ws 9 (.mk 7 0 [] [] [a]):=by
 have hc:(Pn.mk 7 0 [] [] [a]).cells=[.int 7, .int 0, .isl [], .isl [], .isl [a.cells]]:=by simp[Pn.cells,Ex.aB,aD,Pn.aB]
 unfold SRw;rw[aF rfl Tryz.func102 rfl rfl];by_cases h:a.kind=7∨a.kind=8
 ·have hr:rwP ws 9 (.mk 7 0 [] [] [a])=some a:=by simp[rwP,Pn.jG,Pn.kids,h]
  rw[hr];simp only[Option.getD,Option.isSome,hc,Pn.aA a]
  rcases h with h|h<;>simp[h]
 ·have hr:rwP ws 9 (.mk 7 0 [] [] [a])=none:=by simp[rwP,Pn.jG,Pn.kids,h]
  rw[hr];simp only[Option.getD,Option.isSome,hc,Pn.aA a];have h7:¬ a.kind=7:=by omega
  have h8:¬ a.kind=8:=by omega
  simp[h7,h8]
theorem PH {ws:List Int} {fs:List Ex} {a:Pn} (h:a.kind≠3):SRw ws 11 (proj fs a):=by
 have hr:rwP ws 11 (proj fs a)=none:=by simp[rwP,Pn.jG,Pn.kids,proj,h]
 unfold SRw;rw[hr,aF rfl Tryz.func102 rfl rfl];simp only[Option.getD,Option.isSome,jS,Pn.aA a];simp[h]
def SRX (fs es:List Ex) (x:Pn) (ws:List Int) (zs:List Ex) (i:Nat):AS :=
 { env:=[(0, .i (.agg [.int 3, .int 0, .isl (Ex.aB fs), .isl [], .isl [[.int 3, .int 0, .isl (Ex.aB es), .isl [], .isl [[.int x.kind, .int x.table, .isl (Ex.aB x.exprs), .isl (aD x.cols), .isl (Pn.aB x.kids)]]]]])),(1, .int 11),(2, .i (.isl (aD ws))),(3, .own 0 0),(6, .own 1 0),(7, .bool false),(8, .junk),(9, .junk),(10, .junk),(11, .junk),(12, .osl 2 5 0 i),(13, .int i),(14, .bool false),(24, .bool false),(71, .bool false),(99, .bool true),(120,jk i (.bool true))],
   st:=[some (.box [.i (.int 3), .i (.int 0), .i (.isl (Ex.aB fs)), .i (.isl []), .i (.isl [[.int 3, .int 0, .isl (Ex.aB es), .isl [], .isl [[.int x.kind, .int x.table, .isl (Ex.aB x.exprs), .isl (aD x.cols), .isl (Pn.aB x.kids)]]]])]),some (.box [.int 0, .int 0, .nils, .nils, .nils]),some (.arr 5 (Ex.aB (zs.take i)))] }
theorem AC5 {ws:List Int} {fs es:List Ex} {x:Pn} (hp:(proj fs (proj es x)).wd ws 8≠0):SRw ws 11 (proj fs (proj es x)):=by
 obtain⟨h1,h2,h3,h4⟩:=ACH hp;obtain⟨g1,g2,g3,g4⟩:=ACH h1;rw[g4]at h3;have f3:=fun f (hf:f∈fs)=>mY es (fun b hb=>Ex.fZ _ (by have:=Ex.gH (zO.1 g3 b hb);omega)) f (Ex.fZ _ (by have:=Ex.gH (zO.1 h3 f hf);omega)) (Ex.IE f (Ex.I9 (zO.1 h3 f hf)).1)
 have hr:rwP ws 11 (proj fs (proj es x))=some (proj (fs.map (Ex.sub es)) x):=by
  simp[rwP,proj,Pn.ex0,Pn.jG,Pn.qP,Pn.kind,Pn.exprs,Pn.kids]
 unfold SRw;rw[hr,aF rfl Tryz.func102 rfl rfl];have hlen:fs.length≤6:=by unfold bQ at h2;simp at h2;omega
 have hz:∀ (i:Nat) (f:Ex),fs[i]?=some f→(fs.map (Ex.sub es))[i]?=some (f.sub es):=fun i f h=>by simp[h]
 have hzl:(fs.map (Ex.sub es)).length=fs.length:=by simp
 generalize fs.map (Ex.sub es)=zs at *
 simp only[Option.getD,Option.isSome,jS,Pn.aA x];simp;rw[aT (SRX fs es x ws zs) fs.length (by simp[SRX,Ex.aB])]
 ·rw[aG];have ht:zs.take fs.length=zs:=zZ (by omega);simp[SRX,ht,hzl]
 ·intro i hi;have q1:=zX hi;have hm:=zU q1;have r1:=Ex.aP q1;generalize fs[i]=f at q1 hm r1;have q2:=hz i f q1;have c5:=f3 f hm;generalize f.sub es=z at q2 c5;have htk:=aL q2;have w2:IntKind.i64.wrap ((i:Int)+1)=i+1:=wrO;have hl1:(i+1)*56≤140737488355328:=by omega
  have hl2:i≤min i zs.length:=by omega
  simp only[Ex.aA f,Ex.aA z]at c5 r1;simp[SRX,hi,r1,c5,w2,htk,Ex.aZ,Ex.aA z,hl1,hl2,zG]
theorem AUX {ws:List Int} (hw:kM ws=true) {p:Pn} (hp:p.wd ws 8≠0) (r:Int):SRw ws r p:=by
 have hk:=nN hp;by_cases k2:p.kind=2
 ·obtain⟨e,a,rfl⟩:=qX hk k2;exact AKX hw hp r
 by_cases k4:r=6∧p.kind=4
 ·obtain⟨rfl,k4⟩:=k4;obtain⟨e,x,y,hx⟩:=jN hk (.inl k4);rw[k4]at hx;subst hx;exact AQ6 hw hp
 by_cases k7:r=9∧p.kind=7
 ·obtain⟨rfl,k7⟩:=k7;obtain⟨a,rfl⟩:=AJF hk k7;exact AKW
 by_cases k3:r=11∧p.kind=3
 ·obtain⟨rfl,k3⟩:=k3;obtain⟨fs,a,rfl⟩:=pK hk k3;by_cases k33:a.kind=3
  ·obtain⟨V,hV,_⟩:=BK hk;obtain⟨es,x,rfl⟩:=pK hV k33;exact AC5 hp
  ·exact PH k33
 exact AUW k2 k4 k7 k3
end Go.Proofs.YtjdfjgmebalaaaaGreat.P
namespace Go.Av
theorem AST {path:List Int} {p a:Pn} {x:Int} (h:Pn.at path p=some a):Pn.at (path++[x]) p=if 0≤x then a.kids[x.toNat]? else none:=by
 rw[uU path p a [x] h];unfold Pn.at;split
 ·cases a.kids[x.toNat]?<;>simp[Pn.at]
 ·rfl
theorem ASU {path r:List Int} {p:Pn} (h:Pn.at path p=none):Pn.at (path++r) p=none:=by
 induction path generalizing p with
 | nil=>simp[Pn.at]at h
 | cons i path ih =>
  simp only[yX,Pn.at]at h ⊢;split
  ·rename_i h0;rw[if_pos h0]at h
   cases hk:p.kids[i.toNat]? with
   | none=>rfl
   | some b=>rw[hk]at h;exact ih h
  ·rfl
theorem AJ2 (path:List Int) (p:Pn):∃ j:Nat,(∀ i,i<j→∃ (x:Int) (a b:Pn),path[i]?=some x∧Pn.at (path.take i) p=some a∧0≤x∧a.kids[x.toNat]?=some b∧Pn.at (path.take (i+1)) p=some b)∧((∃ a,j=path.length∧Pn.at path p=some a)∨(∃ (x:Int) (a:Pn),path[j]?=some x∧Pn.at (path.take j) p=some a∧(0≤x→a.kids[x.toNat]?=none)∧Pn.at path p=none)):=by
 generalize hn:path.length=n
 induction n generalizing path with
 | zero =>
  obtain rfl:=zW.1 hn;exact⟨0,fun i hi=>by omega, .inl ⟨p,rfl,rfl⟩⟩
 | succ n ih =>
  obtain⟨l,x,rfl⟩:∃ l x,path=l++[x]:=by
   rcases zC1 path with h|⟨l,x,h⟩
   ·rw[h]at hn;simp at hn
   ·exact⟨l,x,by simpa using h⟩
  have hln:l.length=n:=by simpa using hn
  subst hln;obtain⟨j,h1,h2⟩:=ih l rfl
  have hlt:∀ i,i<j→i<l.length:=fun i hi=>by
   obtain⟨y,_,_,h,_⟩:=h1 i hi;exact(zY.1 h).1
  have h1':∀ i,i<j→∃ (x':Int) (a b:Pn),(l++[x])[i]?=some x'∧Pn.at ((l++[x]).take i) p=some a∧0≤x'∧a.kids[x'.toNat]?=some b∧Pn.at ((l++[x]).take (i+1)) p=some b:=fun i hi=>by
   obtain⟨y,a,b,q1,q2,q3,q4,q5⟩:=h1 i hi;have hl:=hlt i hi;refine⟨y,a,b,by rw[zK hl];exact q1,by rw[xG (by omega)];exact q2,q3,q4,by rw[xG (by omega)];exact q5⟩
  rcases h2 with ⟨a,rfl,ha⟩|⟨y,a,q1,q2,q3,q4⟩
  ·have hs:=AST (x:=x) ha;by_cases hx:0≤x
   ·rw[if_pos hx]at hs
    cases hk:a.kids[x.toNat]? with
    | none=>exact⟨l.length,h1', .inr ⟨x,a,by simp,by simpa using ha,fun _=>hk,by rw[hs,hk]⟩⟩
    | some b =>
     refine⟨l.length+1,fun i hi=>?_, .inl ⟨b,by simp,by rw[hs,hk]⟩⟩;by_cases hi':i<l.length
     ·exact h1' i hi'
     ·obtain rfl:i=l.length:=by omega
      exact⟨x,a,b,by simp,by simpa using ha,hx,hk,by rw[zZ (by simp),hs,hk]⟩
   ·rw[if_neg hx]at hs;exact⟨l.length,h1', .inr ⟨x,a,by simp,by simpa using ha,fun h=>absurd h hx,hs⟩⟩
  ·have hl:=(zY.1 q1).1;exact⟨j,h1', .inr ⟨y,a,by rw[zK hl];exact q1,by rw[xG (by omega)];exact q2,q3,ASU q4⟩⟩
theorem YL:∀ (path:List Int) (p a:Pn),p.thin→Pn.at path p=some a→a.thin
 | [],p,a,h,e=>by simp[Pn.at]at e;subst e;exact h
 | i::r,p,a,h,e=>by
  obtain⟨n,rfl,b,hb,hr⟩:=Pn.pV e;exact YL r b a (((Pn.bO p).1 h).2.2.2.2 b (zU hb)) hr
theorem Pn.ADR (l:List Pn) (n:Nat) (x:Pn):(Pn.aB l).set n x.cells=Pn.aB (l.set n x):=by
 induction l generalizing n with
 | nil=>simp[Pn.aB]
 | cons a l ih=>cases n with
  | zero=>simp[Pn.aB]
  | succ n=>simp[Pn.aB,ih n]
end Go.Av
namespace Go.Proofs.YtjdfjgmebalaaaaGreat.P
open Go Go.Av
set_option maxRecDepth 4000
set_option maxHeartbeats 4000000
def mU (a:Pn):Option Blk:=some (.box [.i (.int a.kind), .i (.int a.table), .i (.isl (Ex.aB a.exprs)), .i (.isl (aD a.cols)), .i (.isl (Pn.aB a.kids))])
def PAX (p:Pn) (path:List Int) (a:Pn) (i:Nat):AS :=
 { env:=[(0, .i (.agg [.int p.kind, .int p.table, .isl (Ex.aB p.exprs), .isl (aD p.cols), .isl (Pn.aB p.kids)])),(1, .i (.isl (aD path))),(2, .own 0 0),(4, .own 1 0),(5, .bool false),(6, .int i),(10,jk i (.bool true)),(22,jk i (.bool false))],
   st:=[mU a,some (.box [.int 0, .int 0, .nils, .nils, .nils])] }
theorem AGE {p:Pn} (hp:p.thin) {path:List Int} (hl:path.length<1000000):aI C0 101 [.i (.agg p.cells), .i (.isl (aD path))] []=some (.tup [.i (.agg ((Pn.at path p).getD Pn.zero).cells), .bool (Pn.at path p).isSome],[]):=by
 obtain⟨j,h1,h2⟩:=AJ2 path p;rw[aF rfl Tryz.func101 rfl rfl];simp only[Pn.aA p];simp;rw[aT (fun i=>PAX p path ((Pn.at (path.take i) p).getD Pn.zero) i) j (by simp[PAX,Pn.at,mU])]
 ·rw[aG]
  rcases h2 with ⟨a,rfl,ha⟩|⟨x,a,q1,q2,q3,q4⟩
  ·simp[PAX,mU,ha,Pn.aA a]
  ·have r1:=bK q1;have hj:=(zY.1 q1).1;have ha:=YL _ _ _ hp q2;have hka:=((Pn.bO a).1 ha).2.2.2.1;have w1:IntKind.i64.wrap ((a.kids.length:Int)-1)=a.kids.length-1:=wrO
   have hin:(decide (0≤x∧x≤(a.kids.length:Int)-1))=false:=by
    rw[decide_eq_false_iff_not];rintro⟨g1,g2⟩;have:=zA9.1 (q3 g1);omega
   have hir:=O9 x 0 ((a.kids.length:Int)-1);rw[hin]at hir;simp[PAX,mU,q2,q4,hj,r1,w1,hir,aW]
 ·intro i hi;obtain⟨x,a,b,q1,q2,q3,q4,q5⟩:=h1 i hi;have r1:=bK q1;have hj:=(zY.1 q1).1;have ha:=YL _ _ _ hp q2;have hka:=((Pn.bO a).1 ha).2.2.2.1;have hxl:=(zY.1 q4).1;have r4:=Pn.aP q4;have w1:IntKind.i64.wrap ((a.kids.length:Int)-1)=a.kids.length-1:=wrO;have w2:IntKind.i64.wrap ((i:Int)+1)=i+1:=wrO;have hin:(decide (0≤x∧x≤(a.kids.length:Int)-1))=true:=by rw[zM];omega
  have hir:=O9 x 0 ((a.kids.length:Int)-1);rw[hin]at hir;rw[Pn.aA b]at r4;simp[PAX,mU,q2,q5,hj,r1,w1,w2,hir,q3,show x<a.kids.length by omega,r4]
end Go.Proofs.YtjdfjgmebalaaaaGreat.P
namespace Go.Av
theorem kP {e:Ex} {a:Pn} (he:e.thin) (ha:a.thin):(filt e a).thin:=by simp[filt,Pn.thin,Pn.rH,he,ha]
theorem K8 {es:List Ex} {a:Pn} (hl:es.length<1000000000) (he:∀ e∈es,e.thin) (ha:a.thin):(proj es a).thin:=by simp[proj,Pn.thin,Pn.rH,hl,ha];exact he
theorem uE {kd:Int} {e:Ex} {a b:Pn} (he:e.thin) (ha:a.thin) (hb:b.thin):(bB kd e a b).thin:=by simp[bB,Pn.thin,Pn.rH,he,ha,hb]
theorem ABN {a b:Pn} (ha:a.thin) (hb:b.thin):(dF a b).thin:=by simp[dF,Pn.thin,Pn.rH,ha,hb]
theorem VT {a b:Ex} (ha:a.thin) (hb:b.thin):(AB3 a b).thin:=by simp[AB3,Ex.thin,Ex.rH,ha,hb]
theorem sJ:Ex.zero.thin:=by simp[Ex.zero,Ex.thin,Ex.rH]
theorem Pn.uJ {p:Pn} (h:p.thin):p.jG.thin:=by
 unfold Pn.jG
 cases hk:p.kids[0]? with
 | none=>exact Pn.J6
 | some a=>exact((Pn.bO p).1 h).2.2.2.2 a (zU hk)
theorem Pn.D9 {p:Pn} (h:p.thin):p.qP.thin:=by
 unfold Pn.qP
 cases hk:p.kids[1]? with
 | none=>exact Pn.J6
 | some a=>exact((Pn.bO p).1 h).2.2.2.2 a (zU hk)
theorem Pn.AAH {p:Pn} (h:p.thin):p.ex0.thin:=by
 unfold Pn.ex0
 cases hk:p.exprs[0]? with
 | none=>exact sJ
 | some a=>exact((Pn.bO p).1 h).2.1 a (zU hk)
theorem Ex.uJ {e:Ex} (h:e.thin):e.jG.thin:=by
 unfold Ex.jG
 cases hk:e.kids[0]? with
 | none=>exact sJ
 | some a=>exact((Ex.bO e).1 h).2 a (zU hk)
theorem Ex.D9 {e:Ex} (h:e.thin):e.qP.thin:=by
 unfold Ex.qP
 cases hk:e.kids[1]? with
 | none=>exact sJ
 | some a=>exact((Ex.bO e).1 h).2 a (zU hk)
theorem Ex.Z6 {l:List Ex} (hl:∀ b∈l,b.thin):∀ e:Ex,e.thin→(e.sub l).thin:=by
 intro e
 induction e using Ex.ind with
 | h k c v ks ih =>
  intro ht;have h:=(Ex.bO _).1 ht;by_cases hk:k=1
  ·unfold Ex.sub;rw[if_pos hk]
   cases hx:l[c.toNat]? with
   | none=>exact sJ
   | some b=>exact hl b (zU hx)
  ·rw[Ex.wV l (e:=.mk k c v ks) hk,Ex.bO];refine⟨by simpa [Ex.kids]using h.1,fun x hx=>?_⟩;simp only[Ex.kids,yK]at hx;obtain⟨y,hy,rfl⟩:=hx;exact ih y hy (h.2 y hy)
theorem Ex.UF {f:Int→Int}:∀ e:Ex,e.thin→(e.AL f).thin:=by
 intro e
 induction e using Ex.ind with
 | h k c v ks ih =>
  intro ht;have h:=(Ex.bO _).1 ht;by_cases hk:k=1
  ·rw[Ex.IR f (e:=.mk k c v ks) hk];exact VG _
  ·rw[Ex.IQ f (e:=.mk k c v ks) hk,Ex.bO];refine⟨by simpa [Ex.kids]using h.1,fun x hx=>?_⟩;simp only[Ex.kids,yK]at hx;obtain⟨y,hy,rfl⟩:=hx;exact ih y hy (h.2 y hy)
theorem AL4 {ws:List Int} {r:Int} {e:Ex} {k q:Pn} (he:e.thin) (hk:k.thin) (h:rwF ws r e k=some q):q.thin:=by
 have k0:=Pn.uJ hk;have k1:=Pn.D9 hk;have x0:=Pn.AAH hk;have hx:=((Pn.bO k).1 hk).2.1;have hl:=((Pn.bO k).1 hk).1;unfold rwF at h
 repeat' split at h
 all_goals first
  | (cases h;done)
  | (injection h with h;subst h
     first
      | exact kP (VT x0 he) k0
      | exact kP (Ex.D9 he) (kP (Ex.uJ he) hk)
      | exact uE x0 (kP he k0) k1
      | exact uE x0 k0 (kP (Ex.UF _ he) k1)
      | exact uE (VT x0 he) k0 k1
      | exact kP he (uE x0 k0 k1)
      | exact ABN (kP he k0) (kP he k1)
      | exact K8 hl hx (kP (Ex.Z6 hx _ he) k0))
theorem AL2 {ws:List Int} (hw:∀ w∈ws,0≤w∧w≤6) {r:Int} {p q:Pn} (hp:p.thin) (h:rwP ws r p=some q):q.thin:=by
 have k0:=Pn.uJ hp;have k1:=Pn.D9 hp;have x0:=Pn.AAH hp;have hx:=((Pn.bO p).1 hp).2.1;have hl:=((Pn.bO p).1 hp).1;have hx0:=((Pn.bO _).1 k0).2.1;have r0:=Pn.vF hw p.jG 8;have r1:=Pn.vF hw p.qP 8;unfold rwP at h;split at h
 ·exact AL4 x0 k0 h
 split at h
 ·injection h with h;subst h;refine K8 (by simp;omega) (fun e he=>?_) (uE (Ex.UF _ x0) k1 k0)
  rcases zV.1 he with h|h<;>exact sN _ _ e h
 split at h
 ·injection h with h;subst h;exact k0
 split at h
 ·injection h with h;subst h;refine K8 (by simpa using hl) (fun e he=>?_) (Pn.uJ k0);obtain⟨y,hy,rfl⟩:=yK.1 he;exact Ex.Z6 hx0 y (hx y hy)
 ·cases h
theorem ZN {q:Pn} (hq:q.thin):∀ (path:List Int) (p a:Pn),p.thin→Pn.at path p=some a→(Pn.put path p q).thin
 | [],p,a,_,_=>by simpa [Pn.put]using hq
 | x::r,p,a,hp,ha=>by
  obtain⟨n,rfl,b,hb,hr⟩:=Pn.pV ha;have h:=(Pn.bO p).1 hp;have ih:=ZN hq r b a (h.2.2.2.2 b (zU hb)) hr;rw[Pn.IL q hb,Pn.bO];refine⟨h.1,h.2.1,h.2.2.1,by simpa [Pn.kids]using h.2.2.2.1,fun c hc=>?_⟩;simp only[Pn.kids]at hc
  rcases zA5 hc with h1|h1
  ·exact h.2.2.2.2 c h1
  ·rw[h1];exact ih
end Go.Av
namespace Go.Proofs.YtjdfjgmebalaaaaGreat.P
open Go Go.Av
set_option maxRecDepth 4000
set_option maxHeartbeats 4000000
theorem PN {p q:Pn} (hq:q.thin):aI C0 103 [.i (.agg p.cells), .i (.isl []), .i (.agg q.cells)] []=some (.i (.agg q.cells),[]):=by
 have h:=BA q hq;rw[aF rfl Tryz.func103 rfl rfl];rw[Pn.aA p,Pn.aA q]at *
 by_cases he:q.exprs=[]
 ·by_cases hk:q.kids=[]
  ·simp[pcX,pcS,hk,he,Pn.aB,Ex.aB]at h;simp[h,hk,he,Pn.aB,Ex.aB]
  ·have hkl:q.kids.length≠0:=fun h=>hk (zW.1 h)
   simp[pcX,pcS,hk,he,aQ hkl,aJ hkl,Ex.aB]at h;simp[h,he,Ex.aB]
 ·have hel:q.exprs.length≠0:=fun h=>he (zW.1 h)
  by_cases hk:q.kids=[]
  ·simp[pcX,pcS,hk,he,aQ hel,aJ hel,Pn.aB]at h;simp[h,hk,Pn.aB]
  ·have hkl:q.kids.length≠0:=fun h=>hk (zW.1 h)
   simp[pcX,pcS,hk,he,aQ hel,aJ hel,aQ hkl,aJ hkl]at h;simp[h]
theorem GI {q:Pn} (hq:q.thin):∀ (path:List Int) (p a:Pn),p.thin→path.length<1000000→Pn.at path p=some a→aI C0 103 [.i (.agg p.cells), .i (.isl (aD path)), .i (.agg q.cells)] []=some (.i (.agg (Pn.put path p q).cells),[])
 | [],p,a,hp,hl,ha=>by simpa [aD,Pn.put]using PN (p:=p) hq
 | x::r,p,a,hp,hl,ha=>by
  obtain⟨n,rfl,b,hb,hr⟩:=Pn.pV ha;have hrl:r.length<1000000:=by simp at hl;omega
  have ih:=GI hq r b a (((Pn.bO p).1 hp).2.2.2.2 b (zU hb)) hrl hr;have h:=BA p hp;have hk:p.kids≠[]:=fun h=>by rw[h]at hb;simp at hb
  have hkl:p.kids.length≠0:=fun h=>hk (zW.1 h)
  have hn:=(zY.1 hb).1;have r4:=Pn.aP hb;rw[Pn.IL q hb,aF rfl Tryz.func103 rfl rfl];generalize Pn.put r b q=z at *
  have hs:=Pn.ADR p.kids n z;have hsl:(p.kids.set n z).length=p.kids.length:=by simp
  have hsn:p.kids.set n z≠[]:=fun h=>by rw[h]at hsl;simp at hsl;exact hkl hsl.symm
  have ht:(Pn.aB (p.kids.set n z)).take p.kids.length=Pn.aB (p.kids.set n z):=zZ (by simp);have hlen1:(r.length:Int)+1≠0:=by omega
  have hone:(1:Int)≤(r.length:Int)+1:=by omega
  rw[Pn.aA p,Pn.aA q]at *
  rw[Pn.aA b,Pn.aA z]at *
  have htr:List.take r.length (aD r)=aD r:=zZ (by simp);by_cases he:p.exprs=[]
  ·simp[pcX,pcS,hk,he,aQ hkl,aJ hkl,Ex.aB]at h;simp[h,he,Ex.aB,aD,Pn.cells,hn,hlen1,hone,r4,ih,hs,ht,htr]
  ·have hel:p.exprs.length≠0:=fun h=>he (zW.1 h)
   simp[pcX,pcS,hk,he,aQ hel,aJ hel,aQ hkl,aJ hkl]at h;simp[h,aD,Pn.cells,hn,hlen1,hone,r4,ih,hs,ht,htr]
theorem uW {ws:List Int} (hw:kM ws=true) {p:Pn} (hp:p.wd ws 8≠0) (r:Int) {path:List Int} (hl:path.length<1000000):aI C0 65 [.i (.agg p.cells), .i (.isl (aD ws)), .i (.agg [.int r, .isl (aD path)])] []=some (.tup [.i (.agg (IY (apS ws r path p)).cells), .bool (apS ws r path p).isSome],[]):=by
 have ht:=dJ p 8 hp;have c1:=AGE ht hl;unfold apS
 cases ha:Pn.at path p with
 | none =>
  rw[ha]at c1;rw[aF rfl Tryz.func65 rfl rfl];simp only[Option.getD,Option.isSome,Option.bind,IY,aW,Pn.aA p]at c1 ⊢;simp[c1]
 | some a =>
  rw[ha]at c1
  have ha8:a.wd ws 8≠0:=by
   obtain⟨h1,h2⟩:=FL path p 8 a hp ha;rw[Pn.gD a _ 8 h2 (by omega)];exact h2
  have hat:=dJ a 8 ha8;have c2:=AUX hw ha8 r;unfold SRw at c2
  cases hq:rwP ws r a with
  | none =>
   rw[hq]at c2;rw[aF rfl Tryz.func65 rfl rfl];simp only[hq,Option.getD,Option.isSome,Option.bind,IY,aW,Pn.aA p,Pn.aA a]at c1 c2 ⊢;simp[c1,c2]
  | some q =>
   rw[hq]at c2;have hqt:=AL2 (jV hw) hat hq;have c3:=GI hqt path p a ht hl ha;have hzt:=ZN hqt path p a ht ha;have c4:=JQ hw hzt;have hv:((some a).bind fun a=>(rwP ws r a).bind fun q=>if(Pn.put path p q).wd ws 8≠0 then some (Pn.put path p q)else none)=if(Pn.put path p q).wd ws 8≠0 then some (Pn.put path p q)else none:=by simp[hq]
   rw[hv];generalize Pn.put path p q=z at *
   rw[aF rfl Tryz.func65 rfl rfl];by_cases hz:z.wd ws 8=0
   ·rw[hz]at c4;simp only[hq,hz,ne_eq,not_true_eq_false,if_false,Option.getD,Option.isSome,Option.bind,IY,aW,Pn.aA p,Pn.aA a,Pn.aA q,Pn.aA z]at c1 c2 c3 c4 ⊢;simp[c1,c2,c3,c4]
   ·simp only[hq,hz,ne_eq,not_false_eq_true,if_true,Option.getD,Option.isSome,Option.bind,IY,Pn.aA p,Pn.aA a,Pn.aA q,Pn.aA z]at c1 c2 c3 c4 ⊢;simp[c1,c2,c3,c4,hz]
end Go.Proofs.YtjdfjgmebalaaaaGreat.P
namespace Go.Av
def atV:Option Pn→AV
 | some a=>.i (.iref a.cells)
 | none=>.i (.lit (.pointer none))
def atI (path:List Int) (p:Pn):Option Pn:=if path.length≤8 then Pn.at path p else none
end Go.Av
namespace Go.Proofs.YtjdfjgmebalaaaaGreat.P
open Go Go.Av
set_option maxRecDepth 4000
set_option maxHeartbeats 4000000
def AIX (p:Pn) (path:List Int) (i:Nat):AS :=
 { env:=[(0, .i (.iref ((Pn.at (path.take i) p).getD Pn.zero).cells)),(1, .i (.isl (aD path))),(4, .i (.lit (.pointer none))),(6,jk i (.int ((path[i-1]?).getD 0))),(9, .bool false),(10, .i (.isl (aD path))),(11, .int path.length),(12, .int i),(13,jk i (.bool true)),(26,jk i (.bool false))],st:=[] }
theorem AA9 (p:Pn) (path:List Int):aI C0 69 [.i (.iref p.cells), .i (.isl (aD path))] []=some (atV (atI path p),[]):=by
 rw[aF rfl Tryz.func69 rfl rfl];by_cases hl:path.length≤8
 ·have hl':¬ (8:Int)<path.length:=by omega
  obtain⟨j,h1,h2⟩:=AJ2 path p;simp[hl',atI,hl];rw[aT (AIX p path) j (by simp[AIX,Pn.at])]
  ·rw[aG]
   rcases h2 with ⟨a,rfl,ha⟩|⟨x,a,q1,q2,q3,q4⟩
   ·simp[AIX,ha,atV]
   ·have hj:=(zY.1 q1).1;have r1:=bK q1
    have hx:x<0∨(0≤x∧(a.kids.length:Int)≤x):=by
     by_cases h:x<0
     ·exact .inl h
     ·have:=q3 (by omega);simp at this;exact .inr ⟨by omega,by omega⟩
    simp only[AIX,q2,xS,q4,atV];rw[Pn.aA a]
    rcases hx with h|⟨h,h'⟩
    ·simp[hj,r1,h]
    ·have hn:¬ x<0:=by omega
     simp[hj,r1,hn,h']
  ·intro i hi;obtain⟨x,a,b,q1,q2,q3,q4,q5⟩:=h1 i hi;obtain⟨hj,qx⟩:=zY.1 q1;have r1:=bK q1;have hk:=(zY.1 q4).1;have r2:=Pn.aP q4;obtain⟨n,rfl⟩:=yO q3;simp only[Int.ofNat_eq_natCast,Int.toNat_natCast]at *
   have w2:IntKind.i64.wrap ((i:Int)+1)=i+1:=wrO;have n1:¬ (n:Int)<0:=by omega
   have n2:¬ a.kids.length≤n:=by omega
   simp only[AIX,q2,q5,xS];rw[Pn.aA a,Pn.aA b]at *
   simp[hj,r1,n1,n2,hk,r2,w2,q1,qx]
 ·have hl':(8:Int)<path.length:=by omega
  simp[hl',atI,hl,atV]
theorem AE6 {p:Pn} {ws:List Int} {r:Int} {path:List Int} (h:p.width ws=0∨apI ws r path p=none):aI C0 26 [.i (.agg p.cells), .i (.isl (aD ws)), .i (.agg [.int r, .isl (aD path)])] []=some (.tup [.i (.agg Pn.zero.cells), .bool false],[]):=by
 have c1:=jU p ws;have c2:=AA9 p path;rw[aF rfl Tryz.func26 rfl rfl];by_cases h0:p.width ws=0
 ·rw[Pn.aA p]at c1 ⊢;simp[c1,h0,Pn.zero,Pn.cells,Ex.aB,aD,Pn.aB]
 ·obtain⟨hw,hp8,hv⟩:=nO h0;have hn:=h.resolve_left h0;unfold apI at hn
  cases ha:atI path p with
  | none =>
   rw[ha]at c2;rw[Pn.aA p]at c1 c2 ⊢;simp[atV]at c2;simp[c1,h0,c2,Pn.zero,Pn.cells,Ex.aB,aD,Pn.aB]
  | some a =>
   rw[ha]at c2;unfold atI at ha;split at ha
   ·rename_i hl;rw[if_pos hl,ha]at hn;simp only[yP]at hn;obtain⟨-,hav⟩:=FL path p 8 a hp8 ha;have ha8:a.wd ws 8≠0:=by rw[Pn.gD a _ 8 hav (by omega)];exact hav
    have c3:=lX hw ha8 r (lv:=8-path.length) (by omega)
    have hr:rwL ws r (8-path.length) a=none:=by
     cases hq:rwL ws r (8-path.length) a with
     | none=>rfl
     | some q=>rw[hq]at hn;cases hn
    rw[hr]at c3;have w1:IntKind.i64.wrap (8-(path.length:Int))=((8-path.length:Nat):Int):=by rw[wrO];omega
    simp only[atV]at c2;rw[Pn.aA p]at c1 c2 ⊢;rw[Pn.aA a]at c2 c3;simp[IY,Pn.zero,Pn.cells,Ex.aB,aD,Pn.aB]at c3;simp[c1,h0,c2,w1,c3,Pn.zero,Pn.cells,Ex.aB,aD,Pn.aB]
   ·cases ha
end Go.Proofs.YtjdfjgmebalaaaaGreat.P
namespace Go.Proofs.YtjdfjgmebalaaaaGreat
open Go Go.Av
theorem U0 {g:FuncId} {q:List AV→StL→Option (AV×StL)} (h:C0.prim g=some q):(g=92∧q=YC)∨(g=59∧q=YB):=by
 have h:AQT g=some q:=h;unfold AQT at h;split at h
 ·injection h with h;exact .inl ⟨rfl,h.symm⟩
 ·injection h with h;exact .inr ⟨rfl,h.symm⟩
 ·cases h
theorem AZQ:PrimOk C0:=by
 constructor
 ·intro g args st p h;unfold bE at h
  cases hq:C0.prim g with
  | none=>rw[hq]at h;cases h
  | some q =>
   rcases U0 hq with ⟨rfl,rfl⟩|⟨rfl,rfl⟩
   ·exact⟨Tryz.f92,Tryz.func92,by decide,rfl⟩
   ·exact⟨Tryz.f59,Tryz.func59,by decide,rfl⟩
 ·intro g args stl r stl' h w m φ vs hi hr h0;unfold bE at h
  cases hq:C0.prim g with
  | none=>rw[hq]at h;cases h
  | some q =>
   rcases U0 hq with ⟨rfl,rfl⟩|⟨rfl,rfl⟩
   ·rw[hq]at h;obtain⟨e,he,hres,hor⟩:=ADI h;injection hres with h1 h2;subst h1;subst h2
    rcases hor with ⟨rfl,rfl⟩|⟨j,es,rfl,rfl,hes⟩
    ·exact HV he hi hr h0
    ·exact ADL he hes hi hr h0
   ·rw[hq]at h;obtain⟨p,⟨k1,k2,k3⟩,rfl,rfl,hres⟩:=ADH h;injection hres with h1 h2;subst h1;subst h2;exact G.QL k1 k2 k3 hi hr h0
theorem bH:SoundOk C0:=gF (C:=C0) ft nt eqS mo AZQ
end Go.Proofs.YtjdfjgmebalaaaaGreat
namespace Go.Av
section
variable {wi:World} {mi:Mem} {nt:Nat}
theorem GR.AHW {ok:Nat→Prop} {env:Nat→AV} {st:Store} {a:Act} {w:World} {d:Nat} {m1:Mem} {φ:Pl} {p:Pn} (hd:d<nt) (hi:Inv w m1 φ st) (henv:∀ t,Rep m1 φ (env t) (a.tmps.getD t undef)) (hadv:Adv wi mi (fun _=>none) w m1 φ) (hok:∀ id,φ id≠none→ok id) (hsz:nt≤a.tmps.size) (hdf:a.defers=[])
 {e:Ending} {w':World} (h:uZ w m1 p e w'):∃ y,e=.returned y∧∃ v0 v1 v2 v3 v4 F,GR wi mi nt ok (CPY w p F v0 v1 v2 v3 v4) (upd env d (.i (.agg [.lit v0, .lit v1, .lit v2, .lit v3, .lit v4]))) st (a.put (some d) y) w':=by
 obtain⟨v0,v1,v2,v3,v4,F,m2,rfl,hone,hm2,ha,hc⟩:=h;obtain⟨i2,a2⟩:=hi.AS5 ha hm2;refine⟨_,rfl,v0,v1,v2,v3,v4,F,⟨m2,φ,i2,vM (dst:=some d) (fun t=>(henv t).mono a2.mle a2.ple) hsz (by simpa [Y7]using hd) (.i (.agg ?_)),hadv.trans a2,hok,?_⟩,by rw[nA];exact hsz,by rw[iL];exact hdf⟩
 ·exact .cons (.lit _) (hone _ (by simp)) (.cons (.lit _) (hone _ (by simp)) (.cons (.lit _) (hone _ (by simp)) (.cons (.lit _) (hone _ (by simp)) (.cons (.lit _) (hone _ (by simp)) .nil))))
 ·refine⟨hc.th,hc.cells,hc.nd,fun f hf=>?_,hc.kc⟩;obtain⟨k1,k2,k3,k4,k5⟩:=hc.all f hf;refine⟨k1,k2,fun id b n e ho=>?_,k4,k5⟩;have:=hi.low id b n f e ho;omega
theorem GR.AAC {ok:Nat→Prop} {env:Nat→AV} {st:Store} {a:Act} {w:World} {d:Nat} {m:Mem} {φ:Pl} {p y:Pn} {root:Nat} {F:List Nat} {path:List Int} (hd:d<nt) (hi:Inv w m φ st) (henv:∀ t,Rep m φ (env t) (a.tmps.getD t undef)) (hadv:Adv wi mi (fun _=>none) w m φ) (hok:∀ id,φ id≠none→ok id) (hsz:nt≤a.tmps.size) (hdf:a.defers=[]) (hr:RAW wi root p F [] w m φ)
 {e:Ending} {w':World} (h:∃ bq oq Fa Fy Fz m',e=.returned (.pointer (some ⟨bq,oq,none⟩))∧AtP w m p root 0 F path y bq oq Fa Fy Fz∧kF w' m'∧Adv w (dD w) (fun _=>none) w' m' (fun _=>none)) :
 ∃ v,e=.returned v∧∃ bq oq Fa Fy Fz,GR wi mi nt ok (RAT wi root p F path y bq oq Fa Fy Fz) (upd env d (.i (.lit (.pointer (some ⟨bq,oq,none⟩))))) st (a.put (some d) v) w':=by
 obtain⟨bq,oq,Fa,Fy,Fz,m',rfl,hat,hm,ha⟩:=h;have hsame:∀ f,f<w.heap.size→w'.heap[f]?=w.heap[f]?:=fun f hf=>ha.block f hf fun id b n e=>by cases e
 have i2:=hi.later ha.size hsame
 have a2:Adv w m φ w' m φ:=⟨ha.size,ha.os,ha.tape,ha.output,fun b hb' _=>hsame b hb', .refl _,fun _ _ _ _=>rfl, .refl _,fun _ _ _ _ e ho=>.inr (gK.not e ho)⟩
 exact⟨_,rfl,bq,oq,Fa,Fy,Fz,⟨m,φ,i2,vM (dst:=some d) henv hsz (by simpa [Y7]using hd) (.i (.lit _)),hadv.trans a2,hok,RAT.EK _ _ _ _ _ _ _ _ _ _ _ _ _ _ _ _ _ a2 ⟨hr,hat⟩⟩,by rw[nA];exact hsz,by rw[iL];exact hdf⟩
end
end Go.Av
namespace Go.Proofs.YtjdfjgmebalaaaaGreat.P
open Go Go.Av G
theorem AaC:Tryz.f59.name≠ "runtime.NumGoroutine":=by decide
theorem AaD:Tryz.f59.body.isSome=true:=rfl
theorem hb48:Tryz.f69.body.isSome=true:=rfl
theorem AbN:Tryz.f69.name≠ "runtime.NumGoroutine":=by decide
set_option maxRecDepth 4000
set_option maxHeartbeats 8000000
theorem ANP {α:Type} (f:Nat→α) (a:Nat) (x y:α):upd (upd f a x) a y=upd f a y:=by funext i;simp only[upd];split<;>rfl
def TEV (p:Pn) (ws:List Int) (r:Int) (path:List Int) (v3 v5 v6 v7 v8 v9 v10 v11 v15 v21 v36:AV):List (Nat×AV):=[(0, .i (.agg p.cells)),(1, .i (.isl (aD ws))),(2, .i (.agg [.int r, .isl (aD path)])),(3,v3),(5,v5),(6,v6),(7,v7),(8,v8),(9,v9),(10,v10),(11,v11),(15,v15),(21,v21),(36,v36)]
def bxP (p:Pn):Option Blk:=some (.box (jW p.cells))
def bxS (r:Int) (path:List Int):Option Blk:=some (.box [.i (.int r), .i (.isl (aD path))])
theorem AE5 {p:Pn} {ws:List Int} {r:Int} {path:List Int} {q:Pn} (h0:p.width ws≠0) (hq:apI ws r path p=some q) {wi:World} {mi:Mem} {vs:List Value} (hi:Inv wi mi (fun _=>none) (aR [])) (hr:RepL mi (fun _=>none) [.i (.agg p.cells), .i (.isl (aD ws)), .i (.agg [.int r, .isl (aD path)])] vs) :
 Calls Tryz.prog 26 vs.toArray wi (bF wi mi (fun _=>none) (.tup [.i (.agg q.cells), .bool true]) []):=by
 obtain⟨hw,hp8,hv⟩:=nO h0;have hws:=jV hw;unfold apI at hq;split at hq
 rotate_left
 ·cases hq
 rename_i hl
 cases ha:Pn.at path p with
 | none=>rw[ha]at hq;cases hq
 | some a =>
 rw[ha]at hq;simp only[yP]at hq;obtain⟨-,hav⟩:=FL path p 8 a hp8 ha;have ha8:a.wd ws 8≠0:=by rw[Pn.gD a _ 8 hav (by omega)];exact hav
 cases hx:rwL ws r (8-path.length) a with
 | none=>rw[hx]at hq;cases hq
 | some x =>
 rw[hx]at hq;simp only[zA0,Option.some.injEq]at hq;subst hq
 have hxw:x.wd ws (8-path.length)≠0:=by
  unfold rwL at hx
  cases hy:rwP ws r a with
  | none=>rw[hy]at hx;cases hx
  | some y =>
   rw[hy]at hx;simp only[yP]at hx;split at hx
   ·injection hx with hx;subst hx;assumption
   ·cases hx
 have hx8:x.wd ws 8≠0:=by rw[Pn.gD x _ 8 hxw (by omega)];exact hxw
 have hxs:x.small:=⟨by have:=(Pn.tT x 8 hx8).2;omega,dJ x 8 hx8,(Pn.tT x 8 hx8).1⟩
 have hps:p.small:=⟨by have:=(Pn.tT p 8 hp8).2;omega,dJ p 8 hp8,(Pn.tT p 8 hp8).1⟩
 have c1:=jU p ws;have c2:=AA9 p path;simp only[atI,hl,if_true,ha,atV]at c2;have c3:=lX hw ha8 r (lv:=8-path.length) (by omega);rw[hx]at c3;simp only[IY,xS,xA]at c3
 have c4:aI C0 59 [.i (.iref x.cells)] []=some (.i (.agg x.cells),[]):=by
  rw[aU (p:=YB) rfl];exact AMT hxs
 have w1:IntKind.i64.wrap (8-(path.length:Int))=((8-path.length:Nat):Int):=by rw[wrO];omega
 refine calls_of_wp (fn:=Tryz.f26) Tryz.func26 rfl ?_;have hv1:vs.length=3:=by simpa using hr.length.symm
 have g0:GR wi mi 45 (fun id=>id<({ env:=[(0, .i (.agg p.cells)),(1, .i (.isl (aD ws))),(2, .i (.agg [.int r, .isl (aD path)]))],st:=[] }:AS).st.length) (fun _ _ _=>True) (aN [(0, .i (.agg p.cells)),(1, .i (.isl (aD ws))),(2, .i (.agg [.int r, .isl (aD path)]))]) (aR []) { tmps:=vs.toArray++Array.replicate (45-vs.toArray.size) undef,defers:=[] } wi:=by
  refine⟨⟨mi,fun _=>none,hi,?_, .refl _ _ _,fun id h=>absurd rfl h,trivial⟩,by simp;omega,rfl⟩;intro t;have:=kR (m:=mi) (φ:=fun _=>none) (45-vs.toArray.size) hr t
  rcases t with _|_|_|t
  ·simpa [aN,qU]using this
  ·simpa [aN,qU]using this
  ·simpa [aN,qU]using this
  ·simp only[aN];simp;exact .junk _
 refine wp_seq (wp_mono (GR.dW bH (G:=GS 26) (S:={ env:=[(0, .i (.agg p.cells)),(1, .i (.isl (aD ws))),(2, .i (.agg [.int r, .isl (aD path)]))],st:=[] }) (e:=.normal) (S':={ env:=TEV p ws r path (.own 0 0) (.own 1 0) (.own 2 0) (.bool false) .junk .junk .junk .junk .junk .junk .junk,st:=[bxP p,bxS r path,some (.box zp)] }) jE (by kernel_rfl) (by
  rw[Pn.aA p]at *
  simp[TEV,bxP,bxS,zp,Pn.aA p]) g0) ?_)
 rintro _ a1 w1' ⟨rfl,g1⟩
 refine wp_seq (wp_mono (GR.dW bH (G:=GS 26) (S:={ env:=TEV p ws r path (.own 0 0) (.own 1 0) (.own 2 0) (.bool false) .junk .junk .junk .junk .junk .junk .junk,st:=[bxP p,bxS r path,some (.box zp)] }) (e:=.normal) (S':={ env:=TEV p ws r path (.own 0 0) (.own 1 0) (.own 2 0) (.bool false) .junk .junk .junk .junk (.bool false) .junk .junk,st:=[bxP p,bxS r path,some (.box zp)] }) jE (by kernel_rfl) (by
  simp only[TEV,bxP,bxS];rw[Pn.aA p]at *
  simp[zp,c1,h0]) g1) ?_)
 rintro _ a2 w2' ⟨rfl,g2⟩
 refine wp_seq (wp_mono (GR.dW bH (G:=GS 26) (S:={ env:=TEV p ws r path (.own 0 0) (.own 1 0) (.own 2 0) (.bool false) .junk .junk .junk .junk (.bool false) .junk .junk,st:=[bxP p,bxS r path,some (.box zp)] }) (e:=.normal) (S':={ env:=TEV p ws r path (.own 0 0) (.own 1 0) (.own 2 0) (.bool false) (.i (.iref a.cells)) .junk .junk .junk (.bool false) .junk .junk,st:=[some (.fbox p.cells),bxS r path,some (.box zp)] }) jE (by kernel_rfl) (by
  simp only[TEV,bxP,bxS];rw[Pn.aA p,Pn.aA a]at *
  simp[zp,c2]) g2) ?_)
 rintro _ a3 w3' ⟨rfl,g3⟩
 refine wp_seq (wp_mono (GR.dW bH (G:=GS 26) (S:={ env:=TEV p ws r path (.own 0 0) (.own 1 0) (.own 2 0) (.bool false) (.i (.iref a.cells)) .junk .junk .junk (.bool false) .junk .junk,st:=[some (.fbox p.cells),bxS r path,some (.box zp)] }) (e:=.normal) (S':={ env:=TEV p ws r path (.own 0 0) (.own 1 0) (.own 2 0) (.bool false) (.i (.iref a.cells)) .junk .junk .junk (.bool false) (.bool false) .junk,st:=[some (.fbox p.cells),bxS r path,some (.box zp)] }) jE (by kernel_rfl) (by
  simp only[TEV,bxP,bxS]
  simp[zp]) g3) ?_)
 rintro _ a4 w4' ⟨rfl,g4⟩
 refine wp_seq (wp_mono (GR.dW bH (G:=GS 26) (S:={ env:=TEV p ws r path (.own 0 0) (.own 1 0) (.own 2 0) (.bool false) (.i (.iref a.cells)) .junk .junk .junk (.bool false) (.bool false) .junk,st:=[some (.fbox p.cells),bxS r path,some (.box zp)] }) (e:=.normal) (S':={ env:=TEV p ws r path (.own 0 0) (.own 1 0) (.own 2 0) (.bool false) (.i (.iref a.cells)) (.own 3 0) (.bool true) .junk (.bool false) (.bool false) .junk,st:=[some (.fbox p.cells),bxS r path,some (.box zp),bxP x] }) jE (by kernel_rfl) (by
  simp only[TEV,bxP,bxS];rw[Pn.aA a,Pn.aA x]at *
  simp[zp,w1,c3]) g4) ?_)
 rintro _ a5 w5' ⟨rfl,g5⟩
 refine wp_seq (wp_mono (GR.dW bH (G:=GS 26) (S:={ env:=TEV p ws r path (.own 0 0) (.own 1 0) (.own 2 0) (.bool false) (.i (.iref a.cells)) (.own 3 0) (.bool true) .junk (.bool false) (.bool false) .junk,st:=[some (.fbox p.cells),bxS r path,some (.box zp),bxP x] }) (e:=.normal) (S':={ env:=TEV p ws r path (.own 0 0) (.own 1 0) (.own 2 0) (.bool false) (.i (.iref a.cells)) (.own 3 0) (.bool true) .junk (.bool false) (.bool false) (.bool false),st:=[some (.fbox p.cells),bxS r path,some (.box zp),bxP x] }) jE (by kernel_rfl) (by
  simp only[TEV,bxP,bxS]
  simp[zp,Pn.aA x]) g5) ?_)
 rintro _ a6 w6 ⟨rfl,g6⟩;clear g0 g1 g2 g3 g4 g5;have hst6:(6:Nat)<45:=by omega
 refine wp_seq (jO ?_);show wpOpsIn (FR none) 0 Tryz.prog _ _ (List.range 3) a6 w6;rw[show List.range 3=0::(List.range' 1 2++[])from rfl,wpOpsIn_cons];obtain⟨⟨m6,φ6,i6,henv6,adv6,ok6,-⟩,sz6,df6⟩:=g6;obtain⟨m7,rp7,i7,adv7⟩:=mH i6 (henv6 3) (show gQ (aR [some (.fbox p.cells),bxS r path,some (.box zp),bxP x]) (.own 0 0)=some (.i (.iref p.cells),aR [some (.fbox p.cells),bxS r path,some (.box zp),bxP x])by simp[gQ,qZ,frz,wC,DI,aR,bnd,tst,iD]);have rp7':RepL m7 (fun _=>none) [.i (.iref p.cells)] [a6.tmps.getD 3 undef]:=.cons (by cases rp7 with|i k=>exact .i k) .nil
 have i7':Inv w6 m7 (fun _=>none) (aR []):=⟨i7.mem,fun id blk e=>by simp[aR]at e,fun _ _ _ _ _ _ _ _ _ e=>by simp[aR]at e,fun _ _ _ _ e=>by cases e⟩
 refine qA (P:=Tryz.prog) (fn:=Tryz.f59) (d:=38) (g:=59) (args:=#[.tmp 3]) rfl rfl rfl rfl Tryz.func59 AaC AaD (vs:=[a6.tmps.getD 3 undef]) rfl ((iQ hps.1 hps.2.1 hps.2.2 i7' rp7').mono fun e w7 hraw=>?_);obtain⟨y,rfl,v0,v1,v2,v3,v4,F,g7⟩:=GR.AHW (nt:=45) (d:=38) (by omega) i7 (fun t=>(henv6 t).mono adv7.mle adv7.ple) (adv6.trans adv7) ok6 sz6 df6 hraw;refine⟨y,rfl,?_⟩;have hsz6:wi.heap.size≤w6.heap.size:=adv6.size;generalize hE8:TEV p ws r path (.own 0 0) (.own 1 0) (.own 2 0) (.bool false) (.i (.iref a.cells)) (.own 3 0) (.bool true) .junk (.bool false) (.bool false) (.bool false)=E8 at g7;refine GR.AOJ bH (CPY.EK _ _ _ _ _ _ _ _) 1 2 rfl ?_ (base:=4) (R0:={ env:=upd (aN E8) 38 (.i (.agg [.lit v0, .lit v1, .lit v2, .lit v3, .lit v4])),st:=aR [some (.fbox p.cells),bxS r path,some (.box zp),bxP x],log:=[] }) (R1:={ env:=upd (upd (aN E8) 38 (.i (.agg [.lit v0, .lit v1, .lit v2, .lit v3, .lit v4]))) 11 (.own 12 0),st:=upd (aR [some (.fbox p.cells),bxS r path,some (.box zp),bxP x]) 12 (some (.box (bI [v0,v1,v2,v3,v4]))),log:=[] }) ?_ (g7.ok' fun id h=>.inl (by simpa using h)) fun a8 w8 g8=>?_
 ·kernel_rfl
 ·simp[bI,zp,ANP]
 obtain⟨b3,g9⟩:=g8.AbI (u:=11) (id:=12) (st':=aR [some (.fbox p.cells),bxS r path,some (.box zp),bxP x]) hsz6 rfl rfl (by
  intro i blk h
  rcases i with _|_|_|_|i
  ·simp[aR]at h;subst h;simp[upd,aR,fB]
  ·simp[aR,bxS]at h;subst h;simp[upd,aR,fB,bxS]
  ·simp[aR]at h;subst h;simp[upd,aR,fB,zp]
  ·simp[aR,bxP]at h;subst h;simp[upd,aR,fB,bxP,Pn.aA x,jW]
  ·simp[aR]at h)
 have g9:=(g9 (aN [(5, .own 1 0),(6, .own 2 0),(9, .own 3 0),(11, .i (.lit (.pointer (some ⟨b3,0,none⟩))))]) (by
  subst hE8;intro t;simp only[aN];by_cases h5:t=5
  ·subst h5;exact .inr (.inr ⟨by simp[upd,TEV,aN],by simp[upd,TEV,aN,iG,aR,bxS]⟩)
  by_cases h6:t=6
  ·subst h6;exact .inr (.inr ⟨by simp[upd,TEV,aN],by simp[upd,TEV,aN,iG,aR]⟩)
  by_cases h9:t=9
  ·subst h9;exact .inr (.inr ⟨by simp[upd,TEV,aN],by simp[upd,TEV,aN,iG,aR,bxP]⟩)
  by_cases h11:t=11
  ·subst h11;exact .inr (.inl ⟨rfl,rfl⟩)
  simp[h5,h6,h9,h11])).ok' (ok':=fun id=>GL 4 (fun j=>j<0) id) (by
  intro i h;refine .inl ?_
  rcases i with _|_|_|_|i
  all_goals first|omega|(simp[aR]at h))
 clear g7 g8;refine wp_seq (jO ?_);show wpOpsIn (FR none) 0 Tryz.prog _ _ (List.range 6) a8 w8;rw[show List.range 6=List.range' 0 2++(2::(List.range' 3 2++(List.range' 5 1++[])))from rfl];generalize hE9:aN [(5, .own 1 0),(6, .own 2 0),(9, .own 3 0),(11, .i (.lit (.pointer (some ⟨b3,0,none⟩))))]=E9 at g9;refine GR.AOJ bH (RAW.EK _ _ _ _ _) 0 2 rfl ?_ (base:=4) (R0:={ env:=E9,st:=aR [some (.fbox p.cells),bxS r path,some (.box zp),bxP x],log:=[] }) (R1:={ env:=upd (upd E9 39 (.own 1 1)) 40 (.i (.isl (aD path))),st:=aR [some (.fbox p.cells),bxS r path,some (.box zp),bxP x],log:=[] }) ?_ g9 fun a9 w9 g10=>?_
 ·kernel_rfl
 ·subst hE9;simp[zp,bxS,ANP]
 clear g9;rw[wpOpsIn_cons];obtain⟨⟨m10,φ10,i10,henv10,adv10,ok10,r10⟩,AY6,df10⟩:=g10;have hv11:=henv10 11;have hv40:=henv10 40;simp only[show upd (upd E9 39 (.own 1 1)) 40 (.i (.isl (aD path))) 11=.i (.lit (.pointer (some ⟨b3,0,none⟩)))from by subst hE9;rfl]at hv11;simp only[show upd (upd E9 39 (.own 1 1)) 40 (.i (.isl (aD path))) 40=.i (.isl (aD path))from rfl]at hv40;have hmm:MLe m10 (dD w9):=i10.mem;refine qA (P:=Tryz.prog) (fn:=Tryz.f69) (d:=41) (g:=69) (args:=#[.tmp 11, .tmp 40]) rfl rfl rfl rfl Tryz.func69 AbN hb48 (vs:=[a9.tmps.getD 11 undef,a9.tmps.getD 40 undef]) rfl ((AB0 r10.th r10.nr r10.nd ha hl (vs:=[a9.tmps.getD 11 undef,a9.tmps.getD 40 undef]) (.cons (by cases hv11 with|i k=>exact .i (k.mono hmm)) (.cons (by cases hv40 with|i k=>exact .i (k.mono hmm)) .nil))).mono fun e w10 hplace=>?_);obtain⟨y2,rfl,bq,oq,Fa,Fy,Fz,g11⟩:=GR.AAC (nt:=45) (d:=41) (by omega) i10 henv10 adv10 ok10 AY6 df10 r10 hplace;refine⟨y2,rfl,?_⟩;refine GR.AOJ bH (RAT.EK _ _ _ _ _ _ _ _ _ _ _) 3 2 rfl ?_ (base:=4) (R0:={ env:=upd (upd (upd E9 39 (.own 1 1)) 40 (.i (.isl (aD path)))) 41 (.i (.lit (.pointer (some ⟨bq,oq,none⟩)))),st:=aR [some (.fbox p.cells),bxS r path,some (.box zp),bxP x],log:=[] }) (R1:={ env:=upd (upd (upd (upd (upd E9 39 (.own 1 1)) 40 (.i (.isl (aD path)))) 41 (.i (.lit (.pointer (some ⟨bq,oq,none⟩))))) 42 (.i (.agg x.cells))) 43 (.i (.lit (.pointer (some ⟨bq,oq,none⟩)))),st:=upd (aR [some (.fbox p.cells),bxS r path,some (.box zp),bxP x]) 3 (some (.fbox x.cells)),log:=[] }) ?_ (g11.ok' fun id h=>o5 (fun j hj=>by omega) h) fun a10 w11 g12=>?_
 ·kernel_rfl
 ·subst hE9;rw[Pn.aA x]at c4;simp[zp,bxS,bxP,Pn.aA x,c4,ANP]
 clear g11
 obtain⟨pre,row,post,ma,hrl,hpl,g13⟩:=g12.AXR (u:=43) (k:=1) (st':=upd (fun _=>none) 2 (some (.box zp))) rfl (by
  intro i blk h;by_cases h2:i=2
  ·subst h2;simp[upd]at h;subst h;simp[upd,aR,fB,zp]
  ·simp[upd,h2]at h) (by simp[upd])
 have g13:=(g13 (aN [(6, .own 2 0),(11, .i (.lit (.pointer (some ⟨b3,0,none⟩)))),(42, .i (.agg x.cells)),(43, .own 1 oq)]) (by
  subst hE9;intro t;simp only[aN];by_cases h6:t=6
  ·subst h6;exact .inr (.inr ⟨by simp[upd,aN],by simp[upd,aN,iG]⟩)
  by_cases h11:t=11
  ·subst h11;exact .inr (.inr ⟨by simp[upd,aN],by simp[upd,aN,iG]⟩)
  by_cases h42:t=42
  ·subst h42;exact .inr (.inr ⟨by simp[upd,aN],by simp[upd,aN,iG]⟩)
  by_cases h43:t=43
  ·subst h43;exact .inr (.inl ⟨rfl,rfl⟩)
  simp[h6,h11,h42,h43])).ok' (ok':=fun id=>GL 4 (fun j=>j<5) id) (by
  intro i h;refine .inl ?_
  rcases h with h|h
  ·by_cases h2:i=2
   ·omega
   ·simp[upd,h2]at h
  ·omega)
 clear g12;refine GR.AOJ bH (fun w m φ w' m' φ' ha h=>⟨ADK.EK _ _ _ _ _ _ _ _ _ _ _ _ _ _ _ _ _ _ _ _ ha h.1,h.2⟩) 5 1 rfl ?_ (base:=4) (R0:={ env:=aN [(6, .own 2 0),(11, .i (.lit (.pointer (some ⟨b3,0,none⟩)))),(42, .i (.agg x.cells)),(43, .own 1 oq)],st:=upd (upd (fun _=>none) 2 (some (.box zp))) 1 (some (.box (jH pre (bI row) post))),log:=[] }) (R1:={ env:=aN [(6, .own 2 0),(11, .i (.lit (.pointer (some ⟨b3,0,none⟩)))),(42, .i (.agg x.cells)),(43, .own 1 oq)],st:=upd (upd (upd (fun _=>none) 2 (some (.box zp))) 1 (some (.box (jH pre (bI row) post)))) 1 (some (.box (jH pre (jW x.cells) post))),log:=[] }) ?_ g13 fun a11 w12 g14=>?_
 ·kernel_rfl
 ·subst hpl
  have hsp:splice (jH pre (bI row) post) pre.length (jW x.cells)=some (jH pre (jW x.cells) post):=by
   have:=nY pre post (bI row) 0 (jW x.cells);rw[xQ]at this;rw[this]
   match row,hrl with
   | [r0,r1,r2,r3,r4],_=>rw[Pn.aA];simp[bI,jW,jH,splice,bnd]
  rw[Pn.aA x]at *
  simp at hsp;simp[hsp,ANP]
 clear g13
 have g15:=g14.AaF (q:=x) hrl hpl rfl (st':=upd (fun _=>none) 2 (some (.box zp))) (env':=aN [(6, .own 2 0),(11, .i (.lit (.pointer (some ⟨b3,0,none⟩))))]) (by
  intro i blk h;by_cases h2:i=2
  ·subst h2;simp[upd]at h;subst h;simp[upd,fB,zp]
  ·simp[upd,h2]at h) (by
  intro t;simp only[aN];by_cases h6:t=6
  ·subst h6;exact .inr ⟨by simp,by simp[iG,upd]⟩
  by_cases h11:t=11
  ·subst h11;exact .inr ⟨by simp,by simp[iG]⟩
  simp[h6,h11])
 clear g14
 have g16:=g15.AjY (u:=11) rfl (env':=aN [(6, .own 2 0),(11, .i (.iref (Pn.put path p x).cells))]) (by
  intro t;simp only[aN];by_cases h6:t=6
  ·subst h6;exact .inr (.inr (by simp))
  by_cases h11:t=11
  ·subst h11;exact .inr (.inl ⟨rfl,by simp⟩)
  simp[h6,h11])
 clear g15;generalize Pn.put path p x=q at *
 have g17:=g16.settle (fun _ _ _ _ h=>h) [6,11];have hset:Av.settle [6,11] 0 (aN [(6, .own 2 0),(11, .i (.iref q.cells))]) (upd (fun _=>none) 2 (some (.box zp)))={ env:=[(6, .own 0 0),(11, .i (.iref q.cells))],st:=[some (.box zp)] }:=by simp[zp,upd]
 rw[hset]at g17;clear g16
 refine wp_mono (GR.dW bH (G:=GS 26) (S:={ env:=[(6, .own 0 0),(11, .i (.iref q.cells))],st:=[some (.box zp)] }) (e:=.ret) (S':={ env:=[(0, .junk),(1, .junk),(2, .junk),(3, .junk),(5, .junk),(6, .own 0 0),(7, .bool true),(8, .junk),(9, .junk),(10, .junk),(11, .i (.iref q.cells)),(15, .junk),(21, .junk),(36, .junk)],st:=[bxP q] }) jE (by kernel_rfl) (by
  simp only[bxP];rw[Pn.aA q]
  simp[zp]) g17) ?_
 rintro _ a12 w13 ⟨rfl,g18⟩;obtain⟨⟨m,φ,q1,q2,q3,q4,q5⟩,q6,q7⟩:=g18
 obtain⟨v,k1,k2⟩:=eU (C:=C0) (fn:=Tryz.f26) (keep:=false) (na:=0) (S:={ env:=[(0, .junk),(1, .junk),(2, .junk),(3, .junk),(5, .junk),(6, .own 0 0),(7, .bool true),(8, .junk),(9, .junk),(10, .junk),(11, .i (.iref q.cells)),(15, .junk),(21, .junk),(36, .junk)],st:=[bxP q] }) (r:=.tup [.i (.agg q.cells), .bool true]) (stl':=[]) (fun id h=>absurd rfl h) ⟨⟨⟨m,φ,q1,q2,q3,q4, .nil _ _ _⟩,q6,q7⟩,zB0 _⟩ (by
  show finish C0 false [ResultVar.cell 6 34,ResultVar.tmp 7] 0 _=_;simp only[bxP];rw[Pn.aA q]
  simp)
 exact⟨q7,v,k1,k2⟩
end Go.Proofs.YtjdfjgmebalaaaaGreat.P
namespace Go.Av
def rqA (q:Pn) (j:Nat):AV :=
 .agg [.int q.kind, .int q.table,if q.exprs=[]then .nils else .osl j 5 0 q.exprs.length,if q.cols=[]then .nils else .osl (if q.exprs=[]then j else j+1) 1 0 q.cols.length,if q.kids=[]then .nils else .osl (if q.exprs=[]then(if q.cols=[]then j else j+1)else(if q.cols=[]then j+1 else j+2)) 5 0 q.kids.length]
def rqB (q:Pn):StL:=(if q.exprs=[]then []else [some (.tre 5 (Ex.aB q.exprs))])++((if q.cols=[]then []else [some (.arr 1 (aD q.cols))])++(if q.kids=[]then []else [some (.tre 5 (Pn.aB q.kids))]))
section
variable {w:World} {m:Mem}
theorem AR1 {φ:Pl} {st:StL} (hi:Inv w m φ (aR st)) (hb:∀ id,φ id≠none→id<st.length) {b len:Nat} {F:List Nat} {blk:Blk} (hbF:b∈F) (hlt:∀ f∈F,f<w.heap.size) (hfr:∀ f∈F,gK φ f) (hblk:∀ φ':Pl,BlkOk w m φ' b ⟨len,fun f=>f∈F⟩ blk) :
 Inv w m (upd φ st.length (some (b,⟨len,fun f=>f∈F⟩))) (aR (st++[some blk]))∧∀ id,upd φ st.length (some (b,⟨len,fun f=>f∈F⟩)) id≠none→id<st.length+1:=by
 have hp:PLe φ (upd φ st.length (some (b,⟨len,fun f=>f∈F⟩))):=fun i r n e=>by
  refine⟨n,?_,rfl,fun _ h=>h⟩;have:i≠st.length:=fun h=>by have:=hb i (by rw[e];simp);omega
  simp[upd,this,e]
 have hst:∀ i blk1,aR (st++[some blk]) i=some blk1→(i≠st.length∧aR st i=some blk1)∨(i=st.length∧blk1=blk):=by
  intro i blk1 h;rw[rM]at h;by_cases h1:i<st.length
  ·rw[zK h1]at h;exact .inl ⟨by omega,by rw[rM];exact h⟩
  ·rw[zI (by omega)]at h
   cases h2:i-st.length with
   | zero=>rw[h2]at h;simp at h;exact .inr ⟨by omega,h.symm⟩
   | succ j=>rw[h2]at h;simp at h
 refine⟨⟨hi.mem,?_,?_,?_⟩,?_⟩
 ·intro i blk1 h
  rcases hst i blk1 h with ⟨h1,h2⟩|⟨rfl,rfl⟩
  ·obtain⟨r,n,q1,q2,q3⟩:=hi.live i blk1 h2;exact⟨r,n,by simp[upd,h1,q1],q2,q3.mono q2.1 (fun _ _=>rfl) (.refl _) hp fun _ _ _=>rfl⟩
  ·exact⟨b,⟨len,fun f=>f∈F⟩,by simp[upd],⟨hbF,hlt⟩,hblk _⟩
 ·intro i j r r' n n' b1 b2 f e1 e2 p1 p2 o1 o2
  rcases hst i b1 e1 with ⟨h1,h2⟩|⟨rfl,rfl⟩<;>rcases hst j b2 e2 with ⟨h3,h4⟩|⟨rfl,rfl⟩
  ·simp[upd,h1]at p1;simp[upd,h3]at p2;exact hi.inj i j r r' n n' b1 b2 f h2 h4 p1 p2 o1 o2
  ·simp[upd,h1]at p1;simp[upd]at p2;obtain⟨rfl,rfl⟩:=p2;exact absurd o1 (hfr f o2 i r n p1)
  ·simp[upd,h3]at p2;simp[upd]at p1;obtain⟨rfl,rfl⟩:=p1;exact absurd o2 (hfr f o1 j r' n' p2)
  ·rfl
 ·intro i r n f e ho;by_cases h:i=st.length
  ·simp[upd,h]at e;obtain⟨rfl,rfl⟩:=e;exact hlt f ho
  ·simp[upd,h]at e;exact hi.low i r n f e ho
 ·intro id h;by_cases h1:id=st.length
  ·omega
  ·simp[upd,h1]at h;have:=hb id h;omega
theorem AJ1:∀ {cs:List IV} {vs:List Value} {F:List Nat},TCells w cs vs F→mG cs=true→F=[]
 | _,_,_, .nil,_=>rfl
 | _,_,_, .lit _ r,h=>AJ1 r (by simp only[mG,zT]at h;exact h.2)
 | _,_,_, .isl0 _ r,h=>AJ1 r (by simp only[mG,zT]at h;exact h.2)
 | _,_,_, .isl (es:=es) hn _ _ _ _ _ _ _,h=>by
  cases es with
  | nil=>exact absurd rfl hn
  | cons=>simp[mG,jI]at h
theorem XD {φ:Pl} {st:StL} (hi:Inv w m φ (aR st)) (hb:∀ id,φ id≠none→id<st.length) {es:List (List IV)} {k:Nat} {v:Value} {F:List Nat} (hk0:0<k) (hk:∀ e∈es,e.length=k) (ht:TCells w [.isl es] [v] F) (hn:F.Nodup) (hm:∀ f∈F,∀ o,m f o=none) (hlt:∀ f∈F,f<w.heap.size) (hfr:∀ f∈F,gK φ f)
 (hnil:es=[]→v=.slice none 0 0) {blk:Blk} (hmk:blk=.tre k es∨(blk=.arr k es∧fO es=true)) (c:Prop) [Decidable c] (hc:c↔es=[]) :
 ∃ φ',Inv w m φ' (aR (st++if c then []else [some blk]))∧(∀ id,φ' id≠none→id<(st++if c then []else [some blk]).length)∧PLe φ φ'∧Rep m φ' (if c then .nils else .osl st.length k 0 es.length) v∧(∀ f,gK φ f→f ∉ F→gK φ' f)∧∀ id b n f,φ' id=some (b,n)→n.own f→f∈F∨φ id=some (b,n):=by
 by_cases h:c
 ·have he:=hc.1 h;simp only[h,if_true,zA];exact⟨φ,hi,hb, .refl _,by rw[hnil he];exact .nils,fun f h1 _=>h1,fun id b n f h1 _=>.inr h1⟩
 ·have he:es≠[]:=fun e=>h (hc.2 e)
  simp only[h,if_false]
  cases ht with
  | isl0=>exact absurd rfl he
  | @isl b kk cap _ us G _ _ F1 t1 t2 t3 t4 t5 t6 t7 t8 =>
   cases t8
   obtain rfl:kk=k:=by
    cases es with
    | nil=>exact absurd rfl he
    | cons a l=>rw[← t4 a (by simp),hk a (by simp)]
   obtain⟨T,t2,t9⟩:=t2;simp only[zA]at hn hm hlt hfr ⊢
   have hblk:∀ φ':Pl,BlkOk w m φ' b ⟨us.length,fun f=>f∈b::G⟩ blk:=by
    intro φ';have hfit:kk*es.length≤us.length:=xR (zC kk t6) t5
    rcases hmk with rfl|⟨rfl,hbr⟩
    ·exact .tre (T:=T) t2 rfl hk0 t4 t7.toU hfit hn (fun f hf=>zA7 _ hf) (fun f hf o=>hm f hf o) t9
    ·have hGe:G=[]:=AJ1 t7 (gW hbr);subst hGe;exact .arr (T:=T) t2 rfl hk0 t4 (AAZ (gW hbr) t7.toI) hfit (hm b (by simp)) (fun f hf=>by simpa using hf) t9
   obtain⟨i1,i2⟩:=AR1 hi hb (b:=b) (len:=us.length) (F:=b::G) (by simp) hlt hfr hblk;refine⟨_,i1,by simpa using i2,fun i r n e=>⟨n,?_,rfl,fun _ h=>h⟩,?_,?_,?_⟩
   ·have:i≠st.length:=fun h=>by have:=hb i (by rw[e];simp);omega
    simp[upd,this,e]
   ·exact .osl (b:=b) (n:=⟨us.length,fun f=>f∈b::G⟩) (by simp[upd]) t6 (by simpa using t5) (fun _=>by simp) (fun h=>by cases h)
   ·intro f h1 h2 id r n e ho;by_cases hid:id=st.length
    ·simp[upd,hid]at e;obtain⟨rfl,rfl⟩:=e;exact h2 (zS.2 ho)
    ·simp[upd,hid]at e;exact h1 id r n e ho
   ·intro id r n f e ho;by_cases hid:id=st.length
    ·simp[upd,hid]at e;obtain⟨rfl,rfl⟩:=e;exact .inl (zS.2 ho)
    ·simp[upd,hid]at e;exact .inr e
end
theorem OV {l:List Ex}:l=[]↔Ex.aB l=[]:=by cases l<;>simp[Ex.aB]
theorem OT {l:List Pn}:l=[]↔Pn.aB l=[]:=by cases l<;>simp[Pn.aB]
theorem OU {l:List Int}:l=[]↔aD l=[]:=by cases l<;>simp[aD]
theorem AbC:∀ (l:List Ex),∀ r∈Ex.aB l,r.length=5
 | [],r,h=>by simp[Ex.aB]at h
 | a::l,r,h=>by
  simp only[Ex.aB,zS]at h
  rcases h with rfl|h
  ·rw[Ex.aA];rfl
  ·exact AbC l r h
theorem AbA:∀ (l:List Pn),∀ r∈Pn.aB l,r.length=5
 | [],r,h=>by simp[Pn.aB]at h
 | a::l,r,h=>by
  simp only[Pn.aB,zS]at h
  rcases h with rfl|h
  ·exact Pn.cK _
  ·exact AbA l r h
theorem AbB:∀ (l:List Int),∀ r∈aD l,r.length=1
 | [],r,h=>by simp[aD]at h
 | a::l,r,h=>by
  simp only[aD,yS,zS]at h
  rcases h with rfl|h
  ·rfl
  ·exact AbB l r (by simpa [aD]using h)
theorem uZ.own {wi:World} {mi:Mem} {p:Pn} {e:Ending} {w:World} (h:uZ wi mi p e w):bF wi mi (fun _=>none) (rqA p 0) (rqB p) e w:=by
 obtain⟨v0,v1,v2,v3,v4,F,m,rfl,hone,hm,ha,hc⟩:=h;have ht:=hc.kc.1.toT (fun f hf=>(hc.all f hf).2.2.2.2);obtain⟨nE,nC,nK⟩:=hc.kc.2;have hnd:=hc.nd;have hall:=hc.all;clear hc;rw[Pn.aA]at ht
 cases ht with
 | lit o0 ht =>
 cases ht with
 | lit o1 ht =>
 obtain⟨FE,G,hF,tE,ht2⟩:=ht.split 1;obtain⟨FC,FK,hG,tC,tK⟩:=ht2.split 1;simp at tE tC tK;subst hG;subst hF;have n1:=zH.1 hnd;have n2:=zH.1 n1.2.1
 have i0:Inv w m (fun _=>none) (aR []):=⟨hm,fun id blk e=>by simp[aR]at e,fun id id' b b' n n' blk blk' f e=>by simp[aR]at e,fun _ _ _ _ e=>by cases e⟩
 obtain⟨φ1,i1,b1,p1,r1,f1,q1⟩:=XD (st:=[]) i0 (fun id h=>absurd rfl h) (k:=5) (by omega) (AbC p.exprs) tE n1.1 (fun f hf=>(hall f (by simp[hf])).2.2.2.1) (fun f hf=>(hall f (by simp[hf])).2.1) (fun f hf=>(hall f (by simp[hf])).2.2.1) (fun h=>nE (OV.2 h)) (blk:=.tre 5 (Ex.aB p.exprs)) (.inl rfl) (p.exprs=[]) OV;have fr1:∀ f∈FC++FK,gK φ1 f:=fun f hf=>f1 f (hall f (by simp at hf ⊢;exact .inr hf)).2.2.1 fun h=>n1.2.2 f h f hf rfl
 obtain⟨φ2,i2,b2,p2,r2,f2,q2⟩:=XD i1 b1 (k:=1) (by omega) (AbB p.cols) tC n2.1 (fun f hf=>(hall f (by simp[hf])).2.2.2.1) (fun f hf=>(hall f (by simp[hf])).2.1) (fun f hf=>fr1 f (by simp[hf])) (fun h=>nC (OU.2 h)) (blk:=.arr 1 (aD p.cols)) (.inr ⟨rfl,F6 _⟩) (p.cols=[]) OU;obtain⟨φ3,i3,b3,p3,r3,f3,q3⟩:=XD i2 b2 (k:=5) (by omega) (AbA p.kids) tK n2.2.1 (fun f hf=>(hall f (by simp[hf])).2.2.2.1) (fun f hf=>(hall f (by simp[hf])).2.1) (fun f hf=>f2 f (fr1 f (by simp[hf])) fun h=>n2.2.2 f h f hf rfl) (fun h=>nK (OT.2 h)) (blk:=.tre 5 (Pn.aB p.kids)) (.inl rfl) (p.kids=[]) OT;have r1:=r1.mono (.refl m) (p2.trans p3);have r2:=r2.mono (.refl m) p3;refine⟨_,m,φ3,rfl,?_,by simpa [rqB]using i3,⟨ha.size,ha.os,ha.tape,ha.output,ha.block,ha.mle,ha.mnew,(fun _ _ _ h=>by cases h),fun id b n f e1 e2=>?_⟩,by simpa [rqB]using b3⟩
 ·have ho:∀ v∈[v2,v3,v4],v.oneCell'=true:=fun v hv=>hone v (by simp at hv ⊢;rcases hv with h|h|h<;>simp[h])
  refine .agg (.cons (.i (.lit _)) rfl (.cons (.i (.lit _)) rfl (.cons ?_ (ho _ (by simp)) (.cons ?_ (ho _ (by simp)) (.cons ?_ (ho _ (by simp)) .nil)))))
  ·by_cases c1:p.exprs=[]<;>simpa [c1]using r1
  ·by_cases c1:p.exprs=[]<;>by_cases c2:p.cols=[]<;>simpa [c1,c2]using r2
  ·by_cases c1:p.exprs=[]<;>by_cases c2:p.cols=[]<;>by_cases c3:p.kids=[]<;>simpa [c1,c2,c3]using r3
 ·rcases q3 id b n f e1 e2 with h|h
  ·exact .inl (hall f (by simp[h])).1
  ·rcases q2 id b n f h e2 with h|h
   ·exact .inl (hall f (by simp[h])).1
   ·rcases q1 id b n f h e2 with h|h
    ·exact .inl (hall f (by simp[h])).1
    ·cases h
section
variable {C:Ctx} {wi:World} {mi:Mem} {nt:Nat}
theorem GR.AXQ {X:World→Mem→Pl→Prop} {ok:Nat→Prop} {root:Nat} {p:Pn} {F:List Nat} {path:List Int} {y:Pn} {bq oq:Nat} {Fa Fy Fz:List Nat} {env:Nat→AV} {st st':Store} {a:Act} {w:World} {u k:Nat} (h:GR wi mi nt ok (fun w m φ=>RAT wi root p F path y bq oq Fa Fy Fz w m φ∧X w m φ) env st a w) (hu:env u=.i (.lit (.pointer (some ⟨bq,oq,none⟩))))
 (hst:∀ i blk,st' i=some blk→st i=some blk∧fB blk) (hk:st' k=none) (hX:∀ m φ n,X w m φ→X w m (upd (pG st' φ) k (some (bq,one bq n)))) :
 ∃ pre row post ma,row.length=5∧pre.length=oq∧∀ env',(∀ t,env' t=.junk∨(t=u∧env' t=.own k oq)∨(env' t=env t∧iG st' (env t))) →
   GR wi mi nt (fun id=>st' id≠none∨id=k) (fun w' m' φ'=>(ADK wi root p F path y bq oq Fa Fy Fz k w ma w' m' φ'∧(∃ T,w.heap[bq]?=some (.cells (pre++(row++post)).toArray T (0,0))))∧X w' m' φ') env' (upd st' k (some (.box (jH pre (bI row) post)))) a w:=by
 obtain⟨⟨m,φ,hi,henv,hadv,hok,hr,hx⟩,h6,h7⟩:=h;have hinF:=hr.pos.mem;obtain⟨k1,k2,k3,k4,us,T,k5,k6⟩:=hr.raw.all bq hinF;obtain⟨v0,v1,v2,v3,v4,h5,_,_,_,_⟩:=hr.pos.th.cells;have gc:∀ {o:Nat} {v:Value},w.cell? ⟨bq,o,none⟩=some v→us[o]?=some v:=fun h=>by rwa [aY k5]at h
 have hrow:=IK (gc h5.c0) (gc h5.c1) (gc h5.c2) (gc h5.c3) (gc h5.c4);have hl4:=(zY.1 (gc h5.c4)).1;have hi2:=hi.AX9 hst;have hφk:pG st' φ k=none:=by unfold pG;rw[hk]
 have hfr:gK (pG st' φ) bq:=k3.cut;refine⟨us.take oq,[v0,v1,v2,v3,v4],us.drop (oq+5),m,rfl,by rw[yF];omega,fun env' he=>?_⟩
 have hrep:RepC m (upd (pG st' φ) k (some (bq,one bq us.length))) (jH (us.take oq) (bI [v0,v1,v2,v3,v4]) (us.drop (oq+5))) us:=by
  have h1:=o7 (m:=m) (φ:=upd (pG st' φ) k (some (bq,one bq us.length))) (vs:=us) k6
  have:bI us=jH (us.take oq) (bI [v0,v1,v2,v3,v4]) (us.drop (oq+5)):=by
   conv=>lhs;rw[hrow]
   simp[jH,bI]
  rwa [this]at h1
 have hp:PLe (pG st' φ) (upd (pG st' φ) k (some (bq,one bq us.length))):=fun i r n e=>by
  refine⟨n,?_,rfl,fun _ h=>h⟩;have:i≠k:=fun h=>by rw[h,hφk]at e;cases e
  simp[upd,this,e]
 refine⟨⟨m,upd (pG st' φ) k (some (bq,one bq us.length)),hi2.adopt hk hφk hfr k4 k5 hrep,fun t=>?_,(Adv.cut hadv).adopt k1,fun id hid=>?_,⟨?_,?_⟩,hX m φ _ hx⟩,h6,h7⟩
 ·rcases he t with e|⟨rfl,e⟩|⟨e,e'⟩
  ·rw[e];exact .junk _
  ·have:=henv t;rw[hu]at this;rw[e,this.bX];exact .own (n:=one bq us.length) (by simp[upd])
  ·rw[e];exact(e'.rep (fun i hi'=>mR hi') (henv t)).mono (.refl _) hp
 ·by_cases e:id=k
  ·exact .inr e
  ·simp[upd,e]at hid
   cases hx:pG st' φ id with
   | none=>exact absurd hx hid
   | some q=>exact .inl (dA hx).2
 ·refine⟨hr.pos, .refl _,⟨one bq us.length,by simp[upd]⟩,k1,fun f hf hne=>?_⟩;obtain⟨q1,q2,q3,q4,q5⟩:=hr.raw.all f hf;refine⟨q1,q2,fun i r n e ho=>?_,q4,rfl,q5⟩;by_cases e2:i=k
  ·subst e2;simp[upd]at e;obtain⟨rfl,rfl⟩:=e;exact hne ho
  ·simp[upd,e2]at e;exact q3 i r n (dA e).1 ho
 ·exact⟨T,by rw[← hrow];exact k5⟩
theorem GR.AaE {ok:Nat→Prop} {root:Nat} {p q:Pn} {F:List Nat} {path:List Int} {y:Pn} {bq oq:Nat} {Fa Fy Fz:List Nat} {env env':Nat→AV} {st st':Store} {a:Act} {w wa:World} {ma:Mem} {k:Nat} {pre row post:List Value} {wx:World} {Fx:List Nat} {v0 v1 v2 v3 v4:Value}
 (h:GR wi mi nt ok (fun w' m' φ'=>(ADK wi root p F path y bq oq Fa Fy Fz k wa ma w' m' φ'∧(∃ T,wa.heap[bq]?=some (.cells (pre++(row++post)).toArray T (0,0))))∧CPY wx q Fx v0 v1 v2 v3 v4 w' m' φ') env st a w) (hwx:wi.heap.size≤wx.heap.size) (hlt:∀ f∈root::F,f<wx.heap.size) (hrl:row.length=5) (hpl:pre.length=oq) (hbox:st k=some (.box (jH pre (bI [v0,v1,v2,v3,v4]) post)))
 (hst:∀ i blk,st' i=some blk→i≠k∧st i=some blk∧fB blk) (he:∀ t,env' t=.junk∨(env' t=env t∧iG st' (env t))) :
 GR wi mi nt (fun id=>st' id≠none) (RAW wi root (Pn.put path p q) (Fa++(Fx++Fz)) []) env' st' a w:=by
 obtain⟨⟨m,φ,hi,henv,hadv,hk,⟨hr,T0,hrow0⟩,hc⟩,h6,h7⟩:=h;obtain⟨n2,e2⟩:=hr.own;obtain⟨hb2,hok2⟩:=bZ hi e2 hbox;have hst2:∀ i blk,st' i=some blk→st i=some blk∧fB blk:=fun i blk hb=>(hst i blk hb).2
 cases hok2 with
 | @box T _ vs hh hl hrc hm =>
  have hone:=hrc.one;obtain⟨vp,x,rfl,r1,r2⟩:=jL hrc;obtain⟨vr,vq,rfl,r3,r4⟩:=jL r2;obtain rfl:=(lS r1).symm;obtain rfl:=(lS r4).symm;obtain rfl:=(lS r3).symm;have hcell:∀ f∈root::F,f≠bq→∀ j,w.cell? ⟨f,j,none⟩=wa.cell? ⟨f,j,none⟩:=fun f hf hne j=>gV (hr.oth f hf hne).2.2.2.2.1 j
  have sub:∀ f∈root::(Fa++(Fx++Fz)),f∈Fx∨f∈root::F:=fun f hf=>by
   rw[hr.pos.eq]
   rcases zS.1 hf with e|e
   ·exact .inr (by simp[e])
   ·rcases zV.1 e with e|e
    ·exact .inr (by simp[e])
    ·rcases zV.1 e with e|e
     ·exact .inl e
     ·exact .inr (by simp[e])
  have g:∀ (i:Nat),i<5→(pre++([v0,v1,v2,v3,v4]++post))[oq+i]?=[v0,v1,v2,v3,v4][i]?:=fun i hi=>by
   rw[zI (by omega),zK (by simp;omega),hpl,xZ]
  have far:∀ (r:List Value),r.length=5→∀ j,oq+5≤j→(pre++(r++post))[j]?=post[j-oq-5]?:=fun r hr j hj=>by
   rw[zI (by omega),zI (by omega),hr,hpl]
  have hth:TH w m (Pn.put path p q) root 0 (Fa++(Fx++Fz)) []:=by
   refine hr.pos.fill hr.le (fun f hf j hj=>?_) (hc.th (.refl _) (fun _ _ _=>rfl) ⟨?_,?_,?_,?_,?_⟩)
   ·by_cases hne:f=bq
    ·subst hne;rw[aY hh,aY hrow0]
     rcases hj with hj|hj|hj
     ·exact absurd rfl hj
     ·rw[zK (by omega),zK (by omega)]
     ·rw[far _ rfl j hj,far _ hrl j hj]
    ·refine hcell f ?_ hne j;rw[hr.pos.eq]
     rcases zS.1 hf with e|e
     ·simp[e]
     ·rcases zV.1 e with e|e<;>simp[e]
   ·rw[aY hh];exact g 0 (by omega)
   ·rw[aY hh];exact g 1 (by omega)
   ·rw[aY hh];exact g 2 (by omega)
   ·rw[aY hh];exact g 3 (by omega)
   ·rw[aY hh];exact g 4 (by omega)
  refine⟨⟨m,pG st' φ,hi.AX9 hst2,fun x=>?_,hadv.cut,fun id hid=>?_,?_⟩,h6,h7⟩
  ·rcases he x with e|⟨e,e'⟩
   ·rw[e];exact .junk _
   ·rw[e];exact e'.rep (fun i hi'=>mR hi') (henv x)
  ·cases hx:pG st' φ id with
   | none=>exact absurd hx hid
   | some q=>exact(dA hx).2
  ·have hnd:=hr.pos.nd;rw[hr.pos.eq]at hnd;refine⟨hth,fun hm'=>?_,?_,fun f hf=>?_⟩
   ·rcases zV.1 hm' with e|e
    ·exact hr.pos.nr (by rw[hr.pos.eq];simp[e])
    ·rcases zV.1 e with e|e
     ·have:=(hc.all root e).1;have:=hlt root (by simp);omega
     ·exact hr.pos.nr (by rw[hr.pos.eq];simp[e])
   ·rw[zH]at hnd ⊢;have hz:=zH.1 hnd.2.1;have hltF:∀ f∈Fa++(Fy++Fz),f<wx.heap.size:=fun f hf=>hlt f (by rw[hr.pos.eq];exact zA7 _ hf)
    refine⟨hnd.1,zH.2 ⟨hc.nd,hz.2.1,fun x hx z hz' e=>?_⟩,fun x hx z hz' e=>?_⟩
    ·have:=(hc.all x hx).1;have:=hltF z (by simp[hz']);omega
    ·rcases zV.1 hz' with h|h
     ·have:=(hc.all z h).1;have:=hltF x (by simp[hx]);omega
     ·exact hnd.2.2 x hx z (by simp[h]) e
   ·rcases sub f hf with hf'|hf'
    ·obtain⟨z1,z2,z3,z4,z5⟩:=hc.all f hf';exact⟨Nat.le_trans hwx z1,z2,z3.cut,z4,z5⟩
    by_cases hne:f=bq
    ·subst hne;refine⟨hr.bqn,(zL.1 hh).1,?_,hm,_,T,hh,hone⟩;refine sG hi (fun i blk h=>(hst2 i blk h).1) hbox ?_ e2 hb2.1
     cases hx:st' k with
     | none=>rfl
     | some blk=>exact absurd rfl (hst k blk hx).1
    ·obtain⟨q1,q2,q3,q4,q5,vs',T',q6,q7⟩:=hr.oth f hf' hne;exact⟨q1,q2,q3.cut,q4,vs',T',by rw[q5];exact q6,q7⟩
theorem CPY.other {wx:World} {x:Pn} {Fx:List Nat} {v0 v1 v2 v3 v4:Value} {w:World} {st':Store} {k bq:Nat} (hb:bq<wx.heap.size):∀ m φ n,CPY wx x Fx v0 v1 v2 v3 v4 w m φ→CPY wx x Fx v0 v1 v2 v3 v4 w m (upd (pG st' φ) k (some (bq,one bq n))):=by
 intro m φ n h;refine⟨h.th,h.cells,h.nd,fun f hf=>?_,h.kc⟩;obtain⟨z1,z2,z3,z4,z5⟩:=h.all f hf;refine⟨z1,z2,fun i r n' e ho=>?_,z4,z5⟩;by_cases e2:i=k
 ·subst e2;simp[upd]at e;obtain⟨rfl,rfl⟩:=e;have:f=bq:=ho;omega
 ·simp[upd,e2]at e;exact z3 i r n' (dA e).1 ho
theorem GR.AMG {X:World→Mem→Pl→Prop} (hX:AEO X) {ok:Nat→Prop} {env:Nat→AV} {st:Store} {a:Act} {w:World} {d:Nat} {m1:Mem} {φ:Pl} {p:Pn} (hd:d<nt) (hi:Inv w m1 φ st) (henv:∀ t,Rep m1 φ (env t) (a.tmps.getD t undef)) (hadv:Adv wi mi (fun _=>none) w m1 φ) (hok:∀ id,φ id≠none→ok id) (hsz:nt≤a.tmps.size) (hdf:a.defers=[]) (hx:X w m1 φ)
 {e:Ending} {w':World} (h:uZ w m1 p e w'):∃ y,e=.returned y∧∃ v0 v1 v2 v3 v4 F,GR wi mi nt ok (fun w' m' φ'=>X w' m' φ'∧CPY w p F v0 v1 v2 v3 v4 w' m' φ') (upd env d (.i (.agg [.lit v0, .lit v1, .lit v2, .lit v3, .lit v4]))) st (a.put (some d) y) w':=by
 obtain⟨v0,v1,v2,v3,v4,F,m2,rfl,hone,hm2,ha,hc⟩:=h;obtain⟨i2,a2⟩:=hi.AS5 ha hm2;refine⟨_,rfl,v0,v1,v2,v3,v4,F,⟨m2,φ,i2,vM (dst:=some d) (fun t=>(henv t).mono a2.mle a2.ple) hsz (by simpa [Y7]using hd) (.i (.agg ?_)),hadv.trans a2,hok,hX _ _ _ _ _ _ a2 hx,?_⟩,by rw[nA];exact hsz,by rw[iL];exact hdf⟩
 ·exact .cons (.lit _) (hone _ (by simp)) (.cons (.lit _) (hone _ (by simp)) (.cons (.lit _) (hone _ (by simp)) (.cons (.lit _) (hone _ (by simp)) (.cons (.lit _) (hone _ (by simp)) .nil))))
 ·refine⟨hc.th,hc.cells,hc.nd,fun f hf=>?_,hc.kc⟩;obtain⟨k1,k2,k3,k4,k5⟩:=hc.all f hf;refine⟨k1,k2,fun id b n e ho=>?_,k4,k5⟩;have:=hi.low id b n f e ho;omega
def R5 (wi:World) (mi:Mem) (p:Pn) (e:Ending) (w:World):Prop :=
 ∃ v0 v1 v2 v3 v4,e=.returned (.tuple #[.agg #[v0,v1,v2,v3,v4], .bool true])∧uZ wi mi p (.returned (.agg #[v0,v1,v2,v3,v4])) w
theorem R5.own {wi:World} {mi:Mem} {p:Pn} {e:Ending} {w:World} (h:R5 wi mi p e w):bF wi mi (fun _=>none) (.tup [rqA p 0, .bool true]) (rqB p) e w:=by
 obtain⟨v0,v1,v2,v3,v4,rfl,h⟩:=h;obtain⟨v,m,φ,e,r,i,a,b⟩:=h.own;injection e with e;subst e;exact⟨_,m,φ,rfl, .tup (.cons r (.cons (.i (.lit _)) .nil)),i,a,b⟩
end
def AZ5 (o:Option Pn):AV×StL:=(.tup [rqA (o.getD Pn.zero) 0, .bool o.isSome],rqB (o.getD Pn.zero))
noncomputable def uX:List AV→StL→Option (AV×StL)
 | args,[]=>open Classical in if h:∃ x,ApA args x then some (AZ5 (apO h.choose.1 h.choose.2.1 h.choose.2.2.1 h.choose.2.2.2))else none
 | _,_=>none
theorem AE7 (p:Pn) (ws:List Int) (r:Int) (path:List Int):uX [.i (.agg p.cells), .i (.isl (aD ws)), .i (.agg [.int r, .isl (aD path)])] []=some (AZ5 (apO p ws r path)):=by
 have h:∃ x,ApA [.i (.agg p.cells), .i (.isl (aD ws)), .i (.agg [.int r, .isl (aD path)])] x:=⟨(p,ws,r,path),rfl⟩
 unfold uX;simp only;rw[dif_pos h];have:=h.choose_spec.inj (y:=(p,ws,r,path)) rfl;rw[this]
theorem VO {args:List AV} {st:StL} {q:AV×StL} (h:uX args st=some q):∃ p ws r path,args=[.i (.agg (Pn.cells p)), .i (.isl (aD ws)), .i (.agg [.int r, .isl (aD path)])]∧st=[]∧q=AZ5 (apO p ws r path):=by
 unfold uX at h;split at h
 ·split at h
  ·rename_i hx;injection h with h;exact⟨_,_,_,_,hx.choose_spec,rfl,h.symm⟩
  ·cases h
 ·cases h
end Go.Av
namespace Go.Proofs.YtjdfjgmebalaaaaGreat.P
open Go Go.Av G
set_option maxRecDepth 4000
set_option maxHeartbeats 8000000
theorem AcH (A B C D X:Option Blk):upd (aR [A,B,C,D]) 3 X=aR [A,B,C,X]:=by
 funext i
 rcases i with _|_|_|_|i
 all_goals simp[upd,aR]
theorem YM {p:Pn} {ws:List Int} {r:Int} {path:List Int} {q:Pn} (h0:p.width ws≠0) (hq:apI ws r path p=some q) {wi:World} {mi:Mem} {vs:List Value} (hi:Inv wi mi (fun _=>none) (aR [])) (hr:RepL mi (fun _=>none) [.i (.agg p.cells), .i (.isl (aD ws)), .i (.agg [.int r, .isl (aD path)])] vs) :
 Calls Tryz.prog 26 vs.toArray wi (bF wi mi (fun _=>none) (.tup [rqA q 0, .bool true]) (rqB q)):=by
 obtain⟨hw,hp8,hv⟩:=nO h0;have hws:=jV hw;unfold apI at hq;split at hq
 rotate_left
 ·cases hq
 rename_i hl
 cases ha:Pn.at path p with
 | none=>rw[ha]at hq;cases hq
 | some a =>
 rw[ha]at hq;simp only[yP]at hq;obtain⟨-,hav⟩:=FL path p 8 a hp8 ha;have ha8:a.wd ws 8≠0:=by rw[Pn.gD a _ 8 hav (by omega)];exact hav
 cases hx:rwL ws r (8-path.length) a with
 | none=>rw[hx]at hq;cases hq
 | some x =>
 rw[hx]at hq;simp only[zA0,Option.some.injEq]at hq;subst hq
 have hxw:x.wd ws (8-path.length)≠0:=by
  unfold rwL at hx
  cases hy:rwP ws r a with
  | none=>rw[hy]at hx;cases hx
  | some y =>
   rw[hy]at hx;simp only[yP]at hx;split at hx
   ·injection hx with hx;subst hx;assumption
   ·cases hx
 have hx8:x.wd ws 8≠0:=by rw[Pn.gD x _ 8 hxw (by omega)];exact hxw
 have hxs:x.small:=⟨by have:=(Pn.tT x 8 hx8).2;omega,dJ x 8 hx8,(Pn.tT x 8 hx8).1⟩
 have hps:p.small:=⟨by have:=(Pn.tT p 8 hp8).2;omega,dJ p 8 hp8,(Pn.tT p 8 hp8).1⟩
 have c1:=jU p ws;have c2:=AA9 p path;simp only[atI,hl,if_true,ha,atV]at c2;have c3:=lX hw ha8 r (lv:=8-path.length) (by omega);rw[hx]at c3;simp only[IY,xS,xA]at c3;have w1:IntKind.i64.wrap (8-(path.length:Int))=((8-path.length:Nat):Int):=by rw[wrO];omega
 refine calls_of_wp (fn:=Tryz.f26) Tryz.func26 rfl ?_;have hv1:vs.length=3:=by simpa using hr.length.symm
 have g0:GR wi mi 45 (fun id=>id<({ env:=[(0, .i (.agg p.cells)),(1, .i (.isl (aD ws))),(2, .i (.agg [.int r, .isl (aD path)]))],st:=[] }:AS).st.length) (fun _ _ _=>True) (aN [(0, .i (.agg p.cells)),(1, .i (.isl (aD ws))),(2, .i (.agg [.int r, .isl (aD path)]))]) (aR []) { tmps:=vs.toArray++Array.replicate (45-vs.toArray.size) undef,defers:=[] } wi:=by
  refine⟨⟨mi,fun _=>none,hi,?_, .refl _ _ _,fun id h=>absurd rfl h,trivial⟩,by simp;omega,rfl⟩;intro t;have:=kR (m:=mi) (φ:=fun _=>none) (45-vs.toArray.size) hr t
  rcases t with _|_|_|t
  ·simpa [aN,qU]using this
  ·simpa [aN,qU]using this
  ·simpa [aN,qU]using this
  ·simp only[aN];simp;exact .junk _
 refine wp_seq (wp_mono (GR.dW bH (G:=GS 26) (S:={ env:=[(0, .i (.agg p.cells)),(1, .i (.isl (aD ws))),(2, .i (.agg [.int r, .isl (aD path)]))],st:=[] }) (e:=.normal) (S':={ env:=TEV p ws r path (.own 0 0) (.own 1 0) (.own 2 0) (.bool false) .junk .junk .junk .junk .junk .junk .junk,st:=[bxP p,bxS r path,some (.box zp)] }) jE (by kernel_rfl) (by
  rw[Pn.aA p]at *
  simp[TEV,bxP,bxS,zp,Pn.aA p]) g0) ?_)
 rintro _ a1 w1' ⟨rfl,g1⟩
 refine wp_seq (wp_mono (GR.dW bH (G:=GS 26) (S:={ env:=TEV p ws r path (.own 0 0) (.own 1 0) (.own 2 0) (.bool false) .junk .junk .junk .junk .junk .junk .junk,st:=[bxP p,bxS r path,some (.box zp)] }) (e:=.normal) (S':={ env:=TEV p ws r path (.own 0 0) (.own 1 0) (.own 2 0) (.bool false) .junk .junk .junk .junk (.bool false) .junk .junk,st:=[bxP p,bxS r path,some (.box zp)] }) jE (by kernel_rfl) (by
  simp only[TEV,bxP,bxS];rw[Pn.aA p]at *
  simp[zp,c1,h0]) g1) ?_)
 rintro _ a2 w2' ⟨rfl,g2⟩
 refine wp_seq (wp_mono (GR.dW bH (G:=GS 26) (S:={ env:=TEV p ws r path (.own 0 0) (.own 1 0) (.own 2 0) (.bool false) .junk .junk .junk .junk (.bool false) .junk .junk,st:=[bxP p,bxS r path,some (.box zp)] }) (e:=.normal) (S':={ env:=TEV p ws r path (.own 0 0) (.own 1 0) (.own 2 0) (.bool false) (.i (.iref a.cells)) .junk .junk .junk (.bool false) .junk .junk,st:=[some (.fbox p.cells),bxS r path,some (.box zp)] }) jE (by kernel_rfl) (by
  simp only[TEV,bxP,bxS];rw[Pn.aA p,Pn.aA a]at *
  simp[zp,c2]) g2) ?_)
 rintro _ a3 w3' ⟨rfl,g3⟩
 refine wp_seq (wp_mono (GR.dW bH (G:=GS 26) (S:={ env:=TEV p ws r path (.own 0 0) (.own 1 0) (.own 2 0) (.bool false) (.i (.iref a.cells)) .junk .junk .junk (.bool false) .junk .junk,st:=[some (.fbox p.cells),bxS r path,some (.box zp)] }) (e:=.normal) (S':={ env:=TEV p ws r path (.own 0 0) (.own 1 0) (.own 2 0) (.bool false) (.i (.iref a.cells)) .junk .junk .junk (.bool false) (.bool false) .junk,st:=[some (.fbox p.cells),bxS r path,some (.box zp)] }) jE (by kernel_rfl) (by
  simp only[TEV,bxP,bxS]
  simp[zp]) g3) ?_)
 rintro _ a4 w4' ⟨rfl,g4⟩
 refine wp_seq (wp_mono (GR.dW bH (G:=GS 26) (S:={ env:=TEV p ws r path (.own 0 0) (.own 1 0) (.own 2 0) (.bool false) (.i (.iref a.cells)) .junk .junk .junk (.bool false) (.bool false) .junk,st:=[some (.fbox p.cells),bxS r path,some (.box zp)] }) (e:=.normal) (S':={ env:=TEV p ws r path (.own 0 0) (.own 1 0) (.own 2 0) (.bool false) (.i (.iref a.cells)) (.own 3 0) (.bool true) .junk (.bool false) (.bool false) .junk,st:=[some (.fbox p.cells),bxS r path,some (.box zp),bxP x] }) jE (by kernel_rfl) (by
  simp only[TEV,bxP,bxS];rw[Pn.aA a,Pn.aA x]at *
  simp[zp,w1,c3]) g4) ?_)
 rintro _ a5 w5' ⟨rfl,g5⟩
 refine wp_seq (wp_mono (GR.dW bH (G:=GS 26) (S:={ env:=TEV p ws r path (.own 0 0) (.own 1 0) (.own 2 0) (.bool false) (.i (.iref a.cells)) (.own 3 0) (.bool true) .junk (.bool false) (.bool false) .junk,st:=[some (.fbox p.cells),bxS r path,some (.box zp),bxP x] }) (e:=.normal) (S':={ env:=TEV p ws r path (.own 0 0) (.own 1 0) (.own 2 0) (.bool false) (.i (.iref a.cells)) (.own 3 0) (.bool true) .junk (.bool false) (.bool false) (.bool false),st:=[some (.fbox p.cells),bxS r path,some (.box zp),bxP x] }) jE (by kernel_rfl) (by
  simp only[TEV,bxP,bxS]
  simp[zp,Pn.aA x]) g5) ?_)
 rintro _ a6 w6 ⟨rfl,g6⟩;clear g0 g1 g2 g3 g4 g5;have hst6:(6:Nat)<45:=by omega
 refine wp_seq (jO ?_);show wpOpsIn (FR none) 0 Tryz.prog _ _ (List.range 3) a6 w6;rw[show List.range 3=0::(List.range' 1 2++[])from rfl,wpOpsIn_cons];obtain⟨⟨m6,φ6,i6,henv6,adv6,ok6,-⟩,sz6,df6⟩:=g6;obtain⟨m7,rp7,i7,adv7⟩:=mH i6 (henv6 3) (show gQ (aR [some (.fbox p.cells),bxS r path,some (.box zp),bxP x]) (.own 0 0)=some (.i (.iref p.cells),aR [some (.fbox p.cells),bxS r path,some (.box zp),bxP x])by simp[gQ,qZ,frz,wC,DI,aR,bnd,tst,iD]);have rp7':RepL m7 (fun _=>none) [.i (.iref p.cells)] [a6.tmps.getD 3 undef]:=.cons (by cases rp7 with|i k=>exact .i k) .nil
 have i7':Inv w6 m7 (fun _=>none) (aR []):=⟨i7.mem,fun id blk e=>by simp[aR]at e,fun _ _ _ _ _ _ _ _ _ e=>by simp[aR]at e,fun _ _ _ _ e=>by cases e⟩
 refine qA (P:=Tryz.prog) (fn:=Tryz.f59) (d:=38) (g:=59) (args:=#[.tmp 3]) rfl rfl rfl rfl Tryz.func59 AaC AaD (vs:=[a6.tmps.getD 3 undef]) rfl ((iQ hps.1 hps.2.1 hps.2.2 i7' rp7').mono fun e w7 hraw=>?_);obtain⟨y,rfl,v0,v1,v2,v3,v4,F,g7⟩:=GR.AHW (nt:=45) (d:=38) (by omega) i7 (fun t=>(henv6 t).mono adv7.mle adv7.ple) (adv6.trans adv7) ok6 sz6 df6 hraw;refine⟨y,rfl,?_⟩;have hsz6:wi.heap.size≤w6.heap.size:=adv6.size;generalize hE8:TEV p ws r path (.own 0 0) (.own 1 0) (.own 2 0) (.bool false) (.i (.iref a.cells)) (.own 3 0) (.bool true) .junk (.bool false) (.bool false) (.bool false)=E8 at g7;refine GR.AOJ bH (CPY.EK _ _ _ _ _ _ _ _) 1 2 rfl ?_ (base:=4) (R0:={ env:=upd (aN E8) 38 (.i (.agg [.lit v0, .lit v1, .lit v2, .lit v3, .lit v4])),st:=aR [some (.fbox p.cells),bxS r path,some (.box zp),bxP x],log:=[] }) (R1:={ env:=upd (upd (aN E8) 38 (.i (.agg [.lit v0, .lit v1, .lit v2, .lit v3, .lit v4]))) 11 (.own 12 0),st:=upd (aR [some (.fbox p.cells),bxS r path,some (.box zp),bxP x]) 12 (some (.box (bI [v0,v1,v2,v3,v4]))),log:=[] }) ?_ (g7.ok' fun id h=>.inl (by simpa using h)) fun a8 w8 g8=>?_
 ·kernel_rfl
 ·simp[bI,zp,ANP]
 obtain⟨b3,g9⟩:=g8.AbI (u:=11) (id:=12) (st':=aR [some (.fbox p.cells),bxS r path,some (.box zp),bxP x]) hsz6 rfl rfl (by
  intro i blk h
  rcases i with _|_|_|_|i
  ·simp[aR]at h;subst h;simp[upd,aR,fB]
  ·simp[aR,bxS]at h;subst h;simp[upd,aR,fB,bxS]
  ·simp[aR]at h;subst h;simp[upd,aR,fB,zp]
  ·simp[aR,bxP]at h;subst h;simp[upd,aR,fB,bxP,Pn.aA x,jW]
  ·simp[aR]at h)
 have g9:=(g9 (aN [(5, .own 1 0),(6, .own 2 0),(9, .own 3 0),(11, .i (.lit (.pointer (some ⟨b3,0,none⟩))))]) (by
  subst hE8;intro t;simp only[aN];by_cases h5:t=5
  ·subst h5;exact .inr (.inr ⟨by simp[upd,TEV,aN],by simp[upd,TEV,aN,iG,aR,bxS]⟩)
  by_cases h6:t=6
  ·subst h6;exact .inr (.inr ⟨by simp[upd,TEV,aN],by simp[upd,TEV,aN,iG,aR]⟩)
  by_cases h9:t=9
  ·subst h9;exact .inr (.inr ⟨by simp[upd,TEV,aN],by simp[upd,TEV,aN,iG,aR,bxP]⟩)
  by_cases h11:t=11
  ·subst h11;exact .inr (.inl ⟨rfl,rfl⟩)
  simp[h5,h6,h9,h11])).ok' (ok':=fun id=>GL 4 (fun j=>j<0) id) (by
  intro i h;refine .inl ?_
  rcases i with _|_|_|_|i
  all_goals first|omega|(simp[aR]at h))
 clear g7 g8;refine wp_seq (jO ?_);show wpOpsIn (FR none) 0 Tryz.prog _ _ (List.range 6) a8 w8;rw[show List.range 6=List.range' 0 2++(2::3::(List.range' 4 1++(List.range' 5 1++[])))from rfl];generalize hE9:aN [(5, .own 1 0),(6, .own 2 0),(9, .own 3 0),(11, .i (.lit (.pointer (some ⟨b3,0,none⟩))))]=E9 at g9;refine GR.AOJ bH (RAW.EK _ _ _ _ _) 0 2 rfl ?_ (base:=4) (R0:={ env:=E9,st:=aR [some (.fbox p.cells),bxS r path,some (.box zp),bxP x],log:=[] }) (R1:={ env:=upd (upd E9 39 (.own 1 1)) 40 (.i (.isl (aD path))),st:=aR [some (.fbox p.cells),bxS r path,some (.box zp),bxP x],log:=[] }) ?_ g9 fun a9 w9 g10=>?_
 ·kernel_rfl
 ·subst hE9;simp[zp,bxS,ANP]
 clear g9;rw[wpOpsIn_cons];obtain⟨⟨m10,φ10,i10,henv10,adv10,ok10,r10⟩,AY6,df10⟩:=g10;have hv11:=henv10 11;have hv40:=henv10 40;simp only[show upd (upd E9 39 (.own 1 1)) 40 (.i (.isl (aD path))) 11=.i (.lit (.pointer (some ⟨b3,0,none⟩)))from by subst hE9;rfl]at hv11;simp only[show upd (upd E9 39 (.own 1 1)) 40 (.i (.isl (aD path))) 40=.i (.isl (aD path))from rfl]at hv40;have hmm:MLe m10 (dD w9):=i10.mem;refine qA (P:=Tryz.prog) (fn:=Tryz.f69) (d:=41) (g:=69) (args:=#[.tmp 11, .tmp 40]) rfl rfl rfl rfl Tryz.func69 AbN hb48 (vs:=[a9.tmps.getD 11 undef,a9.tmps.getD 40 undef]) rfl ((AB0 r10.th r10.nr r10.nd ha hl (vs:=[a9.tmps.getD 11 undef,a9.tmps.getD 40 undef]) (.cons (by cases hv11 with|i k=>exact .i (k.mono hmm)) (.cons (by cases hv40 with|i k=>exact .i (k.mono hmm)) .nil))).mono fun e w10 hplace=>?_);obtain⟨y2,rfl,bq,oq,Fa,Fy,Fz,g11⟩:=GR.AAC (nt:=45) (d:=41) (by omega) i10 henv10 adv10 ok10 AY6 df10 r10 hplace;refine⟨y2,rfl,?_⟩;rw[wpOpsIn_cons];obtain⟨⟨m11,φ11,i11,henv11,adv11,ok11,r11⟩,AbE,df11⟩:=g11;generalize hE11:upd (upd (upd E9 39 (.own 1 1)) 40 (.i (.isl (aD path)))) 41 (.i (.lit (.pointer (some ⟨bq,oq,none⟩))))=E11 at henv11;have h9:E11 9=.own 3 0:=by subst hE11;subst hE9;rfl
 have hr9:=henv11 9;rw[h9]at hr9
 obtain⟨m12,rp12,i12,adv12⟩:=mH i11 hr9 (show gQ (aR [some (.fbox p.cells),bxS r path,some (.box zp),bxP x]) (.own 3 0)=some (.i (.iref x.cells),aR [some (.fbox p.cells),bxS r path,some (.box zp),some (.fbox x.cells)])by
  have hu:=AcH (some (.fbox p.cells)) (bxS r path) (some (.box zp)) (bxP x) (some (.fbox x.cells));rw[Pn.aA x]at hu ⊢;simp[bxP,Pn.aA x]at hu ⊢
  exact hu)
 have rp12':RepL m12 (fun _=>none) [.i (.iref x.cells)] [(a9.put (some 41) y2).tmps.getD 9 undef]:=.cons (by cases rp12 with|i k=>exact .i k) .nil
 have i12':Inv w10 m12 (fun _=>none) (aR []):=⟨i12.mem,fun id blk e=>by simp[aR]at e,fun _ _ _ _ _ _ _ _ _ e=>by simp[aR]at e,fun _ _ _ _ e=>by cases e⟩
 have hwx:wi.heap.size≤w10.heap.size:=adv11.size;have hlt:∀ f∈b3::F,f<w10.heap.size:=fun f hf=>(r11.raw.all f hf).2.1
 have hbq:bq<w10.heap.size:=hlt bq r11.pos.mem;have r12:=RAT.EK _ _ _ _ _ _ _ _ _ _ _ _ _ _ _ _ _ adv12 r11;refine qA (P:=Tryz.prog) (fn:=Tryz.f59) (d:=42) (g:=59) (args:=#[.tmp 9]) rfl rfl rfl rfl Tryz.func59 AaC AaD (vs:=[(a9.put (some 41) y2).tmps.getD 9 undef]) rfl ((iQ hxs.1 hxs.2.1 hxs.2.2 i12' rp12').mono fun e w11 hraw=>?_);obtain⟨y3,rfl,u0,u1,u2,u3,u4,Fx,g12⟩:=GR.AMG (nt:=45) (d:=42) (RAT.EK wi b3 p F path a bq oq Fa Fy Fz) (by omega) i12 (fun t=>(henv11 t).mono adv12.mle adv12.ple) (adv11.trans adv12) ok11 AbE df11 r12 hraw;refine⟨y3,rfl,?_⟩
 have hst12:AEO (fun w m φ=>RAT wi b3 p F path a bq oq Fa Fy Fz w m φ∧CPY w10 x Fx u0 u1 u2 u3 u4 w m φ):=fun w m φ w' m' φ' ha h=>⟨RAT.EK _ _ _ _ _ _ _ _ _ _ _ _ _ _ _ _ _ ha h.1,CPY.EK _ _ _ _ _ _ _ _ _ _ _ _ _ _ ha h.2⟩
 refine GR.AOJ bH hst12 4 1 rfl ?_ (base:=4) (R0:={ env:=upd E11 42 (.i (.agg [.lit u0, .lit u1, .lit u2, .lit u3, .lit u4])),st:=aR [some (.fbox p.cells),bxS r path,some (.box zp),some (.fbox x.cells)],log:=[] }) (R1:={ env:=upd (upd E11 42 (.i (.agg [.lit u0, .lit u1, .lit u2, .lit u3, .lit u4]))) 43 (.i (.lit (.pointer (some ⟨bq,oq,none⟩)))),st:=aR [some (.fbox p.cells),bxS r path,some (.box zp),some (.fbox x.cells)],log:=[] }) ?_ (g12.ok' fun id h=>o5 (fun j hj=>by omega) h) fun a10 w12 g13=>?_
 ·kernel_rfl
 ·subst hE11;subst hE9;simp[zp,bxS,ANP]
 clear g12
 obtain⟨pre,row,post,ma,hrl,hpl,g14⟩:=g13.AXQ (u:=43) (k:=1) (st':=upd (fun _=>none) 2 (some (.box zp))) (by subst hE11;rfl) (by
  intro i blk h;by_cases h2:i=2
  ·subst h2;simp[upd]at h;subst h;simp[aR,fB,zp]
  ·simp[upd,h2]at h) (by simp[upd]) (CPY.other hbq)
 have g14:=(g14 (aN [(6, .own 2 0),(11, .i (.lit (.pointer (some ⟨b3,0,none⟩)))),(42, .i (.agg [.lit u0, .lit u1, .lit u2, .lit u3, .lit u4])),(43, .own 1 oq)]) (by
  subst hE11;subst hE9;intro t;simp only[aN];by_cases h6:t=6
  ·subst h6;exact .inr (.inr ⟨by simp[upd,aN],by simp[upd,aN,iG]⟩)
  by_cases h11:t=11
  ·subst h11;exact .inr (.inr ⟨by simp[upd,aN],by simp[upd,aN,iG]⟩)
  by_cases h42:t=42
  ·subst h42;exact .inr (.inr ⟨by simp[upd,aN],by simp[upd,aN,iG]⟩)
  by_cases h43:t=43
  ·subst h43;exact .inr (.inl ⟨rfl,rfl⟩)
  simp[h6,h11,h42,h43])).ok' (ok':=fun id=>GL 4 (fun j=>j<5) id) (by
  intro i h;refine .inl ?_
  rcases h with h|h
  ·by_cases h2:i=2
   ·omega
   ·simp[upd,h2]at h
  ·omega)
 clear g13;refine GR.AOJ bH (fun w m φ w' m' φ' ha h=>⟨⟨ADK.EK _ _ _ _ _ _ _ _ _ _ _ _ _ _ _ _ _ _ _ _ ha h.1.1,h.1.2⟩,CPY.EK _ _ _ _ _ _ _ _ _ _ _ _ _ _ ha h.2⟩) 5 1 rfl ?_ (base:=4) (R0:={ env:=aN [(6, .own 2 0),(11, .i (.lit (.pointer (some ⟨b3,0,none⟩)))),(42, .i (.agg [.lit u0, .lit u1, .lit u2, .lit u3, .lit u4])),(43, .own 1 oq)],st:=upd (upd (fun _=>none) 2 (some (.box zp))) 1 (some (.box (jH pre (bI row) post))),log:=[] }) (R1:={ env:=aN [(6, .own 2 0),(11, .i (.lit (.pointer (some ⟨b3,0,none⟩)))),(42, .i (.agg [.lit u0, .lit u1, .lit u2, .lit u3, .lit u4])),(43, .own 1 oq)],st:=upd (upd (upd (fun _=>none) 2 (some (.box zp))) 1 (some (.box (jH pre (bI row) post)))) 1 (some (.box (jH pre (bI [u0,u1,u2,u3,u4]) post))),log:=[] }) ?_ g14 fun a11 w13 g15=>?_
 ·kernel_rfl
 ·subst hpl
  have hsp:splice (jH pre (bI row) post) pre.length (bI [u0,u1,u2,u3,u4])=some (jH pre (bI [u0,u1,u2,u3,u4]) post):=by
   have:=nY pre post (bI row) 0 (bI [u0,u1,u2,u3,u4]);rw[xQ]at this;rw[this]
   match row,hrl with
   | [r0,r1,r2,r3,r4],_=>simp[bI,jH,splice,bnd]
  have hz:bI [u0,u1,u2,u3,u4]=[.i (.lit u0), .i (.lit u1), .i (.lit u2), .i (.lit u3), .i (.lit u4)]:=rfl;rw[hz]at hsp ⊢;simp[hsp,ANP]
 clear g14
 have g16:=g15.AaE (q:=x) hwx hlt hrl hpl rfl (st':=upd (fun _=>none) 2 (some (.box zp))) (env':=aN [(6, .own 2 0),(11, .i (.lit (.pointer (some ⟨b3,0,none⟩))))]) (by
  intro i blk h;by_cases h2:i=2
  ·subst h2;simp[upd]at h;subst h;simp[upd,fB,zp]
  ·simp[upd,h2]at h) (by
  intro t;simp only[aN];by_cases h6:t=6
  ·subst h6;exact .inr ⟨by simp,by simp[iG,upd]⟩
  by_cases h11:t=11
  ·subst h11;exact .inr ⟨by simp,by simp[iG]⟩
  simp[h6,h11])
 clear g15;generalize Pn.put path p x=q at *
 have g17:=g16.settle (fun w m φ ids h=>RAW.keep ids h) [6,11];have hset:Av.settle [6,11] 0 (aN [(6, .own 2 0),(11, .i (.lit (.pointer (some ⟨b3,0,none⟩))))]) (upd (fun _=>none) 2 (some (.box zp)))={ env:=[(6, .own 0 0),(11, .i (.lit (.pointer (some ⟨b3,0,none⟩))))],st:=[some (.box zp)] }:=by simp[zp,upd]
 rw[hset]at g17;clear g16;obtain⟨v0',v1',v2',v3',v4',post',hone',g18⟩:=g17.APB (u:=11) (k:=1) rfl rfl (by simp)
 have g18:=(g18 (aN [(6, .own 0 0),(11, .own 1 0)]) (by
  intro t;simp only[aN];by_cases h6:t=6
  ·subst h6;exact .inr (.inr (by simp[aN]))
  ·by_cases h11:t=11
   ·subst h11;exact .inr (.inl ⟨rfl,rfl⟩)
   ·simp[h6,h11])).ok' (ok':=fun id=>id<({ env:=[(6, .own 0 0),(11, .own 1 0)],st:=[some (.box zp),some (.box (bI [v0',v1',v2',v3',v4']++bI post'))] }:AS).st.length) (by
  intro i h
  simp at h ⊢;omega)
 have hst1:upd (aR [some (.box zp)]) 1 (some (.box (bI [v0',v1',v2',v3',v4']++bI post')))=aR [some (.box zp),some (.box (bI [v0',v1',v2',v3',v4']++bI post'))]:=by
  funext i
  rcases i with _|_|i
  ·rfl
  ·rfl
  ·simp[upd,aR]
 rw[hst1]at g18;clear g17
 refine wp_mono (GR.dW bH (G:=GS 26) (S:={ env:=[(6, .own 0 0),(11, .own 1 0)],st:=[some (.box zp),some (.box (bI [v0',v1',v2',v3',v4']++bI post'))] }) (e:=.ret) (S':={ env:=[(0, .junk),(1, .junk),(2, .junk),(3, .junk),(5, .junk),(6, .own 0 0),(7, .bool true),(8, .junk),(9, .junk),(10, .junk),(11, .own 1 0),(15, .junk),(21, .junk),(36, .junk)],st:=[some (.box (bI [v0',v1',v2',v3',v4'])),some (.box (bI [v0',v1',v2',v3',v4']++bI post'))] }) (CPY.EK _ _ _ _ _ _ _ _) (by kernel_rfl) (by
  have hz:bI [v0',v1',v2',v3',v4']=[.i (.lit v0'), .i (.lit v1'), .i (.lit v2'), .i (.lit v3'), .i (.lit v4')]:=rfl;rw[hz]
  simp[zp,AQ,EN]) g18) ?_
 rintro _ a12 w14 ⟨rfl,g19⟩;obtain⟨⟨m,φ,q1,q2,q3,q4,q5⟩,q6,q7⟩:=g19
 obtain⟨v,k1,k2⟩:=eU (C:=C0) (fn:=Tryz.f26) (keep:=false) (na:=0) (S:={ env:=[(0, .junk),(1, .junk),(2, .junk),(3, .junk),(5, .junk),(6, .own 0 0),(7, .bool true),(8, .junk),(9, .junk),(10, .junk),(11, .own 1 0),(15, .junk),(21, .junk),(36, .junk)],st:=[some (.box (bI [v0',v1',v2',v3',v4'])),some (.box (bI [v0',v1',v2',v3',v4']++bI post'))] }) (r:=.tup [.i (.agg [.lit v0', .lit v1', .lit v2', .lit v3', .lit v4']), .bool true]) (stl':=[]) (fun id h=>absurd rfl h) ⟨⟨⟨m,φ,q1,q2,q3,q4, .nil _ _ _⟩,q6,q7⟩,zB0 _⟩ (by
  show finish C0 false [ResultVar.cell 6 34,ResultVar.tmp 7] 0 _=_;have hz:bI [v0',v1',v2',v3',v4']=[.i (.lit v0'), .i (.lit v1'), .i (.lit v2'), .i (.lit v3'), .i (.lit v4')]:=rfl;rw[hz]
  simp)
 have hv':v=.tuple #[.agg #[v0',v1',v2',v3',v4'], .bool true]:=by
  obtain⟨_,_,_,e,r,_⟩:=k2;injection e with e;subst e
  cases r with
  | tup r =>
   cases r with|cons b0 r=>cases r with|cons b1 r =>
   cases r
   cases b0 with
   | i r0=>cases r0 with
    | agg r =>
     cases r with|cons a0 _ r=>cases r with|cons a1 _ r=>cases r with|cons a2 _ r=>cases r with|cons a3 _ r=>cases r with|cons a4 _ r =>
     cases r
     cases b1 with
     | i b1=>rw[gY a0,gY a1,gY a2,gY a3,gY a4,gY b1]
 subst hv';refine⟨q7,_,k1,?_⟩;refine R5.own ⟨v0',v1',v2',v3',v4',rfl,v0',v1',v2',v3',v4',_,m,rfl,hone',q1.mem,⟨q3.size,q3.os,q3.tape,q3.output,q3.block,q3.mle,q3.mnew, .refl _,fun _ _ _ _ e=>by cases e⟩,q5.th,q5.cells,q5.nd,fun f hf=>?_,q5.kc⟩;obtain⟨z1,z2,z3,z4,z5⟩:=q5.all f hf;exact⟨z1,z2,(by intro _ _ _ e;cases e),z4,z5⟩
end Go.Proofs.YtjdfjgmebalaaaaGreat.P
namespace Go.Av
def APH (st:Store):AV→Option IV
 | .own id 0=>match st id with
  | some (.box cs)=>bnd (NH st cs) fun l=>some (.iref l)
  | _=>none
 | v=>AKA st v
def SF (st:Store):List AV→Option (List AV)
 | []=>some []
 | c::r=>bnd (APH st c) fun v=>bnd (SF st r) fun l=>some (.i v::l)
theorem WV {w:World} {m:Mem} {φ:Pl} {st:Store} {c:AV} {x:Value} {iv:IV} (hi:Inv w m φ st) (hr:Rep m φ c x) (h:APH st c=some iv):IRep (dD w) iv x:=by
 unfold APH at h;split at h
 ·rename_i id;split at h
  ·rename_i cs hs;obtain⟨l,h1,h2⟩:=aH.1 h;injection h2 with h2;subst h2
   cases hr with
   | @own _ _ b n e =>
    obtain⟨hb,hok⟩:=bZ hi e hs
    cases hok with
    | @box T _ vs hh hl hrc hm =>
     refine .iref (IAt.mk 0 (tV hi hrc h1) fun j v hj=>?_);show w.cell? ⟨b,0+j,none⟩=some v;rw[aY hh,zF];exact hj
  ·cases h
 ·exact JC hi hr h
theorem FZ {w:World} {m:Mem} {φ:Pl} {st:Store} (hi:Inv w m φ st):∀ {cs us:List AV} {xs:List Value},RepL m φ cs xs→SF st cs=some us→RepL (dD w) (fun _=>none) us xs
 | [],us,_, .nil,h=>by simp[SF]at h;subst h;exact .nil
 | c::cs,us,_, .cons a b,h=>by
  simp only[SF]at h;obtain⟨v,h1,h2⟩:=aH.1 h;obtain⟨l',h3,h4⟩:=aH.1 h2;injection h4 with h4;subst h4;exact .cons (.i (WV hi a h1)) (FZ hi b h3)
def kvK (stl:StL):AV→Option IV
 | .i (.lit v)=>some (.lit v)
 | .nils=>some (.isl [])
 | .osl id k off len=>match aR stl id with
  | some (.frz k' es)=>tst (decide (k'=k∧off=0∧len≤es.length∧0<len)) (tst (es.all uI) (some (.isl (es.take len))))
  | _=>none
 | _=>none
def AWK (stl:StL):List AV→Option (List IV)
 | []=>some []
 | c::r=>bnd (kvK stl c) fun v=>bnd (AWK stl r) fun l=>some (v::l)
def kvA (stl:StL):AV→Option IV
 | .agg cs=>bnd (AWK stl cs) fun l=>some (.agg l)
 | v=>kvK stl v
def AWL (stl:StL):List AV→Option (List AV)
 | []=>some []
 | c::r=>bnd (kvA stl c) fun v=>bnd (AWL stl r) fun l=>some (.i v::l)
def kvT (stl:StL):AV→Option AV
 | .tup cs=>bnd (AWL stl cs) fun l=>some (.tup l)
 | v=>bnd (kvA stl v) fun l=>some (.i l)
section
variable {w w':World} {m m':Mem} {φ':Pl} {stl:StL}
def WH (w:World) (m m':Mem):Mem:=fun b o=>if b<w.heap.size then m b o else m' b o
theorem ZY {b:Nat} (h:w.heap.size≤b) (o:Nat):WH w m m' b o=m' b o:=by unfold WH;rw[if_neg (by omega)]
theorem Q4 {b:Nat} (h:b<w.heap.size) (o:Nat):WH w m m' b o=m b o:=by unfold WH;rw[if_pos h]
theorem AJ3 {b:Nat} (hb:∀ o,WH w m m' b o=m' b o):∀ {cs:List IV} {o:Nat},uI cs=true→IAt m' b o cs→IAt (WH w m m') b o cs
 | [],o,_,_=>.nil b o
 | c::cs,o,hl, .cons e a q r=>by
  simp only[uI,zT]at hl;refine .cons ((hb o).trans e) ?_ q (AJ3 hb hl.2 r)
  cases c with
  | lit v=>rw[gY a];exact .lit _
  | isl es=>simp[ACS]at hl
  | agg cs=>simp[ACS]at hl
  | iref cs=>simp[ACS]at hl
theorem OI {b:Nat} (hb:∀ o,WH w m m' b o=m' b o) {k:Nat}:∀ {es:List (List IV)} {o:Nat},es.all uI=true→IElems m' b o k es→IElems (WH w m m') b o k es
 | [],o,_,_=>.nil b o k
 | e::es,o,hl, .cons a hk r=>by
  simp only[List.all_cons,zT]at hl;exact .cons (AJ3 hb hl.1 a) hk (OI hb hl.2 r)
theorem UK (hi:Inv w' m' φ' (aR stl)) (hadv:Adv w (dD w) (fun _=>none) w' m' φ') {c:AV} {x:Value} {iv:IV} (hr:Rep m' φ' c x) (h:kvK stl c=some iv):IRep (WH w m m') iv x:=by
 unfold kvK at h;split at h
 ·injection h with h;subst h;rw[hr.bX];exact .lit _
 ·injection h with h;subst h
  cases hr;exact .isl0 _ _ fun _=>rfl
 ·rename_i id k off len;split at h
  ·rename_i k' es hs;obtain⟨h1,h2⟩:=aO.1 h;obtain⟨h3,h4⟩:=aO.1 h2;simp only[zM]at h1;obtain⟨rfl,rfl,hle,hpos⟩:=h1;injection h4 with h4;subst h4
   cases hr with
   | @osl _ _ _ _ cap b n ao e hlc hkl hao hao2 =>
    obtain⟨hb,hok⟩:=bZ hi e hs
    cases hok with
    | frz hk0 he =>
     have hnew:w.heap.size≤b:=by
      rcases hadv.pnew id b n b e hb.1 with h|h
      ·exact h
      ·exact absurd (fun _ _ _ e=>by cases e) h
     have hcap:cap≠0:=by omega
     have:=hao hcap;subst this;have he2:=OI (m:=m) (fun o=>ZY hnew o) h3 he;have hlen:(es.take len).length=len:=by simp;omega
     have hne:es.take len≠[]:=fun h=>by rw[h]at hlen;simp at hlen;omega
     have he3:=vU len he2;have:=IRep.isl (cap:=cap) hne he3 (by omega);rw[hlen]at this;simpa using this
  ·cases h
 ·cases h
theorem O4 (hi:Inv w' m' φ' (aR stl)) (hadv:Adv w (dD w) (fun _=>none) w' m' φ'):∀ {cs:List AV} {xs:List Value} {l:List IV},RepC m' φ' cs xs→AWK stl cs=some l→ICells (WH w m m') l xs
 | [],_,l, .nil,h=>by simp[AWK]at h;subst h;exact .nil
 | c::cs,_,l, .cons a o b,h=>by
  simp only[AWK]at h;obtain⟨v,h1,h2⟩:=aH.1 h;obtain⟨l',h3,h4⟩:=aH.1 h2;injection h4 with h4;subst h4;exact .cons (UK hi hadv a h1) o (O4 hi hadv b h3)
theorem UL (hi:Inv w' m' φ' (aR stl)) (hadv:Adv w (dD w) (fun _=>none) w' m' φ') {c:AV} {x:Value} {iv:IV} (hr:Rep m' φ' c x) (h:kvA stl c=some iv):IRep (WH w m m') iv x:=by
 unfold kvA at h;split at h
 ·obtain⟨l,h1,h2⟩:=aH.1 h;injection h2 with h2;subst h2
  cases hr with|agg r=>exact .agg (O4 hi hadv r h1)
 ·exact UK hi hadv hr h
theorem O5 {φ:Pl} (hi:Inv w' m' φ' (aR stl)) (hadv:Adv w (dD w) (fun _=>none) w' m' φ'):∀ {cs us:List AV} {xs:List Value},RepL m' φ' cs xs→AWL stl cs=some us→RepL (WH w m m') φ us xs
 | [],us,_, .nil,h=>by simp[AWL]at h;subst h;exact .nil
 | c::cs,us,_, .cons a b,h=>by
  simp only[AWL]at h;obtain⟨v,h1,h2⟩:=aH.1 h;obtain⟨l',h3,h4⟩:=aH.1 h2;injection h4 with h4;subst h4;exact .cons (.i (UL hi hadv a h1)) (O5 hi hadv b h3)
theorem AHI {φ:Pl} (hi:Inv w' m' φ' (aR stl)) (hadv:Adv w (dD w) (fun _=>none) w' m' φ') {c r:AV} {x:Value} (hr:Rep m' φ' c x) (h:kvT stl c=some r):Rep (WH w m m') φ r x:=by
 unfold kvT at h;split at h
 ·obtain⟨l,h1,h2⟩:=aH.1 h;injection h2 with h2;subst h2
  cases hr with|tup r=>exact .tup (O5 hi hadv r h1)
 ·obtain⟨l,h1,h2⟩:=aH.1 h;injection h2 with h2;subst h2;exact .i (UL hi hadv hr h1)
end
def ARA (f:List AV→StL→Option (AV×StL)) (args:List AV) (st:StL):Option (AV×StL) :=
 bnd (SF (aR st) args) fun us=>match f us []with
  | some (r,stl)=>bnd (kvT stl r) fun v=>some (v,st)
  | none=>none
theorem KS {C:Ctx} {g:FuncId} {f:List AV→StL→Option (AV×StL)} (hf:∀ args stl r stl',f args stl=some (r,stl')→(∃ fn,C.P.funcs[g]?=some fn∧fn.name≠ "runtime.NumGoroutine"∧fn.body.isSome=true)∧∀ (w:World) (m:Mem) (φ:Pl) (vs:List Value),Inv w m φ (aR stl)→RepL m φ args vs→(∀ id,φ id≠none→id<stl.length)→Calls C.P g vs.toArray w (bF w m φ r stl'))
 {args:List AV} {stl stl':StL} {r:AV} (h:ARA f args stl=some (r,stl')) :
 (∃ fn,C.P.funcs[g]?=some fn∧fn.name≠ "runtime.NumGoroutine"∧fn.body.isSome=true)∧∀ (w:World) (m:Mem) (φ:Pl) (vs:List Value),Inv w m φ (aR stl)→RepL m φ args vs→(∀ id,φ id≠none→id<stl.length) →
  Calls C.P g vs.toArray w (bF w m φ r stl'):=by
 unfold ARA at h;obtain⟨us,h1,h2⟩:=aH.1 h;split at h2
 ·rename_i r0 stl0 h3;obtain⟨v0,h4,h5⟩:=aH.1 h2;injection h5 with h5;injection h5 with h5 h6;subst h5;subst h6;obtain⟨q1,q2⟩:=hf _ _ _ _ h3;refine⟨q1,fun w m φ vs hi hr h0=>?_⟩;refine(q2 w (dD w) (fun _=>none) vs (inv0 w) (FZ hi hr h1) (fun id h=>absurd rfl h)).mono ?_;rintro e w' ⟨v,m',φ',rfl,j1,j2,j3,j4⟩;have hlt:∀ b o u,m b o=some u→b<w.heap.size:=fun b o u e=>hi.mem.lt e
  have hsame:∀ f,f<w.heap.size→w'.heap[f]?=w.heap[f]?:=fun f hf=>j3.block f hf fun id b n e=>by cases e
  have hle:MLe m (WH w m m'):=fun b o u e=>by rw[Q4 (hlt b o u e)];exact e
  have hmem:kF w' (WH w m m'):=fun b o u e=>by
   by_cases hb:b<w.heap.size
   ·rw[Q4 hb]at e;rw[cell_of_heap (hsame b hb)];exact hi.mem b o u e
   ·rw[ZY (by omega)]at e;exact j2.mem b o u e
  have ha:Adv w m (fun _=>none) w' (WH w m m') (fun _=>none):=⟨j3.size,j3.os,j3.tape,j3.output,fun b hb _=>hsame b hb,hle,fun b hb _ o=>Q4 hb o, .refl _,fun _ _ _ _ e=>by cases e⟩
  obtain⟨i2,a2⟩:=hi.AS5 ha hmem;exact⟨v,_,φ,rfl,AHI j2 j3 j1 h4,i2,a2,h0⟩
 ·cases h2
noncomputable def ADT (C:Ctx) (g:FuncId) (args:List AV) (st:StL):Option (AV×StL) :=
 match C.P.funcs[g]? with
 | none=>none
 | some fn =>
  match fn.body with
  | none=>none
  | some c=>ADE { C with tree:=true } true fn.results.toList st.length (dR C (C.G g) st.length c (enter (C.G g) args st))
theorem AMZ {C:Ctx} {f:FuncId} {fn:Func} {c:Code} {rs:List ResultVar} (hf:C.P.funcs[f]?=some fn) (hb:fn.body=some c) (hr:fn.results.toList=rs) (args:List AV) (st:StL) :
 ADT C f args st=ADE { C with tree:=true } true rs st.length (dR C (C.G f) st.length c (enter (C.G f) args st)):=by
 subst hr;unfold ADT;rw[hf];simp only[hb]
theorem BI {C:Ctx} (hS:SoundOk C) {g:FuncId} {args:List AV} {stl stl':StL} {r:AV} (h:ADT C g args stl=some (r,stl')) :
 (∃ fn,C.P.funcs[g]?=some fn∧fn.name≠ "runtime.NumGoroutine"∧fn.body.isSome=true)∧∀ (w:World) (m:Mem) (φ:Pl) (vs:List Value),Inv w m φ (aR stl)→RepL m φ args vs→(∀ id,φ id≠none→id<stl.length) →
  Calls C.P g vs.toArray w (bF w m φ r stl'):=by
 unfold ADT at h;split at h
 ·cases h
 rename_i fn hf;split at h
 ·cases h
 rename_i c hb;have hst:=(hS.fns g fn c hf hb).2;refine⟨⟨fn,hf,(hS.fns g fn c hf hb).1,by rw[hb];rfl⟩,fun w m φ vs hi hargs hid=>?_⟩;have ih:=aS hS
 have hrel:J5 [] w m φ fn.ntmps stl.length (enter (C.G g) args stl) { tmps:=vs.toArray++Array.replicate (fn.ntmps-vs.toArray.size) undef,defers:=[] } w:=by
  refine⟨⟨⟨m,φ,hi,?_, .refl _ _ _,hid, .nil _ _ _⟩,by simp;omega,rfl⟩,zP _⟩;intro t;unfold enter;simp only;generalize C.G g=G
  induction G with
  | nil=>exact .junk _
  | cons u G ihG =>
   simp only[M4,aN];by_cases e:t=u
   ·subst e;simp only[if_true];exact kR _ hargs t
   ·simp only[e,if_false];exact ihG
 refine callsIn_wide.1 (callsIn_of_wp_marks (n:=0) hf hb trivial ?_)
 have done:∀ S e,dR C (C.G g) stl.length c (enter (C.G g) args stl)=some (e,S)→finish { C with tree:=true } true fn.results.toList stl.length S=some (r,stl')→(e=.normal∨e=.ret) →
  c.wpIn Fence.wide 0 C.P (bodyPostM Fence.wide 0 C.P fn (bF w m φ r stl')) { tmps:=vs.toArray++Array.replicate (fn.ntmps-vs.toArray.size) undef,defers:=[] } w:=by
  intro S e hS' hfin he;obtain⟨n,hS'⟩:=(d9 _).1 hS';refine wpIn_mono (bY (ρ:=none) hS.ctx ih (hS.draw _ ih) hid n c _ S e [] _ w hst (.inl rfl) hS' hrel) ?_;rintro e' a' w' ⟨rfl,ds,k,_⟩
  have hl:LeavesInM Fence.wide 0 C.P fn a'.tmps (bF w m φ r stl') a'.defers .returning w':=by
   rw[k.1.defers];refine rZ k fun a2 w2 _ k2=>?_
   obtain⟨v,k3,k4⟩:=eU (C:={ C with tree:=true }) hid k2 hfin;exact⟨v,k3,k4⟩
  rcases he with rfl|rfl
  ·exact hl
  ·exact hl
 unfold ADE at h;split at h
 ·rename_i S hS';exact done S .normal hS' h (.inl rfl)
 ·rename_i S hS';exact done S .ret hS' h (.inr rfl)
 ·cases h
 ·cases h
end Go.Av
namespace Go.Proofs.YtjdfjgmebalaaaaGreat.P
open Go Go.Av
set_option maxRecDepth 4000
set_option maxHeartbeats 4000000
theorem YN {p:Pn} {ws:List Int} {r:Int} {path:List Int} (h:p.width ws=0∨apI ws r path p=none):ADT C0 26 [.i (.agg p.cells), .i (.isl (aD ws)), .i (.agg [.int r, .isl (aD path)])] []=some (.tup [rqA Pn.zero 0, .bool false],[]):=by
 have c1:=jU p ws;have c2:=AA9 p path;rw[AMZ Tryz.func26 rfl rfl];by_cases h0:p.width ws=0
 ·rw[Pn.aA p]at c1 ⊢;simp[c1,h0,Pn.zero,Pn.cells,Ex.aB,aD,Pn.aB,rqA]
 ·obtain⟨hw,hp8,hv⟩:=nO h0;have hn:=h.resolve_left h0;unfold apI at hn
  cases ha:atI path p with
  | none =>
   rw[ha]at c2;rw[Pn.aA p]at c1 c2 ⊢;simp[atV]at c2;simp[c1,h0,c2,Pn.zero,Pn.cells,Ex.aB,aD,Pn.aB,rqA]
  | some a =>
   rw[ha]at c2;unfold atI at ha;split at ha
   ·rename_i hl;rw[if_pos hl,ha]at hn;simp only[yP]at hn;obtain⟨-,hav⟩:=FL path p 8 a hp8 ha;have ha8:a.wd ws 8≠0:=by rw[Pn.gD a _ 8 hav (by omega)];exact hav
    have c3:=lX hw ha8 r (lv:=8-path.length) (by omega)
    have hr:rwL ws r (8-path.length) a=none:=by
     cases hq:rwL ws r (8-path.length) a with
     | none=>rfl
     | some q=>rw[hq]at hn;cases hn
    rw[hr]at c3;have w1:IntKind.i64.wrap (8-(path.length:Int))=((8-path.length:Nat):Int):=by rw[wrO];omega
    simp only[atV]at c2;rw[Pn.aA p]at c1 c2 ⊢;rw[Pn.aA a]at c2 c3;simp[IY,Pn.zero,Pn.cells,Ex.aB,aD,Pn.aB]at c3;simp[c1,h0,c2,w1,c3,Pn.zero,Pn.cells,Ex.aB,aD,Pn.aB,rqA]
   ·cases ha
theorem QW {args:List AV} {st st':StL} {r:AV} (h:uX args st=some (r,st')):∀ (w:World) (m:Mem) (φ:Pl) (vs:List Value),Inv w m φ (aR st)→RepL m φ args vs→(∀ id,φ id≠none→id<st.length)→Calls Tryz.prog 26 vs.toArray w (bF w m φ r st'):=by
 intro w m φ vs hi hr h0;obtain⟨p,ws,k,path,rfl,rfl,hq⟩:=VO h
 cases ho:apO p ws k path with
 | none =>
  rw[ho]at hq;injection hq with h1 h2;subst h1;subst h2
  have hn:p.width ws=0∨apI ws k path p=none:=by
   unfold apO at ho;by_cases hw:p.width ws=0
   ·exact .inl hw
   ·rw[if_neg hw]at ho;exact .inr ho
  exact(BI bH (YN hn)).2 w m φ vs hi hr h0
 | some q =>
  rw[ho]at hq;injection hq with h1 h2;subst h1;subst h2;unfold apO at ho;by_cases hw:p.width ws=0
  ·rw[if_pos hw]at ho;cases ho
  ·rw[if_neg hw]at ho
   obtain rfl:φ=fun _=>none:=by
    funext id
    cases h:φ id with
    | none=>rfl
    | some p=>exact absurd (h0 id (by rw[h];simp)) (xW _)
   exact YM hw ho hi hr
noncomputable def AQX:FuncId→Option (List AV→StL→Option (AV×StL))
 | 26=>some uX
 | _=>none
noncomputable def C5:Ctx:={ P:=Tryz.prog,G:=GS,ownArgs:=dC,keepRes:=keepR,eqT:=wS,prim:=AQX,tree:=true }
theorem ALF:PrimOk C5:=by
 have key:∀ g q,C5.prim g=some q→g=26∧q=uX:=by
  intro g q h;have h:AQX g=some q:=h;unfold AQX at h;split at h
  ·injection h with h;exact⟨rfl,h.symm⟩
  ·cases h
 constructor
 ·intro g args st p h;unfold bE at h
  cases hq:C5.prim g with
  | none=>rw[hq]at h;cases h
  | some q =>
   obtain⟨rfl,rfl⟩:=key g q hq;exact⟨Tryz.f26,Tryz.func26,by decide,rfl⟩
 ·intro g args st r st' h w m φ vs hi hr hb;unfold bE at h
  cases hq:C5.prim g with
  | none=>rw[hq]at h;cases h
  | some q =>
   obtain⟨rfl,rfl⟩:=key g q hq;rw[hq]at h;exact QW h w m φ vs hi hr hb
theorem AFN:SoundOk C5:=gF (C:=C5) ft nt eqS mo ALF
theorem AAW (p:Pn) (ws:List Int) (r:Int) (path:List Int):aI C5 26 [.i (.agg p.cells), .i (.isl (aD ws)), .i (.agg [.int r, .isl (aD path)])] []=some (AZ5 (apO p ws r path)):=by
 rw[aU (C:=C5) (p:=uX) rfl];exact AE7 p ws r path
end Go.Proofs.YtjdfjgmebalaaaaGreat.P
namespace Go.Av
def AbQ (k:Nat) (es:List (List IV)):Nat→StL
 | 0=>[]
 | _+1=>[some (.tre k es)]
@[simp] theorem AbP (k:Nat) (es:List (List IV)):AbQ k es 0=[]:=(rfl)
@[simp] theorem AbO (k i:Nat) (es:List (List IV)):AbQ k es (i+1)=[some (.tre k es)]:=(rfl)
theorem TB (l:List Ex):(Ex.aB l).take l.length=Ex.aB l:=zZ (by simp)
theorem TA (l:List Int):(aD l).take l.length=aD l:=zZ (by simp)
theorem T9 (l:List Pn):(Pn.aB l).take l.length=Pn.aB l:=zZ (by simp)
end Go.Av
namespace Go.Av
open Go.Av.Mk
theorem sS (l:List Int):fO (aD l)=true:=by
 rw[o9]
 induction l with
 | nil=>rfl
 | cons n l ih=>simp only[yS,fO,ih,zD7];rfl
def rqL (q:Pn) (j:Nat):List AV :=
 [.int q.kind, .int q.table,if q.exprs=[]then .nils else .osl j 5 0 q.exprs.length,if q.cols=[]then .nils else .osl (if q.exprs=[]then j else j+1) 1 0 q.cols.length,if q.kids=[]then .nils else .osl (if q.exprs=[]then(if q.cols=[]then j else j+1)else(if q.cols=[]then j+1 else j+2)) 5 0 q.kids.length]
theorem AKD (q:Pn):l7 (aR (rqB q)) (rqA q 0)=some (.agg q.cells):=by
 rw[Pn.aA];have b1:=TB q.exprs;have b2:=TA q.cols;have b3:=T9 q.kids;have b4:=sS q.cols
 by_cases q1:q.exprs=[]<;>by_cases q2:q.cols=[]<;>by_cases q3:q.kids=[] <;>
  simp[rqA,rqB,q1,q2,q3,l7,kY,tY,aR,vX,bnd,tst,b4,Ex.aB,Pn.aB,aD]<;>simp_all [aD]
theorem AWE (q:Pn):mfR (rqA q 0)=true:=by
 by_cases q1:q.exprs=[]<;>by_cases q2:q.cols=[]<;>by_cases q3:q.kids=[] <;>
  simp[rqA,q1,q2,q3,mfR,ALV,mfC,jI]
theorem AH2 (q:Pn):WG (rqB q)=true:=by
 have b4:=sS q.cols
 by_cases q1:q.exprs=[]<;>by_cases q2:q.cols=[]<;>by_cases q3:q.kids=[] <;>
  simp[rqB,q1,q2,q3,WG,mfB,b4]
theorem AOF (q:Pn) (n:Nat):ren (fun j=>some (j+n)) (rqA q 0)=rqA q n:=by
 by_cases q1:q.exprs=[]<;>by_cases q2:q.cols=[]<;>by_cases q3:q.kids=[] <;>
  simp[rqA,q1,q2,q3,ren,A7,ATC,zC8]
theorem ZA (q:Pn) (n:Nat):fP n (rqB q)=rqB q:=by
 by_cases q1:q.exprs=[]<;>by_cases q2:q.cols=[]<;>by_cases q3:q.kids=[] <;>
  simp[rqB,q1,q2,q3,fP,CL]
def Shp (q:Pn):Prop:=(q.exprs=[]∧q.cols=[]∧q.kids=[])∨(q.exprs≠[]∧q.cols=[]∧q.kids≠[])∨(q.exprs=[]∧q.cols=[]∧q.kids≠[])∨(q.exprs=[]∧q.cols≠[]∧q.kids≠[])
theorem RU {ws:List Int} {lv:Nat} {p:Pn} (h:p.wd ws lv≠0):Shp p:=by
 cases rC h with
 | scan t W h0 h1 hW=>exact .inl ⟨rfl,rfl,rfl⟩
 | filt m e a h1 ha he=>exact .inr (.inl ⟨by simp[filt],rfl,by simp[filt]⟩)
 | proj m es a h1 ha hl he =>
  refine .inr (.inl ⟨fun e=>?_,rfl,by simp[proj]⟩);have:es=[]:=e;subst this;simp[bQ]at hl
 | pair m k e a b h1 hk ha hb hl he=>exact .inr (.inl ⟨by simp[bB],rfl,by simp[bB]⟩)
 | union m a b h1 ha hb=>exact .inr (.inr (.inl ⟨rfl,rfl,by simp[dF]⟩))
 | dist m a h1 ha=>exact .inr (.inr (.inl ⟨rfl,rfl,by simp⟩))
 | group m cs a h1 ha hc ho =>
  by_cases hcs:cs=[]
  ·exact .inr (.inr (.inl ⟨rfl,hcs,by simp⟩))
  ·exact .inr (.inr (.inr ⟨rfl,hcs,by simp⟩))
end Go.Av
namespace Go.Av
noncomputable def M8:List AV→StL→Option (AV×StL)
 | [.i (.iref cs)],[]=>@dite _ (∃ p:Pn,p.small∧p.cells=cs) (Classical.propDecidable _) (fun h=>some (rqA h.choose 0,rqB h.choose)) fun _=>none
 | _,_=>none
theorem AIA {p:Pn} (h:p.small):M8 [.i (.iref p.cells)] []=some (rqA p 0,rqB p):=by
 have hh:∃ x:Pn,x.small∧x.cells=p.cells:=⟨p,h,rfl⟩
 unfold M8;simp only;rw[dif_pos hh,Pn.M9 _ _ hh.choose_spec.2]
theorem YA {args:List AV} {st:StL} {r:AV×StL} (h:M8 args st=some r):∃ p:Pn,p.small∧args=[.i (.iref p.cells)]∧st=[]∧r=(rqA p 0,rqB p):=by
 unfold M8 at h;split at h
 ·rename_i cs;by_cases hc:∃ p:Pn,p.small∧p.cells=cs
  ·rw[dif_pos hc]at h;injection h with h;exact⟨hc.choose,hc.choose_spec.1,by rw[hc.choose_spec.2],rfl,h.symm⟩
  ·rw[dif_neg hc]at h;cases h
 ·cases h
end Go.Av
namespace Go.Proofs.YtjdfjgmebalaaaaGreat.P
open Go Go.Av
set_option maxRecDepth 4000
set_option maxHeartbeats 4000000
noncomputable def AQY:FuncId→Option (List AV→StL→Option (AV×StL))
 | 59=>some M8
 | _=>none
noncomputable def C4:Ctx:={ P:=Tryz.prog,G:=GS,ownArgs:=dC,keepRes:=keepR,eqT:=wS,prim:=AQY,tree:=true }
theorem ALG:PrimOk C4:=by
 have key:∀ g q,C4.prim g=some q→g=59∧q=M8:=by
  intro g q h;have h:AQY g=some q:=h;unfold AQY at h;split at h
  ·injection h with h;exact⟨rfl,h.symm⟩
  ·cases h
 constructor
 ·intro g args st p h;unfold bE at h
  cases hq:C4.prim g with
  | none=>rw[hq]at h;cases h
  | some q =>
   obtain⟨rfl,rfl⟩:=key g q hq;exact⟨Tryz.f59,Tryz.func59,by decide,rfl⟩
 ·intro g args stl r stl' h w m φ vs hi hr h0;unfold bE at h
  cases hq:C4.prim g with
  | none=>rw[hq]at h;cases h
  | some q =>
   obtain⟨rfl,rfl⟩:=key g q hq;rw[hq]at h;obtain⟨p,⟨k1,k2,k3⟩,rfl,rfl,hres⟩:=YA h;injection hres with h1 h2;subst h1;subst h2
   obtain rfl:φ=fun _=>none:=by
    funext id
    cases h:φ id with
    | none=>rfl
    | some p=>exact absurd (h0 id (by rw[h];simp)) (xW _)
   exact(G.iQ k1 k2 k3 hi hr).mono fun _ _ h=>h.own
theorem AOE:SoundOk C4:=gF (C:=C4) ft nt eqS mo ALG
theorem AIL {p:Pn} (h:p.small):aI C4 59 [.i (.iref p.cells)] []=some (rqA p 0,rqB p):=by
 rw[aU (C:=C4) (p:=M8) rfl];exact AIA h
end Go.Proofs.YtjdfjgmebalaaaaGreat.P
namespace Go.Proofs.YtjdfjgmebalaaaaGreat
open Go Go.Av
set_option maxRecDepth 4000
noncomputable def AGD:FuncId→Option (List AV→StL→Option (AV×StL))
 | 1000000007=>none
 | 182=>none
 | 159=>none
 | 104=>some (ALZ (aI C0) 104)
 | 62=>some (AS8 (aI C0) 62)
 | g=>some (aI C0 g)
def AJQ:FuncId→Bool
 | 104=>true
 | g=>dC g
@[simp] theorem AZU (g:FuncId):AJQ g=if g=104 then true else dC g:=by
  unfold AJQ;split
  ·rfl
  ·rename_i h;rw[if_neg h]
noncomputable def CP:Ctx:={ P:=Tryz.prog,G:=GS,ownArgs:=AJQ,keepRes:=keepR,eqT:=wS,prim:=AGD }
@[simp] theorem ApY:CP.P=Tryz.prog:=(rfl)
@[simp] theorem ApZ (f):CP.G f=GS f:=(rfl)
@[simp] theorem ApV (f):CP.ownArgs f=AJQ f:=(rfl)
@[simp] theorem ApW (f):CP.keepRes f=keepR f:=(rfl)
@[simp] theorem ApX (f):CP.eqT f=wS f:=(rfl)
@[simp] theorem ApU:CP.tree=false:=(rfl)
theorem U1:PrimOk CP:=by
 have h0:=aS bH
 have key:∀ g q,CP.prim g=some q→g≠lU∧(q=aI C0 g∨q=ALZ (aI C0) g∨q=AaG (aI C0) g∨q=AS8 (aI C0) g):=by
  intro g q h;have h:AGD g=some q:=h;unfold AGD at h;split at h
  all_goals first
   | (cases h;done)
   | (injection h with h;subst h;exact⟨by decide, .inr (.inl rfl)⟩)
   | (injection h with h;subst h;exact⟨by decide, .inr (.inr (.inl rfl))⟩)
   | (injection h with h;subst h;exact⟨by decide, .inr (.inr (.inr rfl))⟩)
   | (injection h with h;subst h;exact⟨by assumption, .inl rfl⟩)
 constructor
 ·intro g args st p h;unfold bE at h
  cases hq:CP.prim g with
  | none=>rw[hq]at h;cases h
  | some q =>
   rw[hq]at h;obtain⟨hy,hor⟩:=key g q hq
   rcases hor with rfl|rfl|rfl|rfl
   ·exact h0.name _ _ _ _ hy h
   ·exact(O0 h0 (r:=p.1) (stl':=p.2) h hy).1
   ·exact(OC h0 (r:=p.1) (stl':=p.2) h hy).1
   ·exact(OB h0 (r:=p.1) (stl':=p.2) h hy).1
 ·intro g args st r st' h w m φ vs hi hr hb;unfold bE at h
  cases hq:CP.prim g with
  | none=>rw[hq]at h;cases h
  | some q =>
   rw[hq]at h;obtain⟨hy,hor⟩:=key g q hq
   rcases hor with rfl|rfl|rfl|rfl
   ·exact h0.calls _ _ _ _ _ hy h w m φ vs hi hr hb
   ·exact(O0 h0 h hy).2 w m φ vs hi hr hb
   ·exact(OC h0 h hy).2 w m φ vs hi hr hb
   ·exact(OB h0 h hy).2 w m φ vs hi hr hb
theorem AV7:SoundOk CP:=gF (C:=CP) ft nt eqS mo U1
end Go.Proofs.YtjdfjgmebalaaaaGreat
namespace Go.Av
end Go.Av
namespace Go.Proofs.YtjdfjgmebalaaaaGreat.P
open Go Go.Av
set_option maxRecDepth 4000
set_option maxHeartbeats 4000000
theorem Y8 (p:Pn) (hp:p.thin):aI CP 62 [.i (.agg p.cells)] []=some (.i (.agg p.cells),[]):=by
 have h:=BA p hp;rw[aU (p:=AS8 (aI C0) 62) rfl];unfold AS8;by_cases he:p.exprs=[]
 ·by_cases hk:p.kids=[]
  ·simp[pcX,pcS,hk,he,Pn.aB,Ex.aB]at h;simp[h];rw[Pn.aA];simp[hk,he,Pn.aB,Ex.aB]
  ·have hkl:p.kids.length≠0:=fun h=>hk (zW.1 h)
   simp[pcX,pcS,hk,he,aQ hkl,aJ hkl,Ex.aB]at h;simp[h];rw[Pn.aA];simp[hk,he,Ex.aB]
 ·have hel:p.exprs.length≠0:=fun h=>he (zW.1 h)
  by_cases hk:p.kids=[]
  ·simp[pcX,pcS,hk,he,aQ hel,aJ hel,Pn.aB]at h;simp[h];rw[Pn.aA];simp[hk,he,Pn.aB]
  ·have hkl:p.kids.length≠0:=fun h=>hk (zW.1 h)
   simp[pcX,pcS,hk,he,aQ hel,aJ hel,aQ hkl,aJ hkl]at h;simp[h];rw[Pn.aA]
@[simp] theorem iR:∀ l:List Int,fO (aD l)=true
  | []=>by simp[aD,fO]
  | x::l=>by simp[aD,fO,mG,jI,iR l]
noncomputable def AGC:FuncId→Option (List AV→StL→Option (AV×StL))
 | 182=>some (aI CP 182)
 | 167=>some (AIP C0 true 167)
 | g=>AGD g
noncomputable def CQ:Ctx:={ P:=Tryz.prog,G:=GS,ownArgs:=AJQ,keepRes:=keepR,eqT:=wS,prim:=AGC }
@[simp] theorem ApS:CQ.P=Tryz.prog:=(rfl)
@[simp] theorem ApT (f):CQ.G f=GS f:=(rfl)
@[simp] theorem ApP (f):CQ.ownArgs f=AJQ f:=(rfl)
@[simp] theorem ApQ (f):CQ.keepRes f=keepR f:=(rfl)
@[simp] theorem ApR (f):CQ.eqT f=wS f:=(rfl)
@[simp] theorem ApO:CQ.tree=false:=(rfl)
theorem AVY:PrimOk CQ:=by
 have hP:=aS AV7;constructor
 ·intro g args st p h;unfold bE at h
  cases hq:CQ.prim g with
  | none=>rw[hq]at h;cases h
  | some q =>
   rw[hq]at h;have hq:AGC g=some q:=hq;unfold AGC at hq;split at hq
   ·injection hq with hq;subst hq;exact hP.name _ _ _ _ (by decide) h
   ·injection hq with hq;subst hq;exact(lM bH (r:=p.1) (stl':=p.2) h).1
   ·exact U1.name g args st p (by unfold bE;rw[show CP.prim g=some q from hq];exact h)
 ·intro g args st r st' h w m φ vs hi hr hb;unfold bE at h
  cases hq:CQ.prim g with
  | none=>rw[hq]at h;cases h
  | some q =>
   rw[hq]at h;have hq:AGC g=some q:=hq;unfold AGC at hq;split at hq
   ·injection hq with hq;subst hq;exact hP.calls _ _ _ _ _ (by decide) h w m φ vs hi hr hb
   ·injection hq with hq;subst hq;exact(lM bH h).2 w m φ vs hi hr hb
   ·exact U1.calls g args st r st' (by unfold bE;rw[show CP.prim g=some q from hq];exact h) w m φ vs hi hr hb
theorem AOD:SoundOk CQ:=gF (C:=CQ) ft nt eqS mo AVY
noncomputable def ACI:FuncId→Option (List AV→StL→Option (AV×StL))
 | 1000000007=>none
 | 89=>none
 | 126=>none
 | 159=>none
 | 182=>some (AIP CQ true 182)
 | 167=>some (AIP C0 true 167)
 | 104=>some (AR9 (aI C0) 104)
 | g=>AGD g
def ARF (g:FuncId):Bool:=keepR g || decide (g=159)
noncomputable def CR:Ctx:={ P:=Tryz.prog,G:=GS,ownArgs:=AJQ,keepRes:=ARF,eqT:=wS,prim:=ACI }
@[simp] theorem ApM:CR.P=Tryz.prog:=(rfl)
@[simp] theorem ApN (f):CR.G f=GS f:=(rfl)
@[simp] theorem ApJ (f):CR.ownArgs f=AJQ f:=(rfl)
@[simp] theorem ApK (f):CR.keepRes f=(keepR f || decide (f=159)):=(rfl)
@[simp] theorem ApL (f):CR.eqT f=wS f:=(rfl)
@[simp] theorem ApI:CR.tree=false:=(rfl)
theorem AGB:PrimOk CR:=by
 constructor
 ·intro g args st p h;unfold bE at h
  cases hq:CR.prim g with
  | none=>rw[hq]at h;cases h
  | some q =>
   rw[hq]at h;have hq:ACI g=some q:=hq;unfold ACI at hq;split at hq
   all_goals first
    | (cases hq;done)
    | (injection hq with hq;subst hq;exact(lM AOD (r:=p.1) (stl':=p.2) h).1)
    | (injection hq with hq;subst hq;exact(lM bH (r:=p.1) (stl':=p.2) h).1)
    | (injection hq with hq;subst hq;exact(KR (aS bH) (r:=p.1) (stl':=p.2) h (by decide)).1)
    | exact U1.name g args st p (by unfold bE;rw[show CP.prim g=some q from hq];exact h)
 ·intro g args st r st' h w m φ vs hi hr hb;unfold bE at h
  cases hq:CR.prim g with
  | none=>rw[hq]at h;cases h
  | some q =>
   rw[hq]at h;have hq:ACI g=some q:=hq;unfold ACI at hq;split at hq
   all_goals first
    | (cases hq;done)
    | (injection hq with hq;subst hq;exact(lM AOD h).2 w m φ vs hi hr hb)
    | (injection hq with hq;subst hq;exact(lM bH h).2 w m φ vs hi hr hb)
    | (injection hq with hq;subst hq;exact(KR (aS bH) h (by decide)).2 w m φ vs hi hr hb)
    | exact U1.calls g args st r st' (by unfold bE;rw[show CP.prim g=some q from hq];exact h) w m φ vs hi hr hb
theorem AOC:SoundOk CR:=gF (C:=CR) ft nt eqS mo AGB
end Go.Proofs.YtjdfjgmebalaaaaGreat.P
namespace Go.Av
def Val.cmp (a b:Val):Int:=if a.null=true then(if b.null=true then 0 else -1)else if b.null=true then 1 else if a.n<b.n then -1 else if b.n<a.n then 1 else 0
def ZF:List Val→List Val→Int
 | [],[]=>0
 | [],_::_=>-1
 | _::_,[]=>1
 | a::l,b::m=>if Val.cmp a b=0 then ZF l m else Val.cmp a b
def AQG (a b:List Val):Bool:=decide (ZF a b≤0)
def AhJ (l:List (List Val)) (r:List Val):List (List Val):=l.takeWhile (fun x=>AQG x r)++r::l.dropWhile (fun x=>AQG x r)
def AZ9 (l:List (List Val)):List (List Val):=l.foldl AhJ []
def AZJ (l:List (List Val)):List (List IV):=l.map fun r=>[.isl (vY r)]
structure Tbl where
 w:Int
 rows:List (List Val)
def Tbl.cells (t:Tbl):List IV:=[.int t.w, .isl (AZJ t.rows)]
def tab (w:Int) (rows:List (List Val)):Tbl:=if 400<rows.length then⟨w,[]⟩else⟨w,AZ9 rows⟩
def chainB:List (List Val)→Bool
 | a::b::l=>AQG a b && chainB (b::l)
 | _=>true
def rowOk (w:Int) (r:List Val):Bool:=decide ((r.length:Int)=w) && r.all Val.ok
def Tbl.ok (t:Tbl):Bool:=bQ t.w && (decide (t.rows.length≤400) && (t.rows.all (rowOk t.w) && chainB t.rows))
def isT (e:Ex) (r:List Val):Bool:=decide ((e.ev r).tr=2)
def AWB (n:Int):List Val:=List.replicate n.toNat ⟨true,0⟩
def AWT (e:Ex) (rs:List (List Val)) (r:List Val):List (List Val):=(rs.map (r ++ ·)).filter (isT e)
def joinL (e:Ex) (outer:Bool) (w:Int) (rs:List (List Val)) (r:List Val):List (List Val) :=
 if(outer && (AWT e rs r).isEmpty)=true then [r++AWB w]else AWT e rs r
def AWS (e:Ex) (outer:Bool) (a b:Tbl):List (List Val):=a.rows.flatMap (joinL e outer b.w b.rows)
def dd:List Val→List (List Val)→List (List Val)
 | _,[]=>[]
 | p,a::l=>if ZF p a=0 then dd a l else a::dd a l
def AX8:List (List Val)→List (List Val)
 | []=>[]
 | a::l=>a::dd a l
def AZS (cs:List Int) (r:List Val):List Val:=cs.map fun c=>(r[c.toNat]?).getD Val.zero
def bump (key:List Val):List (List Val×Nat)→List (List Val×Nat)
 | []=>[(key,1)]
 | g::l=>if ZF g.1 key=0 then(g.1,g.2+1)::l else g::bump key l
def groups (cs:List Int) (rows:List (List Val)):List (List Val×Nat):=rows.foldl (fun acc r=>bump (AZS cs r) acc) []
def AWA (g:List Val×Nat):List Val:=g.1++[⟨false,(g.2:Int)⟩]
def V3 (cs:List Int) (rows:List (List Val)):List (List Val):=(groups cs rows).map AWA
def APT:Tbl:=⟨0,[]⟩
def exO (es:List Ex):Ex:=(es[0]?).getD (.mk 0 0 Val.zero [])
def evK (db:List Tbl) (k t:Int) (es:List Ex) (cs:List Int) (a b:Tbl):Tbl :=
 if k=1 then tab ((db[t.toNat]?).getD APT).w ((db[t.toNat]?).getD APT).rows
 else if k=2 then tab a.w (a.rows.filter (isT (exO es)))
 else if k=3 then tab es.length (a.rows.map fun r=>es.map (Ex.ev r))
 else if k=4∨k=5 then tab (a.w+b.w) (AWS (exO es) (decide (k=5)) a b)
 else if k=6 then tab a.w (a.rows++b.rows)
 else if k=7 then tab a.w (AX8 a.rows)
 else tab ((cs.length:Int)+1) (V3 cs a.rows)
mutual
def Pn.evP (db:List Tbl):Pn→Tbl
 | .mk k t es cs ks=>evK db k t es cs (((Pn.AaV db ks)[0]?).getD APT) (((Pn.AaV db ks)[1]?).getD APT)
def Pn.AaV (db:List Tbl):List Pn→List Tbl
 | []=>[]
 | p::ps=>Pn.evP db p::Pn.AaV db ps
end
section
variable {rows:List (List Val)} {w:Int} (hr:∀ r∈rows,rowOk w r=true) (hw:bQ w=true)
include hr hw
end
def rbK (cnt:List Int) (k t:Int) (cs:List Int) (a b:Int):Int :=
 if k=1 then(cnt[t.toNat]?).getD 0 else min (if k=4 then a*b else if k=5 then a*max 1 b else if k=6 then a+b else if k=8∧cs=[]then min a 1 else a) 1000000000
mutual
def Pn.rb (cnt:List Int):Pn→Int
 | .mk k t es cs ks=>rbK cnt k t cs (((Pn.rbL cnt ks)[0]?).getD 0) (((Pn.rbL cnt ks)[1]?).getD 0)
def Pn.rbL (cnt:List Int):List Pn→List Int
 | []=>[]
 | p::ps=>Pn.rb cnt p::Pn.rbL cnt ps
end
def AUS (fl:List Bool):List Int:=fl.map fun b=>if b=true then 7 else 3
def AWD (e:Ex) (fl:List Bool):List Bool:=(List.range fl.length).map fun i=>(fl[i]?).getD false && jZ (KC ((AUS fl).set i 4) e) 2
def nlK (flags:List (List Bool)) (k t:Int) (es:List Ex) (cs:List Int) (a b:List Bool):List Bool :=
 if k=1 then(flags[t.toNat]?).getD []
 else if k=2 then AWD (exO es) a
 else if k=3 then es.map fun e=>jZ (KC (AUS a) e) 4
 else if k=4 then a++b
 else if k=5 then a++b.map fun _=>true
 else if k=6 then List.zipWith (· || ·) a b
 else if k=8 then(cs.map fun c=>(a[c.toNat]?).getD false)++[false]
 else a
mutual
def Pn.nl (flags:List (List Bool)):Pn→List Bool
 | .mk k t es cs ks=>nlK flags k t es cs (((Pn.nlL flags ks)[0]?).getD []) (((Pn.nlL flags ks)[1]?).getD [])
def Pn.nlL (flags:List (List Bool)):List Pn→List (List Bool)
 | []=>[]
 | p::ps=>Pn.nl flags p::Pn.nlL flags ps
end
def AcT (db:List Tbl) (k t:Int) (es:List Ex) (cs:List Int) (a b:Tbl):List (List Val) :=
 if k=1 then((db[t.toNat]?).getD APT).rows
 else if k=2 then a.rows.filter (isT (exO es))
 else if k=3 then a.rows.map fun r=>es.map (Ex.ev r)
 else if k=4∨k=5 then AWS (exO es) (decide (k=5)) a b
 else if k=6 then a.rows++b.rows
 else if k=7 then AX8 a.rows
 else V3 cs a.rows
def Pn.raw (db:List Tbl) (p:Pn):List (List Val):=AcT db p.kind p.table p.exprs p.cols ((p.kids[0]?.map (Pn.evP db)).getD APT) ((p.kids[1]?.map (Pn.evP db)).getD APT)
mutual
def Pn.fit (db:List Tbl):Pn→Bool
 | .mk k t es cs ks=>decide ((Pn.raw db (.mk k t es cs ks)).length≤400) && Pn.AbU db ks
def Pn.AbU (db:List Tbl):List Pn→Bool
 | []=>true
 | p::ps=>Pn.fit db p && Pn.AbU db ps
end
mutual
def Pn.bd (n:Nat):Pn→Nat
 | .mk _ _ es _ ks=>bdK n es (Pn.bdL n ks)
def Pn.bdL (n:Nat):List Pn→List Nat
 | []=>[]
 | p::ps=>Pn.bd n p::Pn.bdL n ps
def bdK (n:Nat) (es:List Ex):List Nat→Nat
 | []=>n
 | [a]=>a
 | a::b::_=>if es=[]then a+b else a*b
end
theorem ASS (n:Nat) (t:Int):(Pn.scan t).bd n=n:=by simp[Pn.scan,Pn.bd,Pn.bdL,bdK]
theorem AJ0 (n:Nat) (k t:Int) (es:List Ex) (cs:List Int) (a:Pn):(Pn.mk k t es cs [a]).bd n=a.bd n:=by simp[Pn.bd,Pn.bdL,bdK]
def Th (P:Pn) (j j':Nat) (u u':Int):Prop:=P.thin∧(j'≤j∧u'≤u∧∀ n:Nat,1≤n→P.bd n≤2 ^ (u-u').toNat*n ^ (j-j'+1))∧(P.exprs=[]→P.kids.length=2→P.kind=6)
theorem Th.scan {t:Int} (h:(Pn.scan t).thin) (j:Nat) (u:Int):Th (.scan t) j j u u:=by
 refine⟨h,⟨Nat.le_refl _,Int.le_refl _,fun n _=>?_⟩,by simp[Pn.scan]⟩;rw[ASS];simp
theorem Th.one {k t:Int} {es:List Ex} {cs:List Int} {K:Pn} {j j1:Nat} {u u1:Int} (hth:(Pn.mk k t es cs [K]).thin) (h:Th K j j1 u u1):Th (.mk k t es cs [K]) j j1 u u1:=by
 refine⟨hth,⟨h.2.1.1,h.2.1.2.1,fun n hn=>?_⟩,by simp⟩;rw[AJ0];exact h.2.1.2.2 n hn
theorem Th.skip {k t:Int} {es:List Ex} {cs:List Int} {K:Pn} {j j1 j2:Nat} {u u1 u2:Int} (hth:(Pn.mk k t es cs [K]).thin) (h:Th K j j1 u u1) (h2:j2≤j1) (h3:u2≤u1):Th (.mk k t es cs [K]) j j2 u u2:=by
 obtain⟨-,⟨g1,g2,g3⟩,-⟩:=h;refine⟨hth,⟨by omega,by omega,fun n hn=>?_⟩,by simp⟩;rw[AJ0];refine xR (g3 n hn) (Nat.mul_le_mul (Nat.pow_le_pow_right (by omega) (by omega)) (Nat.pow_le_pow_right hn (by omega)))
def BdV (P:Pn):Prop:=∀ (ws:List Int) (lv n:Nat),1≤n→P.wd ws lv≠0→P.bd n≤2*n ^ 2
def Rt (P:Pn):Prop:=P.thin∧(∀ n:Nat,1≤n→P.bd n≤2*n ^ 2)∧(P.exprs=[]→P.kids.length=2→P.kind=6)
theorem Rt.one {k t:Int} {es:List Ex} {cs:List Int} {P:Pn} (hth:(Pn.mk k t es cs [P]).thin) (h:Rt P):Rt (.mk k t es cs [P]):=⟨hth,fun n hn=>by rw[AJ0];exact h.2.1 n hn,by simp⟩
theorem Rt.all {P:Pn} (h:Rt P):BdV P:=fun ws lv n hn _=>h.2.1 n hn
end Go.Av
namespace Go.Proofs.YtjdfjgmebalaaaaGreat.P
open Go Go.Av
set_option maxRecDepth 4000
set_option maxHeartbeats 8000000
def PSt (l:List UInt8) (ws:List Int) (k:Nat) (j u p:Int):StL:=[some (.box [.own 1 0, .osl 2 1 0 k, .int j, .int u]),Rd l p,some (.arr 1 (aD ws))]
structure PlH (l:List UInt8) (ws:List Int) (k d j c2:Nat) (p u t v W kk p1 u1:Int) (j1:Nat) (K:Pn):Prop where
 hd:d<100
 h1:p1+400+c2<300000000
 hp1:0≤p1
 hu0:0≤u1
 hu1:u1≤1
 hW0:0≤W
 hW6:W≤6
 hKB:Th K j j1 u u1
 ht:aI C0 127 [.own 0 0, .int k] [Rd l p]=some (.int t,[Rd l (p+1)])
 hv:aI C0 127 [.own 0 0, .int 6] [Rd l (p+1)]=some (.int v,[Rd l (p+1+1)])
 v0:¬ v=0
 hkid:aI CP 182 [.own 0 0, .int d] (PSt l ws k j u (p+1+1))=some (.i (.agg K.cells),PSt l ws k j1 u1 p1)
 hW:aI CP 104 [.i (.agg K.cells), .osl 0 1 0 k, .int 8] [some (.arr 1 (aD ws))]=some (.int W,[some (.arr 1 (aD ws))])
 hkk:aI C0 127 [.own 0 0, .int 10] [Rd l p1]=some (.int kk,[Rd l (p1+1)])
def bl (n:Nat):Nat:=if n=0 then 0 else 1
end Go.Proofs.YtjdfjgmebalaaaaGreat.P
namespace Go.Av
def PT (l:List (List Int)):List (List IV):=l.map fun p=>[.isl (aD p)]
@[simp] theorem AQQ (l:List (List Int)):(PT l).length=l.length:=by simp[PT]
theorem XB (a b:List (List Int)):PT (a++b)=PT a++PT b:=by simp[PT]
@[simp] theorem AVU (n:Nat) (l:List (List Int)):(PT l).take n=PT (l.take n):=by simp[PT,zC4]
theorem ALD (p:List Int):PT [p]=[[.isl (aD p)]]:=rfl
theorem ALE {l:List (List Int)} {i:Nat} {p:List Int} (h:l[i]?=some p):fU (PT l) i=some [.isl (aD p)]:=by
 rw[fI];simp[PT,h]
theorem wN (path:List Int):∀ (l m:List Pn) (i:Nat),eF path i (l++m)=eF path i l++eF path (i+l.length) m
 | [],m,i=>by simp[eF]
 | a::l,m,i=>by simp only[yX,eF,wN path l m (i+1),yY,zQ];congr 3;omega
theorem U4 (path:List Int) {l:List Pn} {i:Nat} {a:Pn} (h:l[i]?=some a):eF path 0 (l.take (i+1))=eF path 0 (l.take i)++p9 (path++[(i:Int)]) a:=by
 have hl:(l.take i).length=i:=by have:=(zY.1 h).1;simp;omega
 rw[aL h,wN,hl];simp[eF]
mutual
theorem NW:∀ (p:Pn) (path:List Int),(p9 path p).length=p.size
 | .mk _ _ _ _ ks,path=>by simp only[p9,Pn.size,zQ,A9 ks path 0];omega
theorem A9:∀ (l:List Pn) (path:List Int) (i:Nat),(eF path i l).length=Pn.aM l
 | [],_,_=>by simp[eF,Pn.aM]
 | a::l,path,i=>by simp only[eF,Pn.aM,zN,NW a,A9 l]
end
end Go.Av
namespace Go.Proofs.YtjdfjgmebalaaaaGreat.P
open Go Go.Av
set_option maxRecDepth 4000
set_option maxHeartbeats 4000000
def ADX (p:Pn) (path:List Int) (L:List (List Int)) (i:Nat):AS :=
 { env:=[(0, .osl 2 1 0 (L++path::eF path 0 (p.kids.take i)).length),(1, .i (.agg [.int p.kind, .int p.table, .isl (Ex.aB p.exprs), .isl (aD p.cols), .isl (Pn.aB p.kids)])),(2, .osl 1 1 0 path.length),(4, .own 3 0),(6, .nils),(7, .int i),(18,jk i (.bool true))],
   st:=[none,some (.arr 1 (aD path)),some (.arr 1 (PT (L++path::eF path 0 (p.kids.take i)))),mU p] }
theorem YT:∀ (p:Pn) (path:List Int) (L:List (List Int)),p.thin→path.length+p.size<1000000→L.length+p.size<1000000→aI C0 100 [.osl 0 1 0 L.length, .i (.agg p.cells), .osl 1 1 0 path.length] [some (.arr 1 (PT L)),some (.arr 1 (aD path))]=some (.osl 2 1 0 (L++p9 path p).length,[none,some (.arr 1 (aD path)),some (.arr 1 (PT (L++p9 path p)))]):=by
 intro p
 induction p using Pn.ind with
 | h k t es cs ks ih =>
  intro path L ht hp hL;generalize hpe:Pn.mk k t es cs ks=p at *
  have hks:ks=p.kids:=by rw[← hpe];rfl
  subst hks;have hkt:=((Pn.bO p).1 ht).2.2.2.2;have hsz:=Pn.size_eq p;have hkl:=Pn.bP p.kids;have htp:path.take path.length=path:=zZ (by simp);have htL:L.take L.length=L:=zZ (by simp);have hl1:path.length*8≤140737488355328:=by omega
  have hl2:(L.length+1)*24≤140737488355328:=by omega
  have hl3:(L.length+1)*32≤140737488355328:=by omega
  rw[aF rfl Tryz.func100 rfl rfl,KA];simp only[Pn.aA p];simp[htp,htL,hl1,hl2,hl3];rw[aT (ADX p path L) p.kids.length (by simp[ADX,mU,eF,XB,ALD])]
  ·rw[aG];simp[ADX,mU]
  ·intro i hi;have h3:=zX hi;have hm:=zU h3;have r2:=Pn.aP h3;have hsn:=U4 path h3;have htk:=aL h3;generalize p.kids[i]=a at h3 hm r2 hsn htk
   have hle:Pn.aM (p.kids.take i)+a.size≤Pn.aM p.kids:=by
    have h:=Pn.uB (p.kids.take (i+1)) (p.kids.drop (i+1));rw[yA,htk,Pn.uB]at h;simp only[Pn.aM]at h;omega
   have hpn:=A9 (p.kids.take i) path 0;have w2:IntKind.i64.wrap ((i:Int)+1)=i+1:=wrO;have hk:=ih a hm (path++[(i:Int)]) (L++path::eF path 0 (p.kids.take i)) (hkt a hm) (by simp;omega) (by simp;omega);rw[Pn.aA a]at r2 hk;have hpi:aD (path++[(i:Int)])=aD path++[[.int i]]:=lH path i;have ht1:List.take (path.length+1) (aD path++[[.int (i:Int)]])=aD path++[[.int i]]:=zZ (by simp);have hl4:(path.length+1)*8≤140737488355328:=by omega
   rw[hpi]at hk;generalize p9 (path++[(i:Int)]) a=S at hk hsn;simp only[yY,yX]at hk;simp at hk;simp[ADX,mU,hi,r2,w2,hk,hsn,aD,htp,hl1,hl4,ht1]
def okA (ws:List Int) (p:Pn) (path:List Int) (r:Int):Bool:=(apS ws r path p).isSome
def NA (ws:List Int) (p:Pn) (path:List Int) (i:Nat):List Stp:=((rules.take i).filter (okA ws p path)).map fun r=>(r,path)
theorem WA {ws path:List Int} {p:Pn} {i:Nat} (h:i<11):NA ws p path (i+1)=NA ws p path i++if okA ws p path ((i:Int)+1)=true then [((i:Int)+1,path)]else []:=by
 have h1:rules[i]?=some ((i:Int)+1):=by
  have:i=0∨i=1∨i=2∨i=3∨i=4∨i=5∨i=6∨i=7∨i=8∨i=9∨i=10:=by omega
  rcases this with rfl|rfl|rfl|rfl|rfl|rfl|rfl|rfl|rfl|rfl|rfl<;>rfl
 unfold NA;rw[aL h1,List.filter_append,yD];congr 1;simp only[List.filter];split<;>rename_i h2<;>simp[h2]
theorem R3 (ws path:List Int) (p:Pn) (i:Nat):(NA ws p path i).length≤11:=by
 unfold NA;rw[zA3];refine xR (List.length_filter_le _ _) ?_;simp[rules];omega
theorem AJ4 (ws path:List Int) (p:Pn):atS ws p path=NA ws p path 11:=rfl
def SB (r:Int) (path:List Int):StL:=[some (.box [.int r, .osl 4 1 0 path.length]),some (.frz 1 (aD path))]
def UJ (P:List (List Int)) (i:Nat):List Int:=(P[i-1]?).getD []
def sZ (ws:List Int) (p:Pn) (P:List (List Int)) (i:Nat):List Stp:=(P.take i).flatMap (atS ws p)
theorem VZ (ws:List Int) (p:Pn) (P:List (List Int)):sZ ws p P 0=[]:=rfl
theorem ANF (ws:List Int) (p:Pn) (P:List (List Int)):sZ ws p P P.length=P.flatMap (atS ws p):=by unfold sZ;rw[zZ (zP _)]
def SOX (p:Pn) (ws:List Int) (P:List (List Int)) (i:Nat):AS :=
 { env:=[(0, .i (.agg [.int p.kind, .int p.table, .isl (Ex.aB p.exprs), .isl (aD p.cols), .isl (Pn.aB p.kids)])),(1, .i (.isl (aD ws))),(2, .own 0 0),(4, .nils),(5, .osl 1 2 0 (sZ ws p P i).length),(6, .osl 2 1 0 P.length),(7, .int i),(8,jk i (.int 12)),(9,if i=0 then .junk else .own 3 0),(11,jk i (.bool (okA ws p (UJ P i) 11))),(20,jk i (.bool true)),(24,jk i (.bool false)),(42,jk i (.bool (okA ws p (UJ P i) 11)))],
   st:=mU p::some (.arr 2 (bR (sZ ws p P i)))::some (.arr 1 (PT P))::(if i=0 then []else SB 11 (UJ P i)) }
def SIX (p:Pn) (ws:List Int) (P:List (List Int)) (path:List Int) (i j:Nat):AS :=
 { env:=[(0, .i (.agg [.int p.kind, .int p.table, .isl (Ex.aB p.exprs), .isl (aD p.cols), .isl (Pn.aB p.kids)])),(1, .i (.isl (aD ws))),(2, .own 0 0),(4, .nils),(5, .osl 1 2 0 (sZ ws p P i++NA ws p path j).length),(6, .osl 2 1 0 P.length),(7, .int i),(8, .int ((j:Int)+1)),(9,if i+j=0 then .junk else .own 3 0),(11,if j=0 then jk i (.bool (okA ws p (UJ P i) 11))else .bool (okA ws p path j)),(20, .bool true),(24,if j=0 then jk i (.bool false)else .bool true),(42,if j=0 then jk i (.bool (okA ws p (UJ P i) 11))else .bool (okA ws p path j))],
   st:=mU p::some (.arr 2 (bR (sZ ws p P i++NA ws p path j)))::some (.arr 1 (PT P))::(if j=0 then(if i=0 then []else SB 11 (UJ P i))else SB j path) }
theorem TI {ws:List Int} (hw:kM ws=true) {p:Pn} (hp:p.wd ws 8≠0):aI C0 64 [.i (.agg p.cells), .i (.isl (aD ws))] []=some (.i (.isl (bR (stS ws p))),[]):=by
 have ht:=dJ p 8 hp;have hsz:=(Pn.tT p 8 hp).2;have c1:=YT p [] [] ht (by simp;omega) (by simp;omega);have hpl:=NW p []
 have hP:∀ path∈p9 [] p,path.length≤8:=by
  intro path hm;obtain⟨r,hr,hs⟩:=(NV p [] path).1 hm;rw[yQ]at hr;subst hr
  cases ha:Pn.at path p with
  | none=>rw[ha]at hs;cases hs
  | some a=>exact(FL path p 8 a hp ha).1
 unfold stS;generalize p9 [] p=P at *
 have hlen:∀ l:List (List Int),(l.flatMap (atS ws p)).length≤11*l.length:=by
  intro l
  induction l with
  | nil=>simp
  | cons x l ih=>have:=R3 ws x p 11;rw[← AJ4]at this;simp only[List.flatMap_cons,zN,zQ];omega
 rw[aF rfl Tryz.func64 rfl rfl];simp only[Pn.aA p]at c1 ⊢;simp[PT,aD]at c1;simp[c1];rw[aT (SOX p ws P) P.length (by simp[SOX,mU,bR,PT,VZ])]
 ·rw[aG];have ht1:(sZ ws p P P.length).take (sZ ws p P P.length).length=sZ ws p P P.length:=zZ (zP _);rw[← ANF ws p P];by_cases h0:P.length=0
  ·simp[SOX,mU,h0,VZ,bR]
  ·simp[SOX,mU,SB,h0,bU h0,ht1]
 ·intro i hi;have q1:=zX hi;have hm:=zU q1;generalize P[i]=path at q1 hm;have r1:=ALE q1;have htk:=aL q1;have hp8:=hP path hm;have hac:(sZ ws p P i).length≤11*i:=by have:=hlen (P.take i);unfold sZ;have:(P.take i).length≤i:=(by simp;omega);omega
  have w2:IntKind.i64.wrap ((i:Int)+1)=i+1:=wrO;have hlast:UJ P (i+1)=path:=by simp[UJ,q1]
  have hfl:sZ ws p P (i+1)=sZ ws p P i++NA ws p path 11:=by unfold sZ;rw[htk];simp[AJ4]
  by_cases h0:i=0
  ·subst h0;have hi0:0<P.length:=hi;simp at w2 hlast hfl;simp[SOX,mU,SB,hi0];rw[aT (SIX p ws P path 0) 11 (by simp[SIX,mU,SB,NA])]
   ·rw[aG];simp[SIX,mU,SB,w2,hlast,hfl]
   ·intro j hj;have hs:=WA (ws:=ws) (path:=path) (p:=p) hj;have hlj:=R3 ws path p j;have w3:IntKind.i64.wrap ((j:Int)+1+1)=j+1+1:=wrO;have hj11:(j:Int)+1≤11:=by omega
    have c2:=uW hw hp ((j:Int)+1) (path:=path) (by omega);have htp:path.take path.length=path:=zZ (by simp);have hl1:path.length*8≤140737488355328:=by omega
    rw[Pn.aA p]at c2;have hok:okA ws p path ((j:Int)+1)=(apS ws ((j:Int)+1) path p).isSome:=rfl;rw[← hok]at c2
    cases hb:okA ws p path ((j:Int)+1)with
    | false =>
     rw[hb]at hs c2;simp at hs;by_cases j0:j=0
     ·subst j0;simp at c2 hb hs;simp[SIX,mU,SB,hi0,r1,hs,hj11,c2,hb,htp,hl1]
     ·simp[SIX,mU,SB,j0,hi0,r1,w3,hs,hj11,c2,hb,htp,hl1]
    | true =>
     rw[hb]at hs c2;simp at hs;have hl2:((sZ ws p P 0).length+(NA ws p path j).length+1)*32≤140737488355328:=by omega
     have ht3:(sZ ws p P 0).take ((sZ ws p P 0).length+(NA ws p path j).length)=sZ ws p P 0:=zZ (by omega);have ht4:(NA ws p path j).take (NA ws p path j).length=NA ws p path j:=zZ (by omega);by_cases j0:j=0
     ·subst j0;simp at c2 hb hs hl2;simp[SIX,mU,SB,hi0,r1,hs,hj11,c2,hb,htp,hl1,hl2];exact⟨by omega,by rw[zZ (by simp)];simp[bR,wX]⟩
     ·simp[SIX,mU,SB,j0,hi0,r1,w3,hs,hj11,c2,hb,htp,hl1,hl2];exact⟨by omega,by rw[zZ (by simp)];simp[bR,wX]⟩
  ·simp[SOX,mU,SB,h0,bU h0,hi];rw[aT (SIX p ws P path i) 11 (by simp[SIX,mU,SB,h0,bU h0,NA])]
   ·rw[aG];simp[SIX,mU,SB,h0,bU h0,w2,hlast,hfl]
   ·intro j hj;have hs:=WA (ws:=ws) (path:=path) (p:=p) hj;have hlj:=R3 ws path p j;have w3:IntKind.i64.wrap ((j:Int)+1+1)=j+1+1:=wrO;have hj11:(j:Int)+1≤11:=by omega
    have c2:=uW hw hp ((j:Int)+1) (path:=path) (by omega);have htp:path.take path.length=path:=zZ (by simp);have hl1:path.length*8≤140737488355328:=by omega
    rw[Pn.aA p]at c2;have hok:okA ws p path ((j:Int)+1)=(apS ws ((j:Int)+1) path p).isSome:=rfl;rw[← hok]at c2
    cases hb:okA ws p path ((j:Int)+1)with
    | false =>
     rw[hb]at hs c2;simp at hs;by_cases j0:j=0
     ·subst j0;simp at c2 hb hs;simp[SIX,mU,SB,h0,bU h0,hi,r1,hs,hj11,c2,hb,htp,hl1]
     ·simp[SIX,mU,SB,h0,bU h0,j0,hi,r1,w3,hs,hj11,c2,hb,htp,hl1]
    | true =>
     rw[hb]at hs c2;simp at hs;have hl2:((sZ ws p P i).length+(NA ws p path j).length+1)*32≤140737488355328:=by omega
     have ht3:(sZ ws p P i).take ((sZ ws p P i).length+(NA ws p path j).length)=sZ ws p P i:=zZ (by omega);have ht4:(NA ws p path j).take (NA ws p path j).length=NA ws p path j:=zZ (by omega);by_cases j0:j=0
     ·subst j0;simp at c2 hb hs hl2;simp[SIX,mU,SB,h0,bU h0,hi,r1,hs,hj11,c2,hb,htp,hl1,hl2];exact⟨by omega,by rw[zZ (by simp)];simp[bR,wX]⟩
     ·simp[SIX,mU,SB,h0,bU h0,j0,hi,r1,w3,hs,hj11,c2,hb,htp,hl1,hl2];exact⟨by omega,by rw[zZ (by simp)];simp[bR,wX]⟩
end Go.Proofs.YtjdfjgmebalaaaaGreat.P
namespace Go.Av
theorem CU {ws:List Int} (h:kM ws=true):∀ w∈ws,0≤w∧w≤6:=by
 intro w hw;unfold kM at h;simp only[zT]at h;have:=zO.1 h.2 w hw;unfold bQ at this;simp at this;omega
theorem ABY {p:Pn} {ws:List Int}:∀ s∈JL p ws,s.2.length≤8:=by
 intro s hs;unfold JL at hs;split at hs
 ·simp at hs
 ·rename_i h0;obtain⟨hw,hp,_⟩:=nO h0;rw[EJ (CU hw) hp]at hs
  have:=(APA (ws:=ws) (rule:=s.1) (path:=s.2) (p:=p) (q:=((apS ws s.1 s.2 p).getD p)) (by
   have:=AFJ.1 hs
   cases h:apS ws s.1 s.2 p with
   | none=>rw[h]at this;cases this
   | some q=>rfl)).2
  cases ha:Pn.at s.2 p with
  | none=>rw[ha]at this;cases this
  | some a=>exact(FL s.2 p 8 a hp ha).1
end Go.Av
namespace Go.Proofs.YtjdfjgmebalaaaaGreat.P
open Go Go.Av
set_option maxRecDepth 4000
set_option maxHeartbeats 8000000
set_option maxHeartbeats 4000000
end Go.Proofs.YtjdfjgmebalaaaaGreat.P
namespace Go.Av
def EU (r:Int):Bool:=decide (r≠2∧r≠5∧r≠6)
def lJ (l:List Stp):Option Stp:=l.find? fun s=>EU s.1
theorem sF (a b:List Stp):lJ (a++b)=(lJ a).or (lJ b):=by unfold lJ;exact List.find?_append
def NS0 (R:Rng) (cs:List AV):StL:=[some (.loop R cs .ready),some (.box [.int 0, .nils]),some (.box [.bool false])]
def NS1 (R:Rng) (cs:List AV) (s:Stp):StL:=some (.loop R cs (.over .ret))::some (.box [.int s.1,if s.2=[]then .nils else .osl 3 1 0 s.2.length])::some (.box [.bool true])::(if s.2=[]then []else [some (.frz 1 (aD s.2))])
theorem MK {ws path:List Int} {p:Pn}:∀ {j:Nat},j≤11→(∀ i,i<j→((rwL ws ((i:Int)+1) (8-path.length) p).isSome && EU ((i:Int)+1))=false)→lJ (OX ws path p j)=none
 | 0,_,_=>rfl
 | j+1,hj,h=>by
  rw[DX (by omega),sF,MK (by omega) fun i hi=>h i (by omega)];have:=h j (by omega);split
  ·rename_i hs;rw[hs]at this;simp only[Bool.true_and]at this;simp[lJ,this]
  ·rfl
theorem VY {ws path:List Int} {p:Pn} {s:Stp}:∀ (k j:Nat),j+k≤11→lJ (OX ws path p j)=some s→lJ (OX ws path p (j+k))=some s
 | 0,j,_,h=>h
 | k+1,j,hj,h=>by
  rw[← Nat.add_assoc,DX (by omega),sF,VY k j (by omega) h];rfl
theorem AJD {ws path:List Int} {p:Pn} {j:Nat} (hj:j<11) (h:∀ i,i<j→((rwL ws ((i:Int)+1) (8-path.length) p).isSome && EU ((i:Int)+1))=false) (hb:((rwL ws ((j:Int)+1) (8-path.length) p).isSome && EU ((j:Int)+1))=true):lJ (OX ws path p 11)=some ((j:Int)+1,path):=by
 have h1:lJ (OX ws path p (j+1))=some ((j:Int)+1,path):=by
  simp only[zT]at hb;rw[DX hj,sF,MK (by omega) h,if_pos hb.1];simp[lJ,hb.2]
 have:=VY (10-j) (j+1) (by omega) h1
 rwa [show j+1+(10-j)=11 by omega]at this
theorem XZ (q:Nat→Bool) (n:Nat):∃ j,j≤n∧(∀ i,i<j→q i=false)∧(j=n∨q j=true):=by
 induction n with
 | zero=>exact⟨0,zP _,fun i hi=>by omega, .inl rfl⟩
 | succ n ih =>
  obtain⟨j,h1,h2,h3⟩:=ih
  rcases h3 with rfl|h3
  ·cases hq:q j with
   | true=>exact⟨j,by omega,h2, .inr hq⟩
   | false=>exact⟨j+1,zP _,fun i hi=>by
    by_cases e:i=j
    ·subst e;exact hq
    ·exact h2 i (by omega), .inl rfl⟩
  ·exact⟨j,by omega,h2, .inr h3⟩
theorem JP {ws path:List Int} {l:List Pn}:∀ {i:Nat},i≤l.length→(∀ k,k<i→lJ (stI ws (path++[(k:Int)]) ((l[k]?).getD Pn.zero))=none)→lJ (I8 ws path 0 (l.take i))=none
 | 0,_,_=>by simp[I8,lJ]
 | i+1,hi,h=>by
  have h3:=zX (show i<l.length by omega);have h4:=h i (by omega);rw[h3]at h4;rw[TG ws path h3,sF,JP (by omega) fun k hk=>h k (by omega)];exact h4
theorem AC3 {ws path:List Int} {l:List Pn} {j:Nat} {a:Pn} {s:Stp} (h3:l[j]?=some a) (h:∀ k,k<j→lJ (stI ws (path++[(k:Int)]) ((l[k]?).getD Pn.zero))=none) (hs:lJ (stI ws (path++[(j:Int)]) a)=some s):lJ (I8 ws path 0 l)=some s:=by
 have hj:=(zY.1 h3).1;have he:=wY ws path (l.take (j+1)) (l.drop (j+1)) 0;rw[yA]at he;rw[he,sF,TG ws path h3,sF,JP (by omega) h,hs];rfl
theorem AMI {ws path:List Int} {p:Pn} {s:Stp} (h:lJ (stI ws path p)=some s):∃ r,s.2=path++r:=AFL ws p path s (List.mem_of_find?_eq_some h)
end Go.Av
namespace Go.Proofs.YtjdfjgmebalaaaaGreat.P
open Go Go.Av
set_option maxRecDepth 4000
set_option maxHeartbeats 8000000
theorem CV (r:Int) (path:List Int):aI C0 122 [.i (.agg [.int r, .isl (aD path)])] []=some (.bool (EU r),[]):=by
 rw[aF rfl Tryz.func122 rfl rfl];unfold EU;by_cases h2:r=2
 ·simp[h2]
 ·by_cases h5:r=5
  ·simp[h5]
  ·by_cases h6:r=6
   ·simp[h6]
   ·simp[h2,h5,h6]
structure Yn (R:Rng) (cs:List AV):Prop where
 ids:cs=[.own 1 0, .own 2 0, .junk, .junk, .junk]
 n0:∀ r:Int,EU r=false→aI C0 lU [.fn (.yield 0) [.own 0 0], .agg [.int r, .nils]] (NS0 R cs)=some (.bool true,NS0 R cs)
 n1:∀ (r:Int) (path:List Int),path≠[]→EU r=false→aI C0 lU [.fn (.yield 0) [.own 0 0], .agg [.int r, .osl 3 1 0 path.length]] (NS0 R cs++[some (.arr 1 (aD path))])=some (.bool true,NS0 R cs++[some (.frz 1 (aD path))])
 y0:∀ r:Int,EU r=true→aI C0 lU [.fn (.yield 0) [.own 0 0], .agg [.int r, .nils]] (NS0 R cs)=some (.bool false,NS1 R cs (r,[]))
 y1:∀ (r:Int) (path:List Int),path≠[]→EU r=true→aI C0 lU [.fn (.yield 0) [.own 0 0], .agg [.int r, .osl 3 1 0 path.length]] (NS0 R cs++[some (.arr 1 (aD path))])=some (.bool false,NS1 R cs (r,path))
def RNX (R:Rng) (cs:List AV) (ws path:List Int) (p:Pn) (i:Nat):AS :=
 { env:=[(0, .i (.iref [.int p.kind, .int p.table, .isl (Ex.aB p.exprs), .isl (aD p.cols), .isl (Pn.aB p.kids)])),(1, .i (.isl (aD ws))),(2, .i (.isl (aD path))),(3, .fn (.yield 0) [.own 0 0]),(8, .bool false),(9, .int ((i:Int)+1)),(11,jk i (.bool (rwL ws (i:Int) (8-path.length) p).isSome)),(12, .junk),(14,jk i (.bool true)),(28,jk i (.bool (!(rwL ws (i:Int) (8-path.length) p).isSome))),(35,if OX ws path p i=[]then .junk else .bool false),(40, .junk),(41, .junk),(42, .junk),(58, .junk)],
   st:=NS0 R cs }
def KNX (R:Rng) (cs:List AV) (ws path:List Int) (p:Pn) (i:Nat):AS :=
 { env:=[(0, .i (.iref [.int p.kind, .int p.table, .isl (Ex.aB p.exprs), .isl (aD p.cols), .isl (Pn.aB p.kids)])),(1, .i (.isl (aD ws))),(2, .i (.isl (aD path))),(3, .fn (.yield 0) [.own 0 0]),(8, .bool false),(9, .int 12),(11, .bool (rwL ws 11 (8-path.length) p).isSome),(12,jk i (.int (i-1))),(14, .bool false),(28, .bool (!(rwL ws 11 (8-path.length) p).isSome)),(35,if OX ws path p 11=[]then .junk else .bool false),(40, .int p.kids.length),(41, .int i),(42,jk i (.bool true)),(58,jk i (.bool false))],
   st:=NS0 R cs }
set_option maxHeartbeats 4000000
theorem YR {args:List AV} {st:StL} {q:AV×StL} (h:VP args st=some q):∃ fn,Tryz.prog.funcs[26]?=some fn∧fn.name≠ "runtime.NumGoroutine"∧fn.body.isSome=true:=⟨Tryz.f26,Tryz.func26,by decide,rfl⟩
theorem VN {args:List AV} {st st':StL} {r:AV} (h:VP args st=some (r,st')):∀ (w:World) (m:Mem) (φ:Pl) (vs:List Value),Inv w m φ (aR st)→RepL m φ args vs→(∀ id,φ id≠none→id<st.length)→Calls Tryz.prog 26 vs.toArray w (bF w m φ r st'):=by
 intro w m φ vs hi hr h0;obtain⟨p,ws,k,path,rfl,rfl,hq⟩:=YQ h
 cases ho:apO p ws k path with
 | none =>
  rw[ho]at hq;injection hq with h1 h2;subst h1;subst h2
  have hn:p.width ws=0∨apI ws k path p=none:=by
   unfold apO at ho;by_cases hw:p.width ws=0
   ·exact .inl hw
   ·rw[if_neg hw]at ho;exact .inr ho
  exact(aS bH).calls _ _ _ _ _ (by decide) (AE6 hn) w m φ vs hi hr h0
 | some q =>
  rw[ho]at hq;injection hq with h1 h2;subst h1;subst h2;unfold apO at ho;by_cases hw:p.width ws=0
  ·rw[if_pos hw]at ho;cases ho
  ·rw[if_neg hw]at ho
   obtain rfl:φ=fun _=>none:=by
    funext id
    cases h:φ id with
    | none=>rfl
    | some p=>exact absurd (h0 id (by rw[h];simp)) (xW _)
   exact AE5 hw ho hi hr
def ATE:FuncId→Bool
 | 78=>true
 | g=>AJQ g
@[simp] theorem AZT (g:FuncId):ATE g=if g=78 then true else AJQ g:=by
  unfold ATE;split
  ·rfl
  ·rename_i h;rw[if_neg h]
noncomputable def ACJ:FuncId→Option (List AV→StL→Option (AV×StL))
 | 40=>none
 | 16=>none
 | 42=>none
 | 39=>none
 | 12=>none
 | 41=>none
 | 26=>some VP
 | 78=>some (ARA (ADT C0 78))
 | 89=>some (aI CR 89)
 | g=>ACI g
noncomputable def CA:Ctx:={ P:=Tryz.prog,G:=GS,ownArgs:=ATE,keepRes:=ARF,eqT:=wS,prim:=ACJ }
@[simp] theorem Aq4:CA.P=Tryz.prog:=(rfl)
@[simp] theorem Aq5 (f):CA.G f=GS f:=(rfl)
@[simp] theorem Aq1 (f):CA.ownArgs f=ATE f:=(rfl)
@[simp] theorem Aq2 (f):CA.keepRes f=(keepR f || decide (f=159)):=(rfl)
@[simp] theorem Aq3 (f):CA.eqT f=wS f:=(rfl)
@[simp] theorem Aq0:CA.tree=false:=(rfl)
theorem AVZ:PrimOk CA:=by
 constructor
 ·intro g args st p h;unfold bE at h
  cases hq:CA.prim g with
  | none=>rw[hq]at h;cases h
  | some q =>
   rw[hq]at h;have hq:ACJ g=some q:=hq;unfold ACJ at hq;split at hq
   all_goals first
    | (cases hq;done)
    | (injection hq with hq;subst hq;exact YR h)
    | (injection hq with hq;subst hq;exact(KS (C:=CA) (fun args stl r stl' h=>BI bH h) (r:=p.1) (stl':=p.2) h).1)
    | (injection hq with hq;subst hq;exact(aS AOC).name _ _ _ _ (by decide) h)
    | exact AGB.name g args st p (by unfold bE;rw[show CR.prim g=some q from hq];exact h)
 ·intro g args st r st' h w m φ vs hi hr hb;unfold bE at h
  cases hq:CA.prim g with
  | none=>rw[hq]at h;cases h
  | some q =>
   rw[hq]at h;have hq:ACJ g=some q:=hq;unfold ACJ at hq;split at hq
   all_goals first
    | (cases hq;done)
    | (injection hq with hq;subst hq;exact VN h w m φ vs hi hr hb)
    | (injection hq with hq;subst hq;exact(KS (C:=CA) (fun args stl r stl' h=>BI bH h) h).2 w m φ vs hi hr hb)
    | (injection hq with hq;subst hq;exact(aS AOC).calls _ _ _ _ _ (by decide) h w m φ vs hi hr hb)
    | exact AGB.calls g args st r st' (by unfold bE;rw[show CR.prim g=some q from hq];exact h) w m φ vs hi hr hb
theorem AQA:SoundOk CA:=gF (C:=CA) ft nt eqS mo AVZ
end Go.Proofs.YtjdfjgmebalaaaaGreat.P
namespace Go.Av
theorem EL {ws:List Int} {lv:Nat} {p:Pn} (h:Shape ws lv p):(p.kind=2→∃ e a,p=filt e a)∧(p.kind=3→∃ es a,p=proj es a)∧(∀ k,k=4∨k=5→p.kind=k→∃ e a b,p=bB k e a b)∧(p.kind=6→∃ a b,p=dF a b)∧(p.kind=7→∃ a,p=.mk 7 0 [] [] [a]):=by
 cases h with
 | scan t=>exact⟨fun h=>by simp[Pn.scan,Pn.kind]at h,fun h=>by simp[Pn.scan,Pn.kind]at h,fun k h1 h=>by simp[Pn.scan,Pn.kind]at h;omega,fun h=>by simp[Pn.scan,Pn.kind]at h,fun h=>by simp[Pn.scan,Pn.kind]at h⟩
 | filt m e a=>exact⟨fun _=>⟨e,a,rfl⟩,fun h=>by simp[filt,Pn.kind]at h,fun k h1 h=>by simp[filt,Pn.kind]at h;omega,fun h=>by simp[filt,Pn.kind]at h,fun h=>by simp[filt,Pn.kind]at h⟩
 | proj m es a=>exact⟨fun h=>by simp[proj,Pn.kind]at h,fun _=>⟨es,a,rfl⟩,fun k h1 h=>by simp[proj,Pn.kind]at h;omega,fun h=>by simp[proj,Pn.kind]at h,fun h=>by simp[proj,Pn.kind]at h⟩
 | pair m k e a b hm hk=>exact⟨fun h=>by simp[bB,Pn.kind]at h;omega,fun h=>by simp[bB,Pn.kind]at h;omega,fun k' h1 h=>⟨e,a,b,by simp[bB,Pn.kind]at h;rw[h]⟩,fun h=>by simp[bB,Pn.kind]at h;omega,fun h=>by simp[bB,Pn.kind]at h;omega⟩
 | union m a b=>exact⟨fun h=>by simp[dF,Pn.kind]at h,fun h=>by simp[dF,Pn.kind]at h,fun k h1 h=>by simp[dF,Pn.kind]at h;omega,fun _=>⟨a,b,rfl⟩,fun h=>by simp[dF,Pn.kind]at h⟩
 | dist m a=>exact⟨fun h=>by simp[Pn.kind]at h,fun h=>by simp[Pn.kind]at h,fun k h1 h=>by simp[Pn.kind]at h;omega,fun h=>by simp[Pn.kind]at h,fun _=>⟨a,rfl⟩⟩
 | group m cs a=>exact⟨fun h=>by simp[Pn.kind]at h,fun h=>by simp[Pn.kind]at h,fun k h1 h=>by simp[Pn.kind]at h;omega,fun h=>by simp[Pn.kind]at h,fun h=>by simp[Pn.kind]at h⟩
@[simp] theorem AFP (t:Int) (e:Ex) (a:Pn):scP t (filt e a)=scP t a:=by simp[filt,scP,AJO,Pn.hit,Pn.kind]
@[simp] theorem PI (t:Int) (es:List Ex) (a:Pn):scP t (proj es a)=scP t a:=by simp[proj,scP,AJO,Pn.hit,Pn.kind]
theorem pO (t k:Int) (hk:k=4∨k=5) (e:Ex) (a b:Pn):scP t (bB k e a b)=(scP t a || scP t b):=by
 have:k≠1:=by omega
 simp[bB,scP,AJO,Pn.hit,Pn.kind,this]
@[simp] theorem AY8 (t:Int) (a b:Pn):scP t (dF a b)=(scP t a || scP t b):=by simp[dF,scP,AJO,Pn.hit,Pn.kind]
@[simp] theorem AQD (t:Int) (a:Pn):scP t (.mk 7 0 [] [] [a])=scP t a:=by simp[scP,AJO,Pn.hit,Pn.kind]
theorem AVC {ws:List Int} {r:Int} {e:Ex} {k q:Pn} {m:Nat} (hk:k.wd ws m≠0) (h:rwF ws r e k=some q) (t:Int):scP t q=scP t k:=by
 obtain⟨s2,s3,s45,s6,s7⟩:=EL (rC hk);unfold rwF at h;split at h
 ·rename_i hc;obtain⟨e2,a,rfl⟩:=s2 hc.2;injection h with h;subst h;simp[filt,Pn.jG,Pn.kids];simp[scP,AJO,Pn.hit,Pn.kind]
 split at h
 ·injection h with h;subst h;simp
 split at h
 ·rename_i hc;obtain⟨e2,a,b,hk2⟩:=s45 _ hc.2.1 rfl;have hkd:=hc.2.1;generalize k.kind=kd at *
  subst hk2;injection h with h;subst h;rw[pO t kd hkd,pO t kd hkd];simp[bB,Pn.jG,Pn.qP,Pn.kids]
 split at h
 ·rename_i hc;obtain⟨e2,a,b,rfl⟩:=s45 4 (.inl rfl) hc.2.1;injection h with h;subst h;rw[pO t 4 (.inl rfl),pO t 4 (.inl rfl)];simp[bB,Pn.jG,Pn.qP,Pn.kids]
 split at h
 ·rename_i hc;obtain⟨e2,a,b,rfl⟩:=s45 4 (.inl rfl) hc.2;injection h with h;subst h;rw[pO t 4 (.inl rfl),pO t 4 (.inl rfl)];simp[bB,Pn.jG,Pn.qP,Pn.kids]
 split at h
 ·rename_i hc;obtain⟨e2,a,b,rfl⟩:=s45 5 (.inr rfl) hc.2.1;injection h with h;subst h;rw[AFP,pO t 4 (.inl rfl),pO t 5 (.inr rfl)];simp[bB,Pn.jG,Pn.qP,Pn.kids]
 split at h
 ·rename_i hc;obtain⟨a,b,rfl⟩:=s6 hc.2;injection h with h;subst h;simp;simp[dF,Pn.jG,Pn.qP,Pn.kids]
 split at h
 ·rename_i hc;obtain⟨es,a,rfl⟩:=s3 hc.2;injection h with h;subst h;simp;simp[proj,Pn.jG,Pn.kids]
 ·cases h
theorem AVB {ws:List Int} {r:Int} {p q:Pn} {m:Nat} (hp:p.wd ws m≠0) (h:rwP ws r p=some q) (t:Int):scP t q=scP t p:=by
 have hs:=rC hp;obtain⟨s2,s3,s45,s6,s7⟩:=EL hs;unfold rwP at h;split at h
 ·rename_i hc;obtain⟨e,k,rfl⟩:=s2 hc;rw[AFP]
  cases hs with
  | filt m' _ _ _ hk _=>exact AVC hk h t
 split at h
 ·rename_i hc;obtain⟨e,a,b,rfl⟩:=s45 4 (.inl rfl) hc.2;injection h with h;subst h;rw[PI,pO t 4 (.inl rfl),pO t 4 (.inl rfl),Bool.or_comm];simp[bB,Pn.jG,Pn.qP,Pn.kids]
 split at h
 ·rename_i hc;obtain⟨a,rfl⟩:=s7 hc.2.1;injection h with h;subst h;rw[AQD];rfl
 split at h
 ·rename_i hc;obtain⟨es,a,rfl⟩:=s3 hc.2.1;injection h with h;subst h;rw[PI,PI]
  cases hs with
  | proj m' _ _ _ ha _ _ =>
   obtain⟨es2,b,rfl⟩:=(EL (rC ha)).2.1 hc.2.2;rw[PI];rfl
 ·cases h
theorem ZB (t:Int):∀ l:List Pn,AJO t l=l.any (scP t)
 | []=>rfl
 | p::l=>by simp[AJO,ZB t l]
theorem AJ8 {α:Type} (f:α→Bool):∀ (l:List α) (i:Nat) (a b:α),l[i]?=some a→f b=f a→(l.set i b).any f=l.any f
 | [],i,a,b,h,_=>by simp at h
 | x::l,0,a,b,h,hf=>by simp at h;subst h;simp[hf]
 | x::l,i+1,a,b,h,hf=>by simp[AJ8 f l i a b (by simpa using h) hf]
theorem AOH {t:Int} {q:Pn}:∀ (path:List Int) (p a:Pn),Pn.at path p=some a→scP t q=scP t a→scP t (Pn.put path p q)=scP t p
 | [],p,a,h,hq=>by simp only[Pn.at,Option.some.injEq]at h;subst h;simpa [Pn.put]using hq
 | i::r,p,a,h,hq=>by
  obtain⟨n,rfl,b,hb,hr⟩:=Pn.pV h;have:=AOH r b a hr hq;obtain⟨k,tb,es,cs,ks⟩:=p;have hb:ks[n]?=some b:=hb;have e:Pn.put ((n:Int)::r) (Pn.mk k tb es cs ks) q=.mk k tb es cs (ks.set n (Pn.put r b q)):=by simp[Pn.put,Pn.kind,Pn.table,Pn.exprs,Pn.cols,Pn.kids,hb]
  rw[e];simp only[scP,ZB,AJ8 (scP t) _ _ _ _ hb this];rfl
theorem AXO {p q:Pn} {ws:List Int} {r:Int} {path:List Int} (h:apO p ws r path=some q) (t:Int):scP t q=scP t p:=by
 unfold apO at h;split at h
 ·cases h
 rename_i h0;obtain⟨hw,hp8⟩:=gL h0;unfold apI at h;split at h
 ·rename_i hl
  cases ha:Pn.at path p with
  | none=>simp[ha]at h
  | some a =>
   obtain⟨-,hv⟩:=FL path p 8 a hp8 ha;simp only[ha,yP,rwL]at h
   cases hr:rwP ws r a with
   | none=>simp[hr]at h
   | some x =>
    simp only[hr,yP]at h;by_cases hx:x.wd ws (8-path.length)=0
    ·simp[hx]at h
    ·simp[hx]at h;subst h;exact AOH path p a ha (AVB hv hr t)
 ·cases h
end Go.Av

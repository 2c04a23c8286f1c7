/- Part 5 of what the proof rests on: the executor and what it is worth, and the program's functions as it runs them. No condition. -/
import Derived.Test.YtjdfjgmebalaaaaGreatT4
set_option linter.unusedVariables false
set_option linter.unusedSimpArgs false
namespace Go.Proofs.YtjdfjgmebalaaaaGreat.P
open Go Go.Av
set_option maxRecDepth 4000
set_option maxHeartbeats 2000000
def KX (p:Pn) (i:Nat):AS :=
 { env:=[(0, .i (.agg [.int p.kind, .int p.table, .isl (Ex.aB p.exprs), .isl (aF p.cols), .isl (Pn.aB p.kids)])),(1, .own 0 0),(2, .own 1 0),(3, .own 2 0),(4, .int i),(5, .junk),(19,jk i (.bool true)),(37, .junk)],
   st:=some (.box [.int p.kind, .int p.table, .i (.isl (Ex.aB p.exprs)), .i (.isl (aF p.cols)), .i (.isl (Pn.aB p.kids))])::some (.box [.int 0, .int 0, .nils, .nils, .nils]) ::
    some (.box [.int p.kind, .int p.table,gro 3 5 i, .osl (if i=0 then 3 else 4) 1 0 p.cols.length, .nils])::(YY 5 (Ex.aB (p.exprs.take i)) i++[some (.arr 1 (aF p.cols))]) }
def K2 (p:Pn) (i:Nat):AS :=
 { env:=[(0, .i (.agg [.int p.kind, .int p.table, .isl (Ex.aB p.exprs), .isl (aF p.cols), .isl (Pn.aB p.kids)])),(1, .own 0 0),(2, .own 1 0),(3, .own 2 0),(4, .int p.exprs.length),(5, .int i),(19, .bool false),(37,jk i (.bool true))],
   st:=some (.box [.int p.kind, .int p.table, .i (.isl (Ex.aB p.exprs)), .i (.isl (aF p.cols)), .i (.isl (Pn.aB p.kids))])::some (.box [.int 0, .int 0, .nils, .nils, .nils]) ::
    some (.box [.int p.kind, .int p.table,gro 3 5 p.exprs.length, .osl (if p.exprs.length=0 then 3 else 4) 1 0 p.cols.length,gro (if p.exprs.length=0 then 4 else 5) 5 i])::(YY 5 (Ex.aB p.exprs) p.exprs.length++some (.arr 1 (aF p.cols))::YY 5 (Pn.aB (p.kids.take i)) i) }
def pcX (p:Pn):AV:=.agg [.int p.kind, .int p.table,gro 0 5 p.exprs.length, .osl (if p.exprs.length=0 then 0 else 1) 1 0 p.cols.length,gro (if p.exprs.length=0 then 1 else 2) 5 p.kids.length]
def pcS (p:Pn):StL:=YY 5 (Ex.aB p.exprs) p.exprs.length++some (.arr 1 (aF p.cols))::YY 5 (Pn.aB p.kids) p.kids.length
theorem M5 {p:Pn} (hp:p.thin) (ih:∀ a∈p.kids,aI C0 62 [.i (.agg a.cells)] []=some (pcX a,pcS a)) :
 aI C0 62 [.i (.agg p.cells)] []=some (pcX p,pcS p):=by
 have ht:=(Pn.bI _).1 hp;obtain⟨t1,t2,t3,t4,-⟩:=ht;rw[aD rfl Tryz.func62 rfl rfl,Pn.aA];by_cases hc:p.cols=[]
 ·simp[hc,aF];rw[aS (KX p) p.exprs.length (by simp[KX,hc,aF])]
  ·rw[aG]
   cases hn:p.exprs.length with
   | zero =>
    have he:p.exprs=[]:=zW.1 hn;simp[KX,he,hc,aF,Ex.aB];rw[aS (K2 p) p.kids.length (by simp[K2,he,hc,aF,Ex.aB])]
    ·rw[aG]
     cases hm:p.kids.length with
     | zero =>
      have hk:p.kids=[]:=zW.1 hm;simp[K2,he,hc,aF,hk,Ex.aB,Pn.aB,pcX,pcS]
     | succ m =>
      have hk:p.kids.take (m+1)=p.kids:=zZ (by omega);simp[K2,he,hc,aF,hm,hk,Ex.aB,pcX,pcS]
    ·intro i hi;have h3:=zX hi;have hc':=ih _ (zV h3);have r2:=Pn.aN h3;generalize p.kids[i]=a at h3 hc' r2;have w2:IntKind.i64.wrap ((i:Int)+1)=i+1:=wrO;rw[Pn.aA]at r2 hc';simp only[pcX,pcS]at hc';have hl1:(i+1)*88≤140737488355328:=by omega
     have hl2:min i p.kids.length=i:=by omega
     by_cases a1:a.exprs=[]
     ·by_cases a2:a.kids=[]
      ·simp[a1,a2,Ex.aB,Pn.aB]at hc' r2;by_cases h0:i=0
       ·subst h0;simp[K2,he,hc,aF,hi,r2,hc',dE,aJ h3,Ex.aB,Pn.aB,Pn.aA a,a1,a2]
       ·simp[K2,he,hc,aF,aP h0,aM h0,bY h0,hi,r2,hc',w2,aJ h3,Ex.aB,Pn.aB,Pn.aW,hl1,hl2,zK,Pn.aA a,h0,a1,a2]
      ·have a2':a.kids.length≠0:=fun h=>a2 (zW.1 h)
       simp[a1,aP a2',aM a2',a2,Ex.aB,Pn.aB]at hc' r2;by_cases h0:i=0
       ·subst h0;simp[K2,he,hc,aF,hi,r2,hc',dE,aJ h3,Ex.aB,Pn.aB,Pn.aA a,a1,aP a2',aM a2',a2]
       ·simp[K2,he,hc,aF,aP h0,aM h0,bY h0,hi,r2,hc',w2,aJ h3,Ex.aB,Pn.aB,Pn.aW,hl1,hl2,zK,Pn.aA a,h0,a1,aP a2',aM a2',a2]
     ·by_cases a2:a.kids=[]
      ·have a1':a.exprs.length≠0:=fun h=>a1 (zW.1 h)
       simp[aP a1',aM a1',a1,a2,Ex.aB,Pn.aB]at hc' r2;by_cases h0:i=0
       ·subst h0;simp[K2,he,hc,aF,hi,r2,hc',dE,aJ h3,Ex.aB,Pn.aB,Pn.aA a,aP a1',aM a1',a1,a2]
       ·simp[K2,he,hc,aF,aP h0,aM h0,bY h0,hi,r2,hc',w2,aJ h3,Ex.aB,Pn.aB,Pn.aW,hl1,hl2,zK,Pn.aA a,h0,aP a1',aM a1',a1,a2]
      ·have a1':a.exprs.length≠0:=fun h=>a1 (zW.1 h)
       have a2':a.kids.length≠0:=fun h=>a2 (zW.1 h)
       simp[aP a1',aM a1',a1,aP a2',aM a2',a2,Ex.aB,Pn.aB]at hc' r2;by_cases h0:i=0
       ·subst h0;simp[K2,he,hc,aF,hi,r2,hc',dE,aJ h3,Ex.aB,Pn.aB,Pn.aA a,aP a1',aM a1',a1,aP a2',aM a2',a2]
       ·simp[K2,he,hc,aF,aP h0,aM h0,bY h0,hi,r2,hc',w2,aJ h3,Ex.aB,Pn.aB,Pn.aW,hl1,hl2,zK,Pn.aA a,h0,aP a1',aM a1',a1,aP a2',aM a2',a2]
   | succ n =>
    have he:p.exprs.take (n+1)=p.exprs:=zZ (by omega);simp[KX,hn,he,hc,aF];rw[aS (K2 p) p.kids.length (by simp[K2,hn,hc,aF,Ex.aB])]
    ·rw[aG]
     cases hm:p.kids.length with
     | zero =>
      have hk:p.kids=[]:=zW.1 hm;simp[K2,hn,hc,aF,hk,Ex.aB,Pn.aB,pcX,pcS]
     | succ m =>
      have hk:p.kids.take (m+1)=p.kids:=zZ (by omega);simp[K2,hn,hc,aF,hm,hk,Ex.aB,pcX,pcS]
    ·intro i hi;have h3:=zX hi;have hc':=ih _ (zV h3);have r2:=Pn.aN h3;generalize p.kids[i]=a at h3 hc' r2;have w2:IntKind.i64.wrap ((i:Int)+1)=i+1:=wrO;rw[Pn.aA]at r2 hc';simp only[pcX,pcS]at hc';have hl1:(i+1)*88≤140737488355328:=by omega
     have hl2:min i p.kids.length=i:=by omega
     by_cases a1:a.exprs=[]
     ·by_cases a2:a.kids=[]
      ·simp[a1,a2,Ex.aB,Pn.aB]at hc' r2;by_cases h0:i=0
       ·subst h0;simp[K2,hn,hc,aF,hi,r2,hc',dE,aJ h3,Ex.aB,Pn.aB,Pn.aA a,a1,a2]
       ·simp[K2,hn,hc,aF,aP h0,aM h0,bY h0,hi,r2,hc',w2,aJ h3,Ex.aB,Pn.aB,Pn.aW,hl1,hl2,zK,Pn.aA a,h0,a1,a2]
      ·have a2':a.kids.length≠0:=fun h=>a2 (zW.1 h)
       simp[a1,aP a2',aM a2',a2,Ex.aB,Pn.aB]at hc' r2;by_cases h0:i=0
       ·subst h0;simp[K2,hn,hc,aF,hi,r2,hc',dE,aJ h3,Ex.aB,Pn.aB,Pn.aA a,a1,aP a2',aM a2',a2]
       ·simp[K2,hn,hc,aF,aP h0,aM h0,bY h0,hi,r2,hc',w2,aJ h3,Ex.aB,Pn.aB,Pn.aW,hl1,hl2,zK,Pn.aA a,h0,a1,aP a2',aM a2',a2]
     ·by_cases a2:a.kids=[]
      ·have a1':a.exprs.length≠0:=fun h=>a1 (zW.1 h)
       simp[aP a1',aM a1',a1,a2,Ex.aB,Pn.aB]at hc' r2;by_cases h0:i=0
       ·subst h0;simp[K2,hn,hc,aF,hi,r2,hc',dE,aJ h3,Ex.aB,Pn.aB,Pn.aA a,aP a1',aM a1',a1,a2]
       ·simp[K2,hn,hc,aF,aP h0,aM h0,bY h0,hi,r2,hc',w2,aJ h3,Ex.aB,Pn.aB,Pn.aW,hl1,hl2,zK,Pn.aA a,h0,aP a1',aM a1',a1,a2]
      ·have a1':a.exprs.length≠0:=fun h=>a1 (zW.1 h)
       have a2':a.kids.length≠0:=fun h=>a2 (zW.1 h)
       simp[aP a1',aM a1',a1,aP a2',aM a2',a2,Ex.aB,Pn.aB]at hc' r2;by_cases h0:i=0
       ·subst h0;simp[K2,hn,hc,aF,hi,r2,hc',dE,aJ h3,Ex.aB,Pn.aB,Pn.aA a,aP a1',aM a1',a1,aP a2',aM a2',a2]
       ·simp[K2,hn,hc,aF,aP h0,aM h0,bY h0,hi,r2,hc',w2,aJ h3,Ex.aB,Pn.aB,Pn.aW,hl1,hl2,zK,Pn.aA a,h0,aP a1',aM a1',a1,aP a2',aM a2',a2]
  ·intro i hi;have h3:=zX hi;have hc':=uH _ (t2 _ (zV h3));have r2:=Ex.aN h3;generalize p.exprs[i]=a at h3 hc' r2;have w2:IntKind.i64.wrap ((i:Int)+1)=i+1:=wrO;rw[Ex.aA]at r2 hc';by_cases h0:i=0
   ·subst h0;simp[KX,hc,aF,hi,r2,hc',dE,aJ h3,Ex.aB,Ex.aA a]
   ·simp[KX,hc,aF,aP h0,aM h0,bY h0,hi,r2,hc',w2,aJ h3,Ex.aW,show min i p.exprs.length=i by omega,show(i+1)*56≤140737488355328 by omega,zK,Ex.aA a,h0]
 simp[hc,show p.cols.length*8≤140737488355328 by omega];rw[aS (KX p) p.exprs.length (by simp[KX,hc])]
 ·rw[aG]
  cases hn:p.exprs.length with
  | zero =>
   have he:p.exprs=[]:=zW.1 hn;simp[KX,he,hc,Ex.aB];rw[aS (K2 p) p.kids.length (by simp[K2,he,hc,Ex.aB])]
   ·rw[aG]
    cases hm:p.kids.length with
    | zero =>
     have hk:p.kids=[]:=zW.1 hm;simp[K2,he,hc,hk,Ex.aB,Pn.aB,pcX,pcS]
    | succ m =>
     have hk:p.kids.take (m+1)=p.kids:=zZ (by omega);simp[K2,he,hc,hm,hk,Ex.aB,pcX,pcS]
   ·intro i hi;have h3:=zX hi;have hc':=ih _ (zV h3);have r2:=Pn.aN h3;generalize p.kids[i]=a at h3 hc' r2;have w2:IntKind.i64.wrap ((i:Int)+1)=i+1:=wrO;rw[Pn.aA]at r2 hc';simp only[pcX,pcS]at hc';have hl1:(i+1)*88≤140737488355328:=by omega
    have hl2:min i p.kids.length=i:=by omega
    by_cases a1:a.exprs=[]
    ·by_cases a2:a.kids=[]
     ·simp[a1,a2,Ex.aB,Pn.aB]at hc' r2;by_cases h0:i=0
      ·subst h0;simp[K2,he,hc,hi,r2,hc',dE,aJ h3,Ex.aB,Pn.aB,Pn.aA a,a1,a2]
      ·simp[K2,he,hc,aP h0,aM h0,bY h0,hi,r2,hc',w2,aJ h3,Ex.aB,Pn.aB,Pn.aW,hl1,hl2,zK,Pn.aA a,h0,a1,a2]
     ·have a2':a.kids.length≠0:=fun h=>a2 (zW.1 h)
      simp[a1,aP a2',aM a2',a2,Ex.aB,Pn.aB]at hc' r2;by_cases h0:i=0
      ·subst h0;simp[K2,he,hc,hi,r2,hc',dE,aJ h3,Ex.aB,Pn.aB,Pn.aA a,a1,aP a2',aM a2',a2]
      ·simp[K2,he,hc,aP h0,aM h0,bY h0,hi,r2,hc',w2,aJ h3,Ex.aB,Pn.aB,Pn.aW,hl1,hl2,zK,Pn.aA a,h0,a1,aP a2',aM a2',a2]
    ·by_cases a2:a.kids=[]
     ·have a1':a.exprs.length≠0:=fun h=>a1 (zW.1 h)
      simp[aP a1',aM a1',a1,a2,Ex.aB,Pn.aB]at hc' r2;by_cases h0:i=0
      ·subst h0;simp[K2,he,hc,hi,r2,hc',dE,aJ h3,Ex.aB,Pn.aB,Pn.aA a,aP a1',aM a1',a1,a2]
      ·simp[K2,he,hc,aP h0,aM h0,bY h0,hi,r2,hc',w2,aJ h3,Ex.aB,Pn.aB,Pn.aW,hl1,hl2,zK,Pn.aA a,h0,aP a1',aM a1',a1,a2]
     ·have a1':a.exprs.length≠0:=fun h=>a1 (zW.1 h)
      have a2':a.kids.length≠0:=fun h=>a2 (zW.1 h)
      simp[aP a1',aM a1',a1,aP a2',aM a2',a2,Ex.aB,Pn.aB]at hc' r2;by_cases h0:i=0
      ·subst h0;simp[K2,he,hc,hi,r2,hc',dE,aJ h3,Ex.aB,Pn.aB,Pn.aA a,aP a1',aM a1',a1,aP a2',aM a2',a2]
      ·simp[K2,he,hc,aP h0,aM h0,bY h0,hi,r2,hc',w2,aJ h3,Ex.aB,Pn.aB,Pn.aW,hl1,hl2,zK,Pn.aA a,h0,aP a1',aM a1',a1,aP a2',aM a2',a2]
  | succ n =>
   have he:p.exprs.take (n+1)=p.exprs:=zZ (by omega);simp[KX,hn,he,hc];rw[aS (K2 p) p.kids.length (by simp[K2,hn,hc,Ex.aB])]
   ·rw[aG]
    cases hm:p.kids.length with
    | zero =>
     have hk:p.kids=[]:=zW.1 hm;simp[K2,hn,hc,hk,Ex.aB,Pn.aB,pcX,pcS]
    | succ m =>
     have hk:p.kids.take (m+1)=p.kids:=zZ (by omega);simp[K2,hn,hc,hm,hk,Ex.aB,pcX,pcS]
   ·intro i hi;have h3:=zX hi;have hc':=ih _ (zV h3);have r2:=Pn.aN h3;generalize p.kids[i]=a at h3 hc' r2;have w2:IntKind.i64.wrap ((i:Int)+1)=i+1:=wrO;rw[Pn.aA]at r2 hc';simp only[pcX,pcS]at hc';have hl1:(i+1)*88≤140737488355328:=by omega
    have hl2:min i p.kids.length=i:=by omega
    by_cases a1:a.exprs=[]
    ·by_cases a2:a.kids=[]
     ·simp[a1,a2,Ex.aB,Pn.aB]at hc' r2;by_cases h0:i=0
      ·subst h0;simp[K2,hn,hc,hi,r2,hc',dE,aJ h3,Ex.aB,Pn.aB,Pn.aA a,a1,a2]
      ·simp[K2,hn,hc,aP h0,aM h0,bY h0,hi,r2,hc',w2,aJ h3,Ex.aB,Pn.aB,Pn.aW,hl1,hl2,zK,Pn.aA a,h0,a1,a2]
     ·have a2':a.kids.length≠0:=fun h=>a2 (zW.1 h)
      simp[a1,aP a2',aM a2',a2,Ex.aB,Pn.aB]at hc' r2;by_cases h0:i=0
      ·subst h0;simp[K2,hn,hc,hi,r2,hc',dE,aJ h3,Ex.aB,Pn.aB,Pn.aA a,a1,aP a2',aM a2',a2]
      ·simp[K2,hn,hc,aP h0,aM h0,bY h0,hi,r2,hc',w2,aJ h3,Ex.aB,Pn.aB,Pn.aW,hl1,hl2,zK,Pn.aA a,h0,a1,aP a2',aM a2',a2]
    ·by_cases a2:a.kids=[]
     ·have a1':a.exprs.length≠0:=fun h=>a1 (zW.1 h)
      simp[aP a1',aM a1',a1,a2,Ex.aB,Pn.aB]at hc' r2;by_cases h0:i=0
      ·subst h0;simp[K2,hn,hc,hi,r2,hc',dE,aJ h3,Ex.aB,Pn.aB,Pn.aA a,aP a1',aM a1',a1,a2]
      ·simp[K2,hn,hc,aP h0,aM h0,bY h0,hi,r2,hc',w2,aJ h3,Ex.aB,Pn.aB,Pn.aW,hl1,hl2,zK,Pn.aA a,h0,aP a1',aM a1',a1,a2]
     ·have a1':a.exprs.length≠0:=fun h=>a1 (zW.1 h)
      have a2':a.kids.length≠0:=fun h=>a2 (zW.1 h)
      simp[aP a1',aM a1',a1,aP a2',aM a2',a2,Ex.aB,Pn.aB]at hc' r2;by_cases h0:i=0
      ·subst h0;simp[K2,hn,hc,hi,r2,hc',dE,aJ h3,Ex.aB,Pn.aB,Pn.aA a,aP a1',aM a1',a1,aP a2',aM a2',a2]
      ·simp[K2,hn,hc,aP h0,aM h0,bY h0,hi,r2,hc',w2,aJ h3,Ex.aB,Pn.aB,Pn.aW,hl1,hl2,zK,Pn.aA a,h0,aP a1',aM a1',a1,aP a2',aM a2',a2]
 ·intro i hi;have h3:=zX hi;have hc':=uH _ (t2 _ (zV h3));have r2:=Ex.aN h3;generalize p.exprs[i]=a at h3 hc' r2;have w2:IntKind.i64.wrap ((i:Int)+1)=i+1:=wrO;rw[Ex.aA]at r2 hc';by_cases h0:i=0
  ·subst h0;simp[KX,hc,hi,r2,hc',dE,aJ h3,Ex.aB,Ex.aA a]
  ·simp[KX,hc,aP h0,aM h0,bY h0,hi,r2,hc',w2,aJ h3,Ex.aW,show min i p.exprs.length=i by omega,show(i+1)*56≤140737488355328 by omega,zK,Ex.aA a,h0]
theorem H9:∀ (p:Pn),p.thin→aI C0 62 [.i (.agg p.cells)] []=some (pcX p,pcS p):=by
 intro p
 induction p using Pn.ind with
 | h k t es cs ks ih =>
  intro ht;exact M5 ht fun a ha=>ih a ha (((Pn.bI _).1 ht).2.2.2.2 a ha)
def vB (x:Bool) (v:Pn):Option Blk:=if x=true then some (.fbox v.cells)else some (.box (lW v.cells))
theorem bO:aI C0 93 [.i (.isl [])] []=some (.nils,[]):=by
 rw[aD rfl Tryz.func93 rfl rfl];simp
theorem cB {l:List Int} (h:l≠[]) (hl:l.length<1000000000):aI C0 93 [.i (.isl (aF l))] []=some (.osl 0 1 0 l.length,[some (.arr 1 (aF l))]):=by
 rw[aD rfl Tryz.func93 rfl rfl];have h1:8*(l.length:Int)≤281474976710656:=by omega
 simp[h,h1];unfold over;simp
end Go.Proofs.YtjdfjgmebalaaaaGreat.P
namespace Go.Av
def RQ (l:List Int) (n:Int):List Int:=if l[l.findIdx fun x=>!decide (x<n)]?=some n then l else l.take (l.findIdx fun x=>!decide (x<n))++n::l.drop (l.findIdx fun x=>!decide (x<n))
mutual
def MK:List Int→Ex→List Int
 | l, .mk k c _ ks=>l5 (if k=1 then RQ l c else l) ks
def l5:List Int→List Ex→List Int
 | l,[]=>l
 | l,e::es=>l5 (MK l e) es
end
theorem TJ (l:List Int) (e:Ex):MK l e=l5 (if e.kind=1 then RQ l e.col else l) e.kids:=by
 cases e;simp only[MK,Ex.kind,Ex.col,Ex.kids];congr
theorem BA:∀ (ks:List Ex) (l:List Int) (e:Ex),l5 l (ks++[e])=MK (l5 l ks) e
 | [],l,e=>by simp[l5]
 | a::ks,l,e=>by simp[l5,BA ks]
theorem AFG {l:List Int} {n x:Int}:x∈RQ l n↔x∈l∨x=n:=by
 unfold RQ;split
 ·rename_i h;constructor
  ·exact .inl
  ·rintro(h1|rfl)
   ·exact h1
   ·exact zV h
 ·have e:l.take (l.findIdx fun x=>!decide (x<n))++l.drop (l.findIdx fun x=>!decide (x<n))=l:=yO _ _;generalize l.findIdx (fun x=>!decide (x<n))=k at *
  constructor
  ·intro h
   rcases zU.1 h with h|h
   ·exact .inl (zG h)
   ·rcases zR.1 h with h|h
    ·exact .inr h
    ·exact .inl (yN h)
  ·rintro(h|rfl)
   ·rw[← e]at h
    rcases zU.1 h with h|h
    ·exact zU.2 (.inl h)
    ·exact zU.2 (.inr (zR.2 (.inr h)))
   ·exact zU.2 (.inr (zR.2 (.inl rfl)))
def Asc (l:List Int):Prop:=l.Pairwise (· < ·)
theorem AFH {l:List Int} {n:Int} (h:Asc l):Asc (RQ l n):=by
 unfold RQ;split
 ·exact h
 ·rename_i hne;have e:l.take (l.findIdx fun x=>!decide (x<n))++l.drop (l.findIdx fun x=>!decide (x<n))=l:=yO _ _
  have hlt:∀ x∈l.take (l.findIdx fun x=>!decide (x<n)),x<n:=by
   intro x hx;obtain⟨i,hi⟩:=List.mem_iff_getElem?.1 hx;rw[zF]at hi;split at hi
   ·rename_i hk;have:=List.not_of_lt_findIdx hk;rw[zX (by have:=zC1 (xs:=l) (p:=fun x=>!decide (x<n));omega)]at hi;injection hi with hi;rw[hi]at this;simpa using this
   ·cases hi
  have hge:∀ x∈l.drop (l.findIdx fun x=>!decide (x<n)),n<x:=by
   intro x hx
   rcases zC5 (l.findIdx fun x=>!decide (x<n)) l.length with hk|hk
   ·have h1:=List.findIdx_getElem (w:=hk);have hd:=xH hk;have hn:l[l.findIdx fun x=>!decide (x<n)]≠n:=fun e=>hne (by rw[zX hk,e])
    rw[hd]at hx;have hs:Asc (l.drop (l.findIdx fun x=>!decide (x<n))):=List.Pairwise.sublist (List.drop_sublist _ _) h;rw[hd]at hs;have hs:=List.pairwise_cons.1 hs;simp at h1
    rcases zR.1 hx with rfl|hx
    ·omega
    ·have:=hs.1 x hx;omega
   ·rw[List.drop_eq_nil_of_le hk]at hx;cases hx
  generalize l.findIdx (fun x=>!decide (x<n))=k at *
  rw[← e]at h;unfold Asc at *
  rw[List.pairwise_append]at h ⊢;refine⟨h.1,List.pairwise_cons.2 ⟨hge,h.2.1⟩,?_⟩;intro a ha b hb
  rcases zR.1 hb with rfl|hb
  ·exact hlt a ha
  ·exact h.2.2 a ha b hb
theorem AGF:∀ (e:Ex) (l:List Int),Asc l→Asc (MK l e):=by
 intro e
 induction e using Ex.ind with
 | h k c v ks ih =>
  intro l hl;rw[TJ]
  have:∀ (xs:List Ex) (l:List Int),(∀ e∈xs,∀ l,Asc l→Asc (MK l e))→Asc l→Asc (l5 l xs):=by
   intro xs
   induction xs with
   | nil=>intro l _ h;simpa [l5]using h
   | cons a xs ihx=>intro l h1 h2;exact ihx _ (fun e he=>h1 e (by simp[he])) (h1 a (by simp) l h2)
  refine this _ _ (fun e he=>ih e (by simpa [Ex.kids]using he)) ?_;split
  ·exact AFH hl
  ·exact hl
theorem AGG {m:Int} (P:Int→Bool):∀ (e:Ex) (l:List Int),e.wf m=true→((∀ x∈MK l e,P x=true)↔(∀ x∈l,P x=true)∧e.sJ P=true):=by
 intro e
 induction e using Ex.ind with
 | h k c v ks ih =>
  intro l hw;rw[TJ,Ex.kQ]
  have:∀ (xs:List Ex) (l:List Int),(∀ e∈xs,e∈ks)→((∀ x∈l5 l xs,P x=true)↔(∀ x∈l,P x=true)∧xs.all (Ex.sJ P)=true):=by
   intro xs
   induction xs with
   | nil=>intro l _;simp[l5]
   | cons a xs ihx =>
    intro l h1;have ha:=h1 a (by simp);simp only[l5,List.all_cons,zT];rw[ihx _ fun e he=>h1 e (by simp[he]),ih a ha l (Ex.mU hw (by simpa [Ex.kids]using ha))];exact and_assoc
  simp only[Ex.kind,Ex.col,Ex.kids];rw[this ks _ fun e he=>he];by_cases h1:k=1
  ·have hk:=(Ex.sM hw (by simpa [Ex.kind]using h1)).2.2;simp only[Ex.kids]at hk;subst hk;simp only[h1,if_true,AFG];simp;constructor
   ·intro h;exact⟨fun x hx=>h x (.inl hx),h c (.inr rfl)⟩
   ·rintro⟨h2,h3⟩ x (hx|rfl)
    ·exact h2 x hx
    ·exact h3
  ·simp only[h1,if_false]
theorem ACO {l:List Int} (h:Asc l) (lo hi:Int):(∀ x∈l,lo≤x∧x≤hi)↔(l=[]∨(∃ a,l[0]?=some a∧lo≤a)∧(∃ b,l[l.length-1]?=some b∧b≤hi)):=by
 constructor
 ·intro hall
  cases hl:l with
  | nil=>exact .inl rfl
  | cons a r =>
   right;rw[← hl];have h0:l[0]?=some a:=by rw[hl];rfl
   have hk:l.length-1<l.length:=by rw[hl];simp
   exact⟨⟨a,h0,(hall a (zV h0)).1⟩,⟨l[l.length-1],zX hk,(hall _ (xN hk)).2⟩⟩
 ·rintro(rfl|⟨⟨a,h0,h1⟩,b,h2,h3⟩) x hx
  ·cases hx
  ·obtain⟨i,hi⟩:=List.mem_iff_getElem?.1 hx
   have hil:=(zY.1 hi)
   have h0l:=(zY.1 h0)
   have h2l:=(zY.1 h2)
   obtain⟨p1,rfl⟩:=hil;obtain⟨p2,rfl⟩:=h0l;obtain⟨p3,rfl⟩:=h2l;have hp:=List.pairwise_iff_getElem.1 h;constructor
   ·by_cases hz:i=0
    ·subst hz;exact h1
    ·have:=hp 0 i p2 p1 (by omega);omega
   ·by_cases hz:i=l.length-1
    ·subst hz;exact h3
    ·have:=hp i (l.length-1) p1 p3 (by omega);omega
end Go.Av
namespace Go.Proofs.YtjdfjgmebalaaaaGreat.P
open Go Go.Av
set_option maxRecDepth 4000
set_option maxHeartbeats 2000000
theorem AAV {a:Nat} (ha:a<64):a % 2 ^ IntKind.i64.bits=a:=by
 show a % 18446744073709551616=a;exact Nat.mod_eq_of_lt (by omega)
theorem AJR {a:Nat} (ha:a<64):(a:Int) % 2 ^ IntKind.i64.bits=a:=by
 show(a:Int) % 18446744073709551616=a;omega
theorem AEX {a b:Nat} (ha:a<64) (hb:b<64):IntKind.i64.wrap ((a ||| b:Nat):Int)=((a ||| b:Nat):Int):=by
 have h3:a ||| b<2 ^ 6:=xK (by omega) (by omega)
 exact wrO
theorem ADR {a:Nat} (ha:a<64):IntKind.i64.wrap (a:Int)=a:=wrO
def KBX (e:Ex) (i:Nat):AS :=
 { env:=[(0, .i (.iref [.int e.kind, .int e.col, .bool e.val.null, .int e.val.n, .isl (Ex.aB e.kids)])),(2, .int 0),(3, .int (Ex.pG (e.kids.take i):Nat)),(4,jk i (.int (i-1))),(9, .bool false),(19, .int e.kids.length),(20, .int i),(21,jk i (.bool true))],st:=[] }
theorem KF:∀ e:Ex,e.size<1000000000→e.sJ (fun c=>decide (0≤c∧c<6))=true→aI C0 151 [.i (.iref e.cells)] []=some (.int (e.bits:Nat),[]):=by
 intro e
 induction e using Ex.ind with
 | h k c v ks ih =>
  intro hs ha;generalize he:Ex.mk k c v ks=e at *
  have hk1:k=e.kind:=by rw[← he];rfl
  have hks:ks=e.kids:=by rw[← he];rfl
  subst hks;have hsz:=Ex.size_eq e;have hln:=Ex.bM e.kids;rw[aD rfl Tryz.func151 rfl rfl,Ex.aA];rw[Ex.kQ]at ha;by_cases h1:e.kind=1
  ·simp only[h1,if_true]at ha;have ha:=zS ha;rw[Ex.MH h1];have hc:e.col=0∨e.col=1∨e.col=2∨e.col=3∨e.col=4∨e.col=5:=by omega
   rcases hc with hc|hc|hc|hc|hc|hc<;>(simp[h1,hc];decide)
  ·simp only[h1,if_false,zO]at ha;rw[Ex.ME h1];simp[h1];rw[aS (KBX e) e.kids.length (by simp[KBX,Ex.pG,h1])]
   ·rw[aG];simp[KBX]
   ·intro i hi;have h3:=zX hi;have hm:=zV h3;have r2:=Ex.aN h3;have htk:=aJ h3;generalize e.kids[i]=a at h3 hm r2 htk;have hk:=ih a hm (by have:=Ex.gT hm;omega) (ha a hm);have w2:IntKind.i64.wrap ((i:Int)+1)=i+1:=wrO;have hb:a.bits<2 ^ 6:=Ex.MF a (ha a hm);have hbl:Ex.pG (e.kids.take i)<2 ^ 6:=Ex.MI fun x hx=>Ex.MF x (ha x (zG hx))
    have hor:=AEX (a:=Ex.pG (e.kids.take i)) (b:=a.bits) (by omega) (by omega);rw[Ex.aA a]at r2 hk;by_cases h0:i=0
    ·subst h0;simp[KBX,hi,r2,hk,dE,htk,Ex.AX,Ex.pG,AJR (show a.bits<64 by omega),ADR (show a.bits<64 by omega)]
    ·simp[KBX,bY h0,hi,r2,hk,w2,htk,Ex.AX,hor,AAV (show a.bits<64 by omega),AAV (show Ex.pG (e.kids.take i)<64 by omega)]
def ANX (l:List Int) (n:Int) (i:Nat):AS :=
 { env:=[(0, .i (.isl (aF l))),(1, .int n),(4, .nils),(5, .int i),(6, .junk),(18,jk i (.bool true)),(32, .junk)],st:=[] }
theorem QD (l:List Int) (n:Int) (hl:l.length<1000000):aI C0 202 [.i (.isl (aF l)), .int n] []=some (.i (.isl (aF (RQ l n))),[]):=by
 rw[aD rfl Tryz.func202 rfl rfl]
 have hlt:∀ i,i<l.findIdx (fun x=>!decide (x<n))→∃ x,l[i]?=some x∧x<n:=by
  intro i hi;have hle:=zC1 (xs:=l) (p:=fun x=>!decide (x<n));have:=List.not_of_lt_findIdx hi;exact⟨l[i]'(by omega),zX (by omega),by simpa using this⟩
 have hat:∀ x,l[l.findIdx fun x=>!decide (x<n)]?=some x→¬ x<n:=by
  intro x hx;obtain⟨h1,rfl⟩:=zY.1 hx;have:=List.findIdx_getElem (w:=h1);simpa using this
 have hle:=zC1 (xs:=l) (p:=fun x=>!decide (x<n));unfold RQ;generalize l.findIdx (fun x=>!decide (x<n))=j at *
 simp;rw[aS (ANX l n) j (by simp[ANX])]
 ·rw[aG]
  cases hj:l[j]? with
  | none =>
   have hjl:j=l.length:=by have:=xE.1 hj;omega
   subst hjl;have hb:((l.length:Int)+1)*8≤140737488355328:=by omega
   have hb1:(l.length+1)*8≤140737488355328:=by omega
   have hb2:l.length*8≤140737488355328:=by omega
   have ht:List.take (l.length+1) (aF l++[[IV.lit (Value.int IntKind.i64 n)]])=aF l++[[IV.lit (Value.int IntKind.i64 n)]]:=zZ (by simp);simp[ANX,hb1,hb2,bC,aF,ht]
  | some x =>
   have hx:=hat x hj;have hjl:=(zY.1 hj).1;have r2:=bH hj;by_cases hxn:x=n
   ·subst hxn;simp[ANX,hjl,r2]
   ·have hb1:(j+1)*8≤140737488355328:=by omega
    have hb2:j*8≤140737488355328:=by omega
    have hb3:(j+1+(l.length-j))*8≤140737488355328:=by omega
    have t1:(l.take j).length=j:=by simp;omega
    have t2:(aF (l.take j)++[[IV.lit (Value.int IntKind.i64 n)]]).take (j+1)=aF (l.take j)++[[IV.lit (Value.int IntKind.i64 n)]]:=zZ (by simp;omega);have t3:(l.drop j).take (l.length-j)=l.drop j:=zZ (by simp);have t4:(aF (l.take j)++[[IV.lit (Value.int IntKind.i64 n)]]++aF (l.drop j)).take (j+1+(l.length-j))=aF (l.take j)++[[IV.lit (Value.int IntKind.i64 n)]]++aF (l.drop j):=zZ (by simp;omega);have t5:(l.take j).take j=l.take j:=zZ (by omega);simp[ANX,hjl,hle,r2,hx,hxn,hb1,hb2,hb3,bC,aF];rw[t5,t2,t3,t4];simp
 ·intro i hi;obtain⟨x,h3,hx⟩:=hlt i hi;have r2:=bH h3;have hil:=(zY.1 h3).1;have w2:IntKind.i64.wrap ((i:Int)+1)=i+1:=wrO;simp[ANX,hil,r2,hx,w2]
end Go.Proofs.YtjdfjgmebalaaaaGreat.P
namespace Go.Av
theorem Ex.AIB {w w':Int} (h:w≤w'):∀ e:Ex,e.wf w=true→e.wf w'=true:=by
 intro e
 induction e using Ex.ind with
 | h k c v ks ih =>
  intro hw;rw[Ex.N8]at hw ⊢;simp only[zT]at hw ⊢;refine⟨hw.1,?_,?_⟩
  ·have h2:=hw.2.1;unfold Ex.headOk at h2 ⊢;split at h2
   ·rename_i h1;rw[if_pos h1];simp only[zT,zL]at h2 ⊢;exact⟨h2.1,by omega,h2.2.2⟩
   ·rename_i h1;rw[if_neg h1];exact h2
  ·rw[zO]at *
   exact fun x hx=>ih x hx (hw.2.2 x hx)
theorem Ex.D8 {w:Int} {e:Ex} (h:e.ok w=true):e.wf w=true∧1≤w∧w≤6:=by
 unfold Ex.ok bJ at h;rw[Ex.NG]at h;simp only[zT,zL]at h;exact⟨h.2.1,h.1.1,h.1.2⟩
theorem Ex.AAL {w:Int} {e:Ex} (h:e.ok w=true):e.wf 6=true:=Ex.AIB (Ex.D8 h).2.2 e (Ex.D8 h).1
theorem Ex.TN {e:Ex} (h:e.wf 6=true):e.sJ (fun c=>decide (0≤c∧c<6))=true:=Ex.KQ e h
theorem Ex.ADT {w:Int} {e:Ex} (h:e.wf w=true):e.sJ (fun c=>decide (0≤c))=true:=Ex.nZ (fun c hc=>by simp only[zL]at hc ⊢;exact hc.1) e (Ex.KQ e h)
theorem Ex.VM {f g:Int→Bool}:∀ e:Ex,e.sJ f=true→e.sJ g=true→e.sJ (fun c=>f c && g c)=true:=by
 intro e
 induction e using Ex.ind with
 | h k c v ks ih =>
  intro h1 h2;rw[Ex.kQ]at *
  by_cases hk:k=1
  ·subst hk;simp only[Ex.kind,Ex.col,if_true]at h1 h2 ⊢;simp[h1,h2]
  ·simp only[Ex.kind,Ex.kids,hk,if_false,zO]at h1 h2 ⊢;exact fun x hx=>ih x hx (h1 x hx) (h2 x hx)
theorem AG2 {e:Ex} {m:Int} (h:e.wf m=true) (lo hi:Int):(MK [] e=[]∨(∃ a,(MK [] e)[0]?=some a∧lo≤a)∧(∃ b,(MK [] e)[(MK [] e).length-1]?=some b∧b≤hi-1))↔e.cin lo hi=true:=by
 rw[← ACO (AGF e [] List.Pairwise.nil)];have:=AGG (fun x=>decide (lo≤x∧x<hi)) e [] h;unfold Ex.cin;constructor
 ·intro h1;exact(this.1 fun x hx=>by have:=h1 x hx;simp only[zL];omega).2
 ·intro h1 x hx;have:=this.2 ⟨by simp,h1⟩ x hx;simp only[zL]at this;omega
theorem QE:∀ (e:Ex) (l:List Int),(MK l e).length≤l.length+e.size:=by
 intro e
 induction e using Ex.ind with
 | h k c v ks ih =>
  intro l;have hm:MK l (.mk k c v ks)=l5 (if k=1 then RQ l c else l) ks:=by simp[MK]
  have hz:(Ex.mk k c v ks).size=1+Ex.aQ ks:=by simp[Ex.size]
  rw[hm,hz]
  have:∀ (xs:List Ex) (l:List Int),(∀ x∈xs,x∈ks)→(l5 l xs).length≤l.length+Ex.aQ xs:=by
   intro xs
   induction xs with
   | nil=>intro l _;simp[l5]
   | cons a xs ihx =>
    intro l h;have h1:=ihx (MK l a) fun x hx=>h x (by simp[hx])
    have h2:=ih a (h a (by simp)) l;simp only[l5,Ex.aQ];omega
  have h2:(RQ l c).length≤l.length+1:=by
   unfold RQ;split
   ·omega
   ·simp only[zQ,yA,zM,xC];omega
  by_cases h1:k=1
  ·rw[if_pos h1];have:=this ks (RQ l c) fun x hx=>hx
   omega
  ·rw[if_neg h1];have:=this ks l fun x hx=>hx
   omega
def okS (a:Int):Prop:=1≤a∧a≤7
theorem AG0:∀ a b:Fin 8,a.val≠0→b.val≠0→(1≤kR 8 a.val b.val∧kR 8 a.val b.val≤7)∧(1≤kR 9 a.val b.val∧kR 9 a.val b.val≤7)∧(1≤kR 3 a.val b.val∧kR 3 a.val b.val≤7)∧(1≤kR 6 a.val b.val∧kR 6 a.val b.val≤7):=by decide
theorem AKT {k a b:Int} (ha:okS a) (hb:okS b):okS (kR k a b):=by
 obtain⟨a,rfl⟩:=yS (show 0≤a by have:=ha.1;omega);obtain⟨b,rfl⟩:=yS (show 0≤b by have:=hb.1;omega);have h:=AG0 ⟨a,by have:=ha.2;omega⟩ ⟨b,by have:=hb.2;omega⟩ (by have:=ha.1;simp;omega) (by have:=hb.1;simp;omega);unfold okS;by_cases h8:k=8
 ·subst h8;exact h.1
 ·by_cases h9:k=9
  ·subst h9;exact h.2.1
  ·by_cases h6:k<6
   ·have e:kR k a b=kR 3 a b:=by simp[kR,h8,h9,h6]
    rw[e];exact h.2.2.1
   ·have e:kR k a b=kR 6 a b:=by simp[kR,h8,h9,h6]
    rw[e];exact h.2.2.2
theorem AEY:∀ a:Fin 8,a.val≠0→(1≤AQF a.val∧AQF a.val≤7)∧(1≤AQE a.val∧AQE a.val≤7):=by decide
theorem ANE (v:Val):okS (stV v):=by
 unfold stV okS;split
 ·omega
 ·split<;>omega
theorem RD (st:List Int) (e:Ex):IK st e=if e.kind=1 then(st[e.col.toNat]?).getD 0 else if e.kind=2 then stV e.val else if e.kind=10 then AQF ((e.kids[0]?.map (IK st)).getD 0)else if e.kind=11 then AQE ((e.kids[0]?.map (IK st)).getD 0)else kR e.kind ((e.kids[0]?.map (IK st)).getD 0) ((e.kids[1]?.map (IK st)).getD 0):=by
 cases e
 simp only[IK,OD,Ex.kind,Ex.col,Ex.val,Ex.kids,zB6];congr
end Go.Av
namespace Go.Proofs.YtjdfjgmebalaaaaGreat.P
open Go Go.Av
set_option maxRecDepth 4000
set_option maxHeartbeats 4000000
@[simp] theorem wr0:IntKind.i64.wrap 0=0:=by decide
@[simp] theorem wr1:IntKind.i64.wrap 1=1:=by decide
@[simp] theorem wr2:IntKind.i64.wrap 2=2:=by decide
@[simp] theorem wr3:IntKind.i64.wrap 3=3:=by decide
@[simp] theorem wr4:IntKind.i64.wrap 4=4:=by decide
@[simp] theorem wr7:IntKind.i64.wrap 7=7:=by decide
@[simp] theorem AcN:(2:Nat) ^ IntKind.i64.bits=18446744073709551616:=rfl
@[simp] theorem AcO:(2:Int) ^ IntKind.i64.bits=18446744073709551616:=rfl
def ACX (e:Ex) (l:List Int) (i:Nat):AS :=
 { env:=[(0, .i (.isl (aF (l5 l (e.kids.take i))))),(1, .i (.agg [.int e.kind, .int e.col, .bool e.val.null, .int e.val.n, .isl (Ex.aB e.kids)])),(3, .own 0 0),(4, .nils),(5, .int i),(8, .bool (e.kind == 1)),(17,jk i (.bool true))],
   st:=[some (.box [.int e.kind, .int e.col, .bool e.val.null, .int e.val.n, .i (.isl (Ex.aB e.kids))])] }
theorem MJ:∀ e:Ex,∀ l:List Int,l.length+e.size<1000000→aI C0 189 [.i (.isl (aF l)), .i (.agg e.cells)] []=some (.i (.isl (aF (MK l e))),[]):=by
 intro e
 induction e using Ex.ind with
 | h k c v ks ih =>
  intro l hs;generalize he:Ex.mk k c v ks=e at *
  have hks:ks=e.kids:=by rw[← he];rfl
  subst hks;have hsz:=Ex.size_eq e;have hln:=Ex.bM e.kids
  have hrd:∀ l':List Int,l'.length≤l.length+1→∀ i,i<e.kids.length→∃ a,e.kids[i]?=some a∧e.kids.take (i+1)=e.kids.take i++[a]∧fJ (Ex.aB e.kids) i=some a.cells∧aI C0 189 [.i (.isl (aF (l5 l' (e.kids.take i)))), .i (.agg a.cells)] []=some (.i (.isl (aF (MK (l5 l' (e.kids.take i)) a))),[]):=by
   intro l' hl' i hi;have h3:=zX hi;have hm:=zV h3;have htk:=aJ h3;refine⟨e.kids[i],h3,htk,Ex.aN h3,ih _ hm _ ?_⟩
   have hadd:∀ (xs:List Ex) (l:List Int),(l5 l xs).length≤l.length+Ex.aQ xs:=by
    intro xs
    induction xs with
    | nil=>intro l;simp[l5]
    | cons a xs ihx=>intro l;have h1:=ihx (MK l a);have h2:=QE a l;simp only[l5,Ex.aQ];omega
   have h1:=hadd (e.kids.take i) l'
   have hsum:∀ (xs ys:List Ex),Ex.aQ (xs++ys)=Ex.aQ xs+Ex.aQ ys:=by
    intro xs
    induction xs with
    | nil=>intro ys;simp[Ex.aQ]
    | cons a xs ihx=>intro ys;simp[Ex.aQ,ihx,zP]
   have h2:=hsum (e.kids.take (i+1)) (e.kids.drop (i+1));rw[yO,htk,hsum]at h2;simp only[Ex.aQ]at h2;omega
  rw[aD rfl Tryz.func189 rfl rfl,Ex.aA,TJ];by_cases h1:e.kind=1
  ·have hn:=QD l e.col (by omega)
   have hil:(RQ l e.col).length≤l.length+1:=by
    unfold RQ;split
    ·omega
    ·simp only[zQ,yA,zM,xC];omega
   simp[h1,hn];rw[aS (ACX e (RQ l e.col)) e.kids.length (by simp[ACX,l5,h1])]
   ·rw[aG];simp[ACX]
   ·intro i hi;obtain⟨a,h3,htk,r2,hk⟩:=hrd _ hil i hi;have w2:IntKind.i64.wrap ((i:Int)+1)=i+1:=wrO;rw[Ex.aA a]at r2 hk;simp[ACX,hi,r2,hk,w2,htk,BA]
  ·simp[h1];rw[aS (ACX e l) e.kids.length (by simp[ACX,l5,h1])]
   ·rw[aG];simp[ACX]
   ·intro i hi;obtain⟨a,h3,htk,r2,hk⟩:=hrd l (by omega) i hi;have w2:IntKind.i64.wrap ((i:Int)+1)=i+1:=wrO;rw[Ex.aA a]at r2 hk;simp[ACX,hi,r2,hk,w2,htk,BA]
theorem MZ (e:Ex) {m:Int} (hw:e.wf m=true) (hs:e.size<100000) (lo hi:Int) (hh:-100≤hi∧hi≤100):aI C0 168 [.i (.agg e.cells), .int lo, .int (hi-1)] []=some (.bool (e.cin lo hi),[]):=by
 have ha:=MJ e [] (by simp;omega);have hc:=AG2 hw lo hi;have hsz:=QE e [];rw[aD rfl Tryz.func168 rfl rfl];generalize MK [] e=l at *
 rw[Ex.aA]at *
 simp only[aF]at ha
 cases hl:l with
 | nil =>
  have:e.cin lo hi=true:=hc.1 (.inl hl);rw[hl]at ha;simp[ha,this,aF]
 | cons a r =>
  have h0:l[0]?=some a:=by rw[hl];rfl
  have hlen:0<l.length:=by rw[hl];simp
  have hk:l.length-1<l.length:=by omega
  have h2:=zX hk;generalize l[l.length-1]=b at h2;have r0:=bH h0;have r2:=bH h2;have w1:IntKind.i64.wrap ((l.length:Int)-1)=((l.length-1:Nat):Int):=by rw[wrap64 (by simp at hsz;omega) (by simp at hsz;omega)];omega
  have hne:¬ l=[]:=by rw[hl];simp
  have hiff:e.cin lo hi=(decide (lo≤a) && decide (b≤hi-1)):=by
   rw[zA5,← hc];simp only[zT,zL];constructor
   ·rintro(h|⟨⟨x,hx,h3⟩,y,hy,h4⟩)
    ·exact absurd h hne
    ·rw[h0]at hx;rw[h2]at hy;injection hx with hx;injection hy with hy;subst hx;subst hy;exact⟨h3,h4⟩
   ·rintro⟨h3,h4⟩;exact .inr ⟨⟨a,h0,h3⟩,b,h2,h4⟩
  rw[hiff];by_cases q:lo≤a
  ·have q2:a ≥ lo:=q;simp[ha,hne,r0,r2,w1,hlen,hk,q]
  ·simp[ha,hne,r0,hlen,q]
theorem kF (b:Bool) (n:Int):aI C0 196 [.i (.agg [.bool b, .int n])] []=some (.int (stV ⟨b,n⟩),[]):=by
 rw[aD rfl Tryz.func196 rfl rfl]
 cases b
 ·by_cases h:n=0<;>simp[stV,h]
 ·simp[stV]
theorem NR (b:Bool) (n:Int):aI C0 203 [.i (.agg [.bool b, .int n])] []=some (.int (stV ⟨b,n⟩),[]):=by
 rw[aD rfl Tryz.func203 rfl rfl]
 cases b
 ·by_cases h:n=0<;>simp[stV,h]
 ·simp[stV]
theorem WE (x:Int):aI C0 210 [.int x] []=some (.i (.agg [.bool (decide (x=4)), .int (if x=2 then 1 else 0)]),[]):=by
 rw[aD rfl Tryz.func210 rfl rfl];by_cases h:x=4
 ·subst h;simp
 ·by_cases h2:x=2
  ·subst h2;simp
  ·simp[h,h2]
theorem eight {a:Int} (h:0≤a∧a≤7):a=0∨a=1∨a=2∨a=3∨a=4∨a=5∨a=6∨a=7:=by omega
theorem GY {a:Int} (h:0≤a∧a≤7):aI C0 207 [.int a] []=some (.i (.isl (rZ (exS a))),[]):=by
 rw[aD rfl Tryz.func207 rfl rfl];have s0:=kF false 0;have s1:=kF false 1;have s2:=kF true 0;simp only[stV,yQ,if_false,if_true,Int.reduceEq]at s0 s1 s2
 rcases eight h with rfl|rfl|rfl|rfl|rfl|rfl|rfl|rfl
 all_goals
  simp;rw[aG];simp[s0,s1,s2];rw[aG];simp[s0,s1,s2];rw[aG];simp[s0,s1,s2];rw[aG];simp[exS,iX,rZ]
theorem aR (e:Ex) (k:Pn):(filt e k).cells=[.int 2, .int 0, .isl [e.cells], .isl [], .isl [k.cells]]:=by simp[filt,Pn.cells,Ex.aB,aF,Pn.aB]
theorem iG (es:List Ex) (k:Pn):(proj es k).cells=[.int 3, .int 0, .isl (Ex.aB es), .isl [], .isl [k.cells]]:=by simp[proj,Pn.cells,aF,Pn.aB]
theorem pair_cells (kd:Int) (e:Ex) (a b:Pn):(bB kd e a b).cells=[.int kd, .int 0, .isl [e.cells], .isl [], .isl [a.cells,b.cells]]:=by simp[bB,Pn.cells,Ex.aB,aF,Pn.aB]
theorem EK (a b:Pn):(dZ a b).cells=[.int 6, .int 0, .isl [], .isl [], .isl [a.cells,b.cells]]:=by simp[dZ,Pn.cells,Ex.aB,aF,Pn.aB]
theorem nY (a b:Ex):(VK a b).cells=[.int 8, .int 0, .bool false, .int 0, .isl [a.cells,b.cells]]:=by simp[VK,Ex.cells,Ex.aB,Val.zero]
theorem jQ (c:Int):(VD c).cells=[.int 1, .int c, .bool false, .int 0, .isl []]:=by simp[VD,Ex.cells,Ex.aB,Val.zero]
theorem aT:Pn.zero.cells=[.int 0, .int 0, .isl [], .isl [], .isl []]:=by simp[Pn.zero,Pn.cells,Ex.aB,aF,Pn.aB]
theorem dX (e:Ex) (k:Pn):aI C0 149 [.i (.agg e.cells), .i (.agg k.cells)] []=some (.i (.agg (filt e k).cells),[]):=by
 rw[aD rfl Tryz.func149 rfl rfl,aR,Ex.aA,Pn.aA];simp
theorem lL (kd:Int) (e:Ex) (a b:Pn):aI C0 152 [.int kd, .i (.agg e.cells), .i (.agg a.cells), .i (.agg b.cells)] []=some (.i (.agg (bB kd e a b).cells),[]):=by
 rw[aD rfl Tryz.func152 rfl rfl,pair_cells,Ex.aA,Pn.aA a,Pn.aA b];simp
theorem AC9 (a b:Ex):aI C0 150 [.i (.agg a.cells), .i (.agg b.cells)] []=some (.i (.agg (VK a b).cells),[]):=by
 rw[aD rfl Tryz.func150 rfl rfl,nY,Ex.aA a,Ex.aA b];simp
theorem AJ (c:Int):aI C0 156 [.int c] []=some (.i (.agg (VD c).cells),[]):=by
 rw[aD rfl Tryz.func156 rfl rfl,jQ];simp
theorem eX {p:Pn} {kd:Int} (h:p.kind≠2):aI C0 148 [.i (.iref p.cells), .int kd] []=some (.tup [.i (.lit (.pointer none)), .i (.lit (.pointer none)), .bool false],[]):=by
 rw[aD rfl Tryz.func148 rfl rfl,Pn.aA];simp[h]
theorem dJ {e:Ex} {k:Pn} {kd:Int} (h:k.kind≠kd):aI C0 148 [.i (.iref (filt e k).cells), .int kd] []=some (.tup [.i (.lit (.pointer none)), .i (.lit (.pointer none)), .bool false],[]):=by
 rw[aD rfl Tryz.func148 rfl rfl,aR,Pn.aA k];simp[h]
theorem fA {e:Ex} {k:Pn} {kd:Int} (h:k.kind=kd):aI C0 148 [.i (.iref (filt e k).cells), .int kd] []=some (.tup [.i (.iref e.cells), .i (.iref k.cells), .bool true],[]):=by
 rw[aD rfl Tryz.func148 rfl rfl,aR,Pn.aA k,Ex.aA e];simp[h]
theorem RB (c w:Int) (h0:0≤c∧c≤6) (hw:0≤w∧w≤6):aI C0 154 [.int c, .own 0 0] [some (.box [.int w])]=some (.int (c-w),[some (.box [.int w])]):=by
 rw[aD rfl Tryz.func154 rfl rfl];have w1:IntKind.i64.wrap (c-w)=c-w:=wrO;simp[w1]
theorem JI (c a b:Int) (h0:0≤c∧c≤12) (ha:0≤a∧a≤6) (hb:0≤b∧b≤6):aI C0 155 [.int c, .own 0 0, .own 1 0] [some (.box [.int a]),some (.box [.int b])]=some (.int (oG a b c),[some (.box [.int a]),some (.box [.int b])]):=by
 rw[aD rfl Tryz.func155 rfl rfl];have w1:IntKind.i64.wrap (c-a)=c-a:=wrO;have w2:IntKind.i64.wrap (c+b)=c+b:=wrO;unfold oG;by_cases h:c<a
 ·simp[h,w2]
 ·simp[h,w1]
def zrw:List IV:=[.int 0, .int 0, .bool false, .int 0, .isl []]
@[simp] theorem AC3 {e:Ex} (h:e.size<1000000000):aI C0 92 [.i (.iref e.cells)] []=some (.i (.agg e.cells),[]):=by
  rw[bK (p:=HV) rfl];exact V9 h
theorem AA8 {e:Ex} {w:Int} (hw:0≤w∧w≤6) (hk:e.kind=1) (hc:0≤e.col∧e.col<6) :
 aI C0 177 [.i (.iref e.cells), .own 0 0] [some (.box [.fn (.func 154) [.own 1 0]]),some (.box [.int w])]=some (.i (.agg (VD (e.col-w)).cells),[some (.box [.fn (.func 154) [.own 1 0]]),some (.box [.int w])]):=by
 have hp:=RB e.col w (by omega) hw;have h2:=AJ (e.col-w);rw[aD rfl Tryz.func177 rfl rfl,Ex.aA e];rw[jQ]at *
 simp[hk,hp,h2]
theorem AA6 {e:Ex} {w:Int} (hk:e.kind≠1) (hs:e.size<1000000000) :
 aI C0 177 [.i (.iref e.cells), .own 0 0] [some (.box [.fn (.func 154) [.own 1 0]]),some (.box [.int w])]=some (.i (.agg e.cells),[some (.box [.fn (.func 154) [.own 1 0]]),some (.box [.int w])]):=by
 have hc:=AC3 hs;rw[aD rfl Tryz.func177 rfl rfl];rw[Ex.aA e]at *
 simp[hk,hc]
def RNR (e:Ex) (w:Int) (f:Ex→Ex) (i:Nat):AS :=
 { env:=[(0, .i (.iref [.int e.kind, .int e.col, .bool e.val.null, .int e.val.n, .isl (Ex.aB e.kids)])),(1, .fn (.func 177) [.own 0 0]),(4, .own 2 0),(5, .own 3 0),(6,jk i (.int (i-1))),(12, .bool ((e.kids.length:Int) == 0)),(39, .int e.kids.length),(40, .int i),(41,jk i (.bool true))],
   st:=[some (.box [.fn (.func 154) [.own 1 0]]),some (.box [.int w]),some (.box [.int 0, .int 0, .bool false, .int 0, .nils]),some (.box [.int e.kind, .int e.col, .bool e.val.null, .int e.val.n, .osl 4 5 0 e.kids.length]),some (.arr 5 (Ex.aB ((e.kids.map f).take i)++List.replicate (e.kids.length-i) zrw))] }
theorem ARL {e:Ex} {w:Int} {f:Ex→Ex} (hk:e.kids≠[]) (hl:e.kids.length<1000000000) (ih:∀ x∈e.kids,aI C0 176 [.i (.iref x.cells), .fn (.func 177) [.own 0 0]] [some (.box [.fn (.func 154) [.own 1 0]]),some (.box [.int w])]=some (.i (.agg (f x).cells),[some (.box [.fn (.func 154) [.own 1 0]]),some (.box [.int w])])) :
 aI C0 176 [.i (.iref e.cells), .fn (.func 177) [.own 0 0]] [some (.box [.fn (.func 154) [.own 1 0]]),some (.box [.int w])]=some (.i (.agg (Ex.mk e.kind e.col e.val (e.kids.map f)).cells),[some (.box [.fn (.func 154) [.own 1 0]]),some (.box [.int w])]):=by
 rw[aD rfl Tryz.func176 rfl rfl,Ex.aA];have hb:56*(e.kids.length:Int)≤281474976710656:=by omega
 simp[hk,hb];rw[aS (RNR e w f) e.kids.length (by simp[RNR,Ex.aB,zrw])]
 ·rw[aG];have ht:(e.kids.map f).take e.kids.length=e.kids.map f:=zZ (by simp);simp[RNR,Ex.cells,ht]
 ·intro i hi;have h3:=zX hi;have hm:=zV h3;have hc:=ih _ hm;have r2:=Ex.aN h3;generalize e.kids[i]=x at h3 hc r2;have w2:IntKind.i64.wrap ((i:Int)+1)=i+1:=wrO;rw[Ex.aA]at hc r2;have hD:(Ex.aB ((e.kids.map f).take i)).length=i:=by simp;omega
  have hS:Ex.aB ((e.kids.map f).take i)++[(f x).cells]=Ex.aB ((e.kids.map f).take (i+1)):=by rw[aJ (a:=f x) (by simp[h3]),Ex.aW]
  have g1:=rR (n:=e.kids.length) (z:=zrw) hD hi;have g2:=rQ (n:=e.kids.length) (z:=zrw) (x:=(f x).cells) hD hi;have g3:splice zrw 0 (f x).cells=some (f x).cells:=l7 (by simp[zrw]);rw[hS]at g2;simp[RNR,hi,r2,hc,w2,g1,g2,g3]
theorem AO6 {e x:Ex} {w:Int} (hk:e.kids=[]) (h:aI C0 177 [.i (.iref e.cells), .own 0 0] [some (.box [.fn (.func 154) [.own 1 0]]),some (.box [.int w])]=some (.i (.agg x.cells),[some (.box [.fn (.func 154) [.own 1 0]]),some (.box [.int w])])) :
 aI C0 176 [.i (.iref e.cells), .fn (.func 177) [.own 0 0]] [some (.box [.fn (.func 154) [.own 1 0]]),some (.box [.int w])]=some (.i (.agg x.cells),[some (.box [.fn (.func 154) [.own 1 0]]),some (.box [.int w])]):=by
 rw[aD rfl Tryz.func176 rfl rfl];rw[Ex.aA e]at h ⊢;rw[Ex.aA x]at h ⊢;simp[hk,Ex.aB]at h ⊢;simp[h]
theorem AA0 {w:Int} (hw:0≤w∧w≤6):∀ (e:Ex),e.wf 6=true→e.size<1000000000→aI C0 176 [.i (.iref e.cells), .fn (.func 177) [.own 0 0]] [some (.box [.fn (.func 154) [.own 1 0]]),some (.box [.int w])]=some (.i (.agg (e.u7 (·-w)).cells),[some (.box [.fn (.func 154) [.own 1 0]]),some (.box [.int w])]):=by
 intro e
 induction e using Ex.ind with
 | h k c v ks ih =>
  intro hx6 hs;have hsz:=Ex.size_eq (.mk k c v ks);have hln:=Ex.bM ks;simp only[Ex.kids]at hsz;by_cases h1:k=1
  ·have hc:=Ex.sM hx6 (by simpa [Ex.kind]using h1);rw[Ex.DX _ (by simpa [Ex.kind]using h1)];exact AO6 hc.2.2 (AA8 hw (by simpa [Ex.kind]using h1) ⟨hc.1,hc.2.1⟩)
  ·rw[Ex.DW _ (by simpa [Ex.kind]using h1)];by_cases hk:ks=[]
   ·subst hk;exact AO6 rfl (AA6 (by simpa [Ex.kind]using h1) hs)
   ·exact ARL hk (by simp only[Ex.kids];omega) fun x hx=>ih x hx (Ex.mU hx6 hx) (by have:=Ex.gT (l:=ks) hx;omega)
theorem R7 {w:Int} (hw:0≤w∧w≤6) (e:Ex) (hx6:e.wf 6=true) (hs:e.size<1000000000):aI C0 153 [.i (.iref e.cells), .fn (.func 154) [.own 0 0]] [some (.box [.int w])]=some (.i (.agg (e.u7 (·-w)).cells),[some (.box [.int w])]):=by
 have h:=AA0 hw e hx6 hs;rw[aD rfl Tryz.func153 rfl rfl];generalize e.u7 (·-w)=x at *
 rw[Ex.aA e,Ex.aA x]at *
 simp[h]
theorem AA7 {e:Ex} {a b:Int} (ha:0≤a∧a≤6) (hb:0≤b∧b≤6) (hk:e.kind=1) (hc:0≤e.col∧e.col<6) :
 aI C0 177 [.i (.iref e.cells), .own 0 0] [some (.box [.fn (.func 155) [.own 1 0, .own 2 0]]),some (.box [.int a]),some (.box [.int b])]=some (.i (.agg (VD (oG a b e.col)).cells),[some (.box [.fn (.func 155) [.own 1 0, .own 2 0]]),some (.box [.int a]),some (.box [.int b])]):=by
 have hp:=JI e.col a b (by omega) ha hb;have h2:=AJ (oG a b e.col);rw[aD rfl Tryz.func177 rfl rfl,Ex.aA e];rw[jQ]at *
 simp[hk,hp,h2]
theorem AA5 {e:Ex} {a b:Int} (hk:e.kind≠1) (hs:e.size<1000000000) :
 aI C0 177 [.i (.iref e.cells), .own 0 0] [some (.box [.fn (.func 155) [.own 1 0, .own 2 0]]),some (.box [.int a]),some (.box [.int b])]=some (.i (.agg e.cells),[some (.box [.fn (.func 155) [.own 1 0, .own 2 0]]),some (.box [.int a]),some (.box [.int b])]):=by
 have hc:=AC3 hs;rw[aD rfl Tryz.func177 rfl rfl];rw[Ex.aA e]at *
 simp[hk,hc]
def RNS (e:Ex) (a b:Int) (f:Ex→Ex) (i:Nat):AS :=
 { env:=[(0, .i (.iref [.int e.kind, .int e.col, .bool e.val.null, .int e.val.n, .isl (Ex.aB e.kids)])),(1, .fn (.func 177) [.own 0 0]),(4, .own 3 0),(5, .own 4 0),(6,jk i (.int (i-1))),(12, .bool ((e.kids.length:Int) == 0)),(39, .int e.kids.length),(40, .int i),(41,jk i (.bool true))],
   st:=[some (.box [.fn (.func 155) [.own 1 0, .own 2 0]]),some (.box [.int a]),some (.box [.int b]),some (.box [.int 0, .int 0, .bool false, .int 0, .nils]),some (.box [.int e.kind, .int e.col, .bool e.val.null, .int e.val.n, .osl 5 5 0 e.kids.length]),some (.arr 5 (Ex.aB ((e.kids.map f).take i)++List.replicate (e.kids.length-i) zrw))] }
theorem ARK {e:Ex} {a b:Int} {f:Ex→Ex} (hk:e.kids≠[]) (hl:e.kids.length<1000000000) (ih:∀ x∈e.kids,aI C0 176 [.i (.iref x.cells), .fn (.func 177) [.own 0 0]] [some (.box [.fn (.func 155) [.own 1 0, .own 2 0]]),some (.box [.int a]),some (.box [.int b])]=some (.i (.agg (f x).cells),[some (.box [.fn (.func 155) [.own 1 0, .own 2 0]]),some (.box [.int a]),some (.box [.int b])])) :
 aI C0 176 [.i (.iref e.cells), .fn (.func 177) [.own 0 0]] [some (.box [.fn (.func 155) [.own 1 0, .own 2 0]]),some (.box [.int a]),some (.box [.int b])]=some (.i (.agg (Ex.mk e.kind e.col e.val (e.kids.map f)).cells),[some (.box [.fn (.func 155) [.own 1 0, .own 2 0]]),some (.box [.int a]),some (.box [.int b])]):=by
 rw[aD rfl Tryz.func176 rfl rfl,Ex.aA];have hb:56*(e.kids.length:Int)≤281474976710656:=by omega
 simp[hk,hb];rw[aS (RNS e a b f) e.kids.length (by simp[RNS,Ex.aB,zrw])]
 ·rw[aG];have ht:(e.kids.map f).take e.kids.length=e.kids.map f:=zZ (by simp);simp[RNS,Ex.cells,ht]
 ·intro i hi;have h3:=zX hi;have hm:=zV h3;have hc:=ih _ hm;have r2:=Ex.aN h3;generalize e.kids[i]=x at h3 hc r2;have w2:IntKind.i64.wrap ((i:Int)+1)=i+1:=wrO;rw[Ex.aA]at hc r2;have hD:(Ex.aB ((e.kids.map f).take i)).length=i:=by simp;omega
  have hS:Ex.aB ((e.kids.map f).take i)++[(f x).cells]=Ex.aB ((e.kids.map f).take (i+1)):=by rw[aJ (a:=f x) (by simp[h3]),Ex.aW]
  have g1:=rR (n:=e.kids.length) (z:=zrw) hD hi;have g2:=rQ (n:=e.kids.length) (z:=zrw) (x:=(f x).cells) hD hi;have g3:splice zrw 0 (f x).cells=some (f x).cells:=l7 (by simp[zrw]);rw[hS]at g2;simp[RNS,hi,r2,hc,w2,g1,g2,g3]
theorem AO5 {e x:Ex} {a b:Int} (hk:e.kids=[]) (h:aI C0 177 [.i (.iref e.cells), .own 0 0] [some (.box [.fn (.func 155) [.own 1 0, .own 2 0]]),some (.box [.int a]),some (.box [.int b])]=some (.i (.agg x.cells),[some (.box [.fn (.func 155) [.own 1 0, .own 2 0]]),some (.box [.int a]),some (.box [.int b])])) :
 aI C0 176 [.i (.iref e.cells), .fn (.func 177) [.own 0 0]] [some (.box [.fn (.func 155) [.own 1 0, .own 2 0]]),some (.box [.int a]),some (.box [.int b])]=some (.i (.agg x.cells),[some (.box [.fn (.func 155) [.own 1 0, .own 2 0]]),some (.box [.int a]),some (.box [.int b])]):=by
 rw[aD rfl Tryz.func176 rfl rfl];rw[Ex.aA e]at h ⊢;rw[Ex.aA x]at h ⊢;simp[hk,Ex.aB]at h ⊢;simp[h]
theorem ZZ {a b:Int} (ha:0≤a∧a≤6) (hb:0≤b∧b≤6):∀ (e:Ex),e.wf 6=true→e.size<1000000000→aI C0 176 [.i (.iref e.cells), .fn (.func 177) [.own 0 0]] [some (.box [.fn (.func 155) [.own 1 0, .own 2 0]]),some (.box [.int a]),some (.box [.int b])]=some (.i (.agg (e.u7 (oG a b)).cells),[some (.box [.fn (.func 155) [.own 1 0, .own 2 0]]),some (.box [.int a]),some (.box [.int b])]):=by
 intro e
 induction e using Ex.ind with
 | h k c v ks ih =>
  intro hx6 hs;have hsz:=Ex.size_eq (.mk k c v ks);have hln:=Ex.bM ks;simp only[Ex.kids]at hsz;by_cases h1:k=1
  ·have hc:=Ex.sM hx6 (by simpa [Ex.kind]using h1);rw[Ex.DX _ (by simpa [Ex.kind]using h1)];exact AO5 hc.2.2 (AA7 ha hb (by simpa [Ex.kind]using h1) ⟨hc.1,hc.2.1⟩)
  ·rw[Ex.DW _ (by simpa [Ex.kind]using h1)];by_cases hk:ks=[]
   ·subst hk;exact AO5 rfl (AA5 (by simpa [Ex.kind]using h1) hs)
   ·exact ARK hk (by simp only[Ex.kids];omega) fun x hx=>ih x hx (Ex.mU hx6 hx) (by have:=Ex.gT (l:=ks) hx;omega)
theorem R6 {a b:Int} (ha:0≤a∧a≤6) (hb:0≤b∧b≤6) (e:Ex) (hx6:e.wf 6=true) (hs:e.size<1000000000):aI C0 153 [.i (.iref e.cells), .fn (.func 155) [.own 0 0, .own 1 0]] [some (.box [.int a]),some (.box [.int b])]=some (.i (.agg (e.u7 (oG a b)).cells),[some (.box [.int a]),some (.box [.int b])]):=by
 have h:=ZZ ha hb e hx6 hs;rw[aD rfl Tryz.func153 rfl rfl];generalize e.u7 (oG a b)=x at *
 rw[Ex.aA e,Ex.aA x]at *
 simp[h]
end Go.Proofs.YtjdfjgmebalaaaaGreat.P
namespace Go.Av
theorem LG (a b:Nat):orS a b=((a ||| b:Nat):Int):=by simp[orS]
def MR (k:Int) (v:Val) (l:List Val) (s:Int) (j:Nat):Int:=(l.take j).foldl (fun s w=>orS s (stV (Val.cmb k v w))) s
def pM (k:Int) (l r:List Val) (i:Nat):Int:=(l.take i).foldl (fun s v=>r.foldl (fun s w=>orS s (stV (Val.cmb k v w))) s) 0
theorem QH {k:Int} {v w:Val} {l:List Val} {s:Int} {j:Nat} (h:l[j]?=some w):MR k v l s (j+1)=orS (MR k v l s j) (stV (Val.cmb k v w)):=by
 unfold MR;rw[aJ h,zB7];rfl
theorem I9 {k:Int} {v:Val} {l r:List Val} {i:Nat} (h:l[i]?=some v):pM k l r (i+1)=MR k v r (pM k l r i) r.length:=by
 unfold pM MR;rw[aJ h,zB7,List.take_length];rfl
def YW (s:Int):Prop:=∃ n:Nat,s=n∧n<8
theorem EP (v:Val):YW (stV v):=by
 unfold stV;split
 ·exact⟨4,rfl,by omega⟩
 ·split
  ·exact⟨1,rfl,by omega⟩
  ·exact⟨2,rfl,by omega⟩
theorem AAK {a b:Int} (ha:YW a) (hb:YW b):YW (orS a b):=by
 obtain⟨m,rfl,hm⟩:=ha;obtain⟨n,rfl,hn⟩:=hb;exact⟨m ||| n,LG m n,xK (n:=3) hm hn⟩
theorem E9 {k:Int} {v:Val}:∀ (l:List Val) {s:Int} (j:Nat),YW s→YW (MR k v l s j)
 | [],s,j,h=>by simpa [MR]using h
 | a::l,s,0,h=>by simpa [MR]using h
 | a::l,s,j+1,h=>by
  have:=E9 (k:=k) (v:=v) l (s:=orS s (stV (Val.cmb k v a))) j (AAK h (EP _));simpa [MR]using this
theorem VN {k:Int} {r:List Val} (l:List Val) (i:Nat) (hi:i≤l.length):YW (pM k l r i):=by
 induction i with
 | zero=>exact⟨0,by simp[pM],by omega⟩
 | succ i ih =>
  rw[I9 (zX (show i<l.length by omega))];exact E9 r _ (ih (by omega))
theorem AG1 {k a b:Int} (h:k=8∨k=9):kR k a b=pM k (exS a) (exS b) (exS a).length:=by
 unfold kR pM;rw[if_pos h,List.take_length]
theorem AHU {a:Int} {v:Val} (h:v∈exS a):v.ok=true:=by
 unfold exS at h;simp only[zU]at h
 rcases h with h|h|h
 ·split at h
  ·simp at h;subst h;rfl
  ·cases h
 ·split at h
  ·simp at h;subst h;rfl
  ·cases h
 ·split at h
  ·simp at h;subst h;rfl
  ·cases h
theorem APE {b:Int} (h:okS b):exS b≠[]:=by
 obtain⟨h1,h2⟩:=h;have:b=1∨b=2∨b=3∨b=4∨b=5∨b=6∨b=7:=by omega
 rcases this with rfl|rfl|rfl|rfl|rfl|rfl|rfl<;>decide
theorem ABX (a:Int):(exS a).length≤3:=by
 unfold exS;simp only[zQ]
 repeat' split
 all_goals simp
end Go.Av
namespace Go.Proofs.YtjdfjgmebalaaaaGreat.P
open Go Go.Av
set_option maxRecDepth 4000
set_option maxHeartbeats 4000000
theorem BZ {n:Nat} (h:n<8):n % 18446744073709551616=n:=Nat.mod_eq_of_lt (by omega)
theorem or8 {m n:Nat} (hm:m<8) (hn:n<8):IntKind.i64.wrap ((m ||| n:Nat):Int)=((m ||| n:Nat):Int):=by
 have:=xK (n:=3) hm hn;exact wrO
def vBx (v:Val):Option Blk:=some (.box [.bool v.null, .int v.n])
def vAt (l:List Val) (i:Nat):Val:=(l[i]?).getD Val.zero
def jz (i:Nat) (v:AV):AV:=if i=0 then .junk else v
@[simp] theorem AeG (v:AV):jz 0 v=.junk:=rfl
@[simp] theorem AeF (i:Nat) (v:AV):jz (i+1) v=v:=rfl
theorem CE {i:Nat} (h:i≠0) (v:AV):jz i v=v:=if_neg h
def CSX (k a b:Int) (A B:List Val) (i:Nat):AS :=
 { env:=[(0, .int k),(1, .int a),(2, .int b),(6, .int 0),(7, .int (pM k A B i)),(9,jz i (.own 0 0)),(11,jz i (.own 1 0)),(17, .bool true),(19, .i (.isl (rZ A))),(20, .int A.length),(21, .int i),(22,jz i (.bool true)),(26,jz i (.i (.isl (rZ B)))),(27,jz i (.int B.length)),(28,jz i (.int B.length)),(29,jz i (.bool false)),(46, .junk),(54, .junk),(66, .junk)],
   st:=if i=0 then []else [vBx (vAt A (i-1)),vBx (vAt B (B.length-1))] }
def CSI (k a b:Int) (A B:List Val) (i:Nat) (j:Nat):AS :=
 { env:=[(0, .int k),(1, .int a),(2, .int b),(6, .int 0),(7, .int (MR k (vAt A i) B (pM k A B i) j)),(9, .own 0 0),(11,if j=0 then jz i (.own 1 0)else .own 1 0),(17, .bool true),(19, .i (.isl (rZ A))),(20, .int A.length),(21, .int i),(22, .bool true),(26, .i (.isl (rZ B))),(27, .int B.length),(28, .int j),(29,if j=0 then jz i (.bool false)else .bool true),(46, .junk),(54, .junk),(66, .junk)],
   st:=vBx (vAt A i)::(if j=0 then(if i=0 then []else [vBx (vAt B (B.length-1))])else [vBx (vAt B (j-1))]) }
theorem wC {k a b:Int} (hk:k=8∨k=9) (ha:okS a) (hb:okS b):aI C0 197 [.int k, .int a, .int b] []=some (.int (kR k a b),[]):=by
 have hea:=GY (a:=a) ⟨by have:=ha.1;omega,ha.2⟩;have heb:=GY (a:=b) ⟨by have:=hb.1;omega,hb.2⟩;have hbn:=APE hb;have hbl:(exS b).length≠0:=fun h=>hbn (zW.1 h)
 have la:=ABX a;have lb:=ABX b;have oka:∀ v∈exS a,v.ok=true:=fun v hv=>AHU hv
 have okb:∀ v∈exS b,v.ok=true:=fun v hv=>AHU hv
 rw[aD rfl Tryz.func197 rfl rfl,AG1 hk];generalize exS a=A at *
 generalize exS b=B at *
 rcases hk with rfl|rfl
 ·simp[hea];rw[aS (CSX 8 a b A B) A.length (by simp[CSX,pM])]
  ·rw[aG];simp[CSX]
  ·intro i hi;have h3:=zX hi;have hm:=zV h3;generalize A[i]=v at h3 hm;have rA:=pY h3;have hv:vAt A i=v:=by simp[vAt,h3]
   have w2:IntKind.i64.wrap ((i:Int)+1)=i+1:=wrO;have hlow0:=VN (k:=8) (r:=B) A i (by omega);have hsc:=I9 (k:=8) (r:=B) h3
   have inner:∀ j,j<B.length→∃ w,B[j]?=some w∧w∈B∧fJ (rZ B) j=some [.bool w.null, .int w.n]∧vAt B j=w∧∃ m n:Nat,MR 8 v B (pM 8 A B i) j=m∧stV (Val.cmb 8 v w)=n∧m<8∧n<8∧MR 8 v B (pM 8 A B i) (j+1)=((m ||| n:Nat):Int)∧IntKind.i64.wrap ((m ||| n:Nat):Int)=((m ||| n:Nat):Int):=by
    intro j hj;have q3:=zX hj;obtain⟨m,hm1,hm2⟩:=E9 (k:=8) (v:=v) B j hlow0;obtain⟨n,hn1,hn2⟩:=EP (Val.cmb 8 v B[j]);refine⟨B[j],q3,xN hj,pY q3,by simp[vAt,q3],m,n,hm1,hn1,hm2,hn2,?_,or8 hm2 hn2⟩;rw[QH q3,hm1,hn1,LG]
   by_cases h0:i=0
   ·subst h0;simp[CSX,hi,rA,heb];rw[aS (CSI 8 a b A B 0) B.length (by simp[CSI,MR,hv,vBx])]
    ·rw[aG];simp[CSI,hbl,w2,hv,hsc,CSX,vBx]
    ·intro j hj;obtain⟨w,q3,qm,q4,q5,m,n,m1,n1,m2,n2,hn,hwr⟩:=inner j hj;have hcm:=p8 8 v w (oka v hm) (okb w qm);have hst:=kF (Val.cmb 8 v w).null (Val.cmb 8 v w).n;have w3:IntKind.i64.wrap ((j:Int)+1)=j+1:=wrO;rw[show stV ⟨(Val.cmb 8 v w).null,(Val.cmb 8 v w).n⟩=stV (Val.cmb 8 v w)from rfl,n1]at hst;by_cases j0:j=0
     ·subst j0;simp[CSI,hj,hv,q4,q5,vBx,m1,hcm,hst,BZ m2,BZ n2,hwr,hn]
     ·simp[CSI,hj,hv,q4,q5,vBx,m1,hcm,hst,BZ m2,BZ n2,hwr,hn,j0,w3]
   ·simp[CSX,hi,rA,heb,h0,CE h0,vBx];rw[aS (CSI 8 a b A B i) B.length (by simp[CSI,MR,hv,vBx,CE h0,h0])]
    ·rw[aG];simp[CSI,hbl,w2,hv,hsc,CSX,vBx]
    ·intro j hj;obtain⟨w,q3,qm,q4,q5,m,n,m1,n1,m2,n2,hn,hwr⟩:=inner j hj;have hcm:=p8 8 v w (oka v hm) (okb w qm);have hst:=kF (Val.cmb 8 v w).null (Val.cmb 8 v w).n;have w3:IntKind.i64.wrap ((j:Int)+1)=j+1:=wrO;rw[show stV ⟨(Val.cmb 8 v w).null,(Val.cmb 8 v w).n⟩=stV (Val.cmb 8 v w)from rfl,n1]at hst;by_cases j0:j=0
     ·subst j0;simp[CSI,hj,hv,q4,q5,vBx,m1,hcm,hst,BZ m2,BZ n2,hwr,hn,CE h0,h0]
     ·simp[CSI,hj,hv,q4,q5,vBx,m1,hcm,hst,BZ m2,BZ n2,hwr,hn,j0,w3,CE h0,h0]
 ·simp[hea];rw[aS (CSX 9 a b A B) A.length (by simp[CSX,pM])]
  ·rw[aG];simp[CSX]
  ·intro i hi;have h3:=zX hi;have hm:=zV h3;generalize A[i]=v at h3 hm;have rA:=pY h3;have hv:vAt A i=v:=by simp[vAt,h3]
   have w2:IntKind.i64.wrap ((i:Int)+1)=i+1:=wrO;have hlow0:=VN (k:=9) (r:=B) A i (by omega);have hsc:=I9 (k:=9) (r:=B) h3
   have inner:∀ j,j<B.length→∃ w,B[j]?=some w∧w∈B∧fJ (rZ B) j=some [.bool w.null, .int w.n]∧vAt B j=w∧∃ m n:Nat,MR 9 v B (pM 9 A B i) j=m∧stV (Val.cmb 9 v w)=n∧m<8∧n<8∧MR 9 v B (pM 9 A B i) (j+1)=((m ||| n:Nat):Int)∧IntKind.i64.wrap ((m ||| n:Nat):Int)=((m ||| n:Nat):Int):=by
    intro j hj;have q3:=zX hj;obtain⟨m,hm1,hm2⟩:=E9 (k:=9) (v:=v) B j hlow0;obtain⟨n,hn1,hn2⟩:=EP (Val.cmb 9 v B[j]);refine⟨B[j],q3,xN hj,pY q3,by simp[vAt,q3],m,n,hm1,hn1,hm2,hn2,?_,or8 hm2 hn2⟩;rw[QH q3,hm1,hn1,LG]
   by_cases h0:i=0
   ·subst h0;simp[CSX,hi,rA,heb];rw[aS (CSI 9 a b A B 0) B.length (by simp[CSI,MR,hv,vBx])]
    ·rw[aG];simp[CSI,hbl,w2,hv,hsc,CSX,vBx]
    ·intro j hj;obtain⟨w,q3,qm,q4,q5,m,n,m1,n1,m2,n2,hn,hwr⟩:=inner j hj;have hcm:=p8 9 v w (oka v hm) (okb w qm);have hst:=kF (Val.cmb 9 v w).null (Val.cmb 9 v w).n;have w3:IntKind.i64.wrap ((j:Int)+1)=j+1:=wrO;rw[show stV ⟨(Val.cmb 9 v w).null,(Val.cmb 9 v w).n⟩=stV (Val.cmb 9 v w)from rfl,n1]at hst;by_cases j0:j=0
     ·subst j0;simp[CSI,hj,hv,q4,q5,vBx,m1,hcm,hst,BZ m2,BZ n2,hwr,hn]
     ·simp[CSI,hj,hv,q4,q5,vBx,m1,hcm,hst,BZ m2,BZ n2,hwr,hn,j0,w3]
   ·simp[CSX,hi,rA,heb,h0,CE h0,vBx];rw[aS (CSI 9 a b A B i) B.length (by simp[CSI,MR,hv,vBx,CE h0,h0])]
    ·rw[aG];simp[CSI,hbl,w2,hv,hsc,CSX,vBx]
    ·intro j hj;obtain⟨w,q3,qm,q4,q5,m,n,m1,n1,m2,n2,hn,hwr⟩:=inner j hj;have hcm:=p8 9 v w (oka v hm) (okb w qm);have hst:=kF (Val.cmb 9 v w).null (Val.cmb 9 v w).n;have w3:IntKind.i64.wrap ((j:Int)+1)=j+1:=wrO;rw[show stV ⟨(Val.cmb 9 v w).null,(Val.cmb 9 v w).n⟩=stV (Val.cmb 9 v w)from rfl,n1]at hst;by_cases j0:j=0
     ·subst j0;simp[CSI,hj,hv,q4,q5,vBx,m1,hcm,hst,BZ m2,BZ n2,hwr,hn,CE h0,h0]
     ·simp[CSI,hj,hv,q4,q5,vBx,m1,hcm,hst,BZ m2,BZ n2,hwr,hn,j0,w3,CE h0,h0]
set_option maxHeartbeats 8000000
theorem AOK:∀ m n:Fin 8,((m.val ||| n.val) &&& 4=0∧iX (orS m.val n.val) 4=false)∨((m.val ||| n.val) &&& 4=4∧iX (orS m.val n.val) 4=true):=by decide
theorem FH {m n:Nat} (hm:m<8) (hn:n<8):((m ||| n) &&& 4=0∧iX (orS m n) 4=false)∨((m ||| n) &&& 4=4∧iX (orS m n) 4=true):=AOK ⟨m,hm⟩ ⟨n,hn⟩
theorem AJV:∀ m:Fin 8,(m.val &&& 18446744073709551611=0∧(iX m.val 1 || iX m.val 2)=false)∨((m.val &&& 18446744073709551611=1∨m.val &&& 18446744073709551611=2∨m.val &&& 18446744073709551611=3)∧(iX m.val 1 || iX m.val 2)=true):=by decide
theorem AB6 {m:Nat} (hm:m<8):∃ v:Nat,m &&& 18446744073709551611=v∧IntKind.i64.wrap (v:Int)=v∧((v=0∧(iX m 1 || iX m 2)=false)∨(¬ v=0∧(iX m 1 || iX m 2)=true)):=by
 rcases AJV ⟨m,hm⟩with ⟨h,q⟩|⟨h|h|h,q⟩
 ·exact⟨0,h,by decide, .inl ⟨rfl,q⟩⟩
 ·exact⟨1,h,by decide, .inr ⟨by omega,q⟩⟩
 ·exact⟨2,h,by decide, .inr ⟨by omega,q⟩⟩
 ·exact⟨3,h,by decide, .inr ⟨by omega,q⟩⟩
theorem uI {k:Int} (hk:3≤k∧k≠8∧k≠9) {m n:Nat} (hm:m<8) (hn:n<8):aI C0 197 [.int k, .int m, .int n] []=some (.int (kR k m n),[]):=by
 rw[aD rfl Tryz.func197 rfl rfl];have h1:=BZ hm;have h2:=BZ hn;have h3:=or8 hm hn;have h4:(m ||| n) % 18446744073709551616=m ||| n:=BZ (xK (n:=3) hm hn)
 obtain⟨x,x1,x2,x3⟩:=AB6 hm;obtain⟨y,y1,y2,y3⟩:=AB6 hn;have k8:¬ k=8:=hk.2.1;have k9:¬ k=9:=hk.2.2;have e7:orS 0 7=7:=by decide
 have e3:orS 0 3=3:=by decide
 have e47:orS 4 7=7:=by decide
 have e43:orS 4 3=7:=by decide
 have e40:orS 4 0=4:=by decide
 have e00:orS 0 0=0:=by decide
 by_cases k6:k<6
 ·have hk3:k=3∨k=4∨k=5:=by omega
  rcases hk3 with rfl|rfl|rfl
  ·rcases FH hm hn with ⟨p,q⟩|⟨p,q⟩
   ·rcases x3 with ⟨x3,x4⟩|⟨x3,x4⟩
    ·simp[h1,h2,h3,h4,p,x1,x2,x3,kR,q,x4,e00]
    ·rcases y3 with ⟨y3,y4⟩|⟨y3,y4⟩
     ·simp[h1,h2,h3,h4,p,x1,x2,x3,y1,y2,y3,kR,q,x4,y4,e00]
     ·simp[h1,h2,h3,h4,p,x1,x2,x3,y1,y2,y3,kR,q,x4,y4,e7,e3]
   ·rcases x3 with ⟨x3,x4⟩|⟨x3,x4⟩
    ·simp[h1,h2,h3,h4,p,x1,x2,x3,kR,q,x4,e40]
    ·rcases y3 with ⟨y3,y4⟩|⟨y3,y4⟩
     ·simp[h1,h2,h3,h4,p,x1,x2,x3,y1,y2,y3,kR,q,x4,y4,e40]
     ·simp[h1,h2,h3,h4,p,x1,x2,x3,y1,y2,y3,kR,q,x4,y4,e47,e43]
  ·rcases FH hm hn with ⟨p,q⟩|⟨p,q⟩
   ·rcases x3 with ⟨x3,x4⟩|⟨x3,x4⟩
    ·simp[h1,h2,h3,h4,p,x1,x2,x3,kR,q,x4,e00]
    ·rcases y3 with ⟨y3,y4⟩|⟨y3,y4⟩
     ·simp[h1,h2,h3,h4,p,x1,x2,x3,y1,y2,y3,kR,q,x4,y4,e00]
     ·simp[h1,h2,h3,h4,p,x1,x2,x3,y1,y2,y3,kR,q,x4,y4,e7,e3]
   ·rcases x3 with ⟨x3,x4⟩|⟨x3,x4⟩
    ·simp[h1,h2,h3,h4,p,x1,x2,x3,kR,q,x4,e40]
    ·rcases y3 with ⟨y3,y4⟩|⟨y3,y4⟩
     ·simp[h1,h2,h3,h4,p,x1,x2,x3,y1,y2,y3,kR,q,x4,y4,e40]
     ·simp[h1,h2,h3,h4,p,x1,x2,x3,y1,y2,y3,kR,q,x4,y4,e47,e43]
  ·rcases FH hm hn with ⟨p,q⟩|⟨p,q⟩
   ·rcases x3 with ⟨x3,x4⟩|⟨x3,x4⟩
    ·simp[h1,h2,h3,h4,p,x1,x2,x3,kR,q,x4,e00]
    ·rcases y3 with ⟨y3,y4⟩|⟨y3,y4⟩
     ·simp[h1,h2,h3,h4,p,x1,x2,x3,y1,y2,y3,kR,q,x4,y4,e00]
     ·simp[h1,h2,h3,h4,p,x1,x2,x3,y1,y2,y3,kR,q,x4,y4,e7,e3]
   ·rcases x3 with ⟨x3,x4⟩|⟨x3,x4⟩
    ·simp[h1,h2,h3,h4,p,x1,x2,x3,kR,q,x4,e40]
    ·rcases y3 with ⟨y3,y4⟩|⟨y3,y4⟩
     ·simp[h1,h2,h3,h4,p,x1,x2,x3,y1,y2,y3,kR,q,x4,y4,e40]
     ·simp[h1,h2,h3,h4,p,x1,x2,x3,y1,y2,y3,kR,q,x4,y4,e47,e43]
 ·have k3:¬ k=3:=by omega
  have k4:¬ k=4:=by omega
  have k5:¬ k=5:=by omega
  rcases FH hm hn with ⟨p,q⟩|⟨p,q⟩
  ·rcases x3 with ⟨x3,x4⟩|⟨x3,x4⟩
   ·simp[h1,h2,h3,h4,p,x1,x2,x3,kR,q,x4,e00,k3,k4,k5,k6,k8,k9]
   ·rcases y3 with ⟨y3,y4⟩|⟨y3,y4⟩
    ·simp[h1,h2,h3,h4,p,x1,x2,x3,y1,y2,y3,kR,q,x4,y4,e00,k3,k4,k5,k6,k8,k9]
    ·simp[h1,h2,h3,h4,p,x1,x2,x3,y1,y2,y3,kR,q,x4,y4,e7,e3,k3,k4,k5,k6,k8,k9]
  ·rcases x3 with ⟨x3,x4⟩|⟨x3,x4⟩
   ·simp[h1,h2,h3,h4,p,x1,x2,x3,kR,q,x4,e40,k3,k4,k5,k6,k8,k9]
   ·rcases y3 with ⟨y3,y4⟩|⟨y3,y4⟩
    ·simp[h1,h2,h3,h4,p,x1,x2,x3,y1,y2,y3,kR,q,x4,y4,e40,k3,k4,k5,k6,k8,k9]
    ·simp[h1,h2,h3,h4,p,x1,x2,x3,y1,y2,y3,kR,q,x4,y4,e47,e43,k3,k4,k5,k6,k8,k9]
end Go.Proofs.YtjdfjgmebalaaaaGreat.P
namespace Go.Av
theorem Ex.uQ {w:Int} {e:Ex} (h:e.wf w=true):(e.kind=1∧0≤e.col∧e.col<w∧e.kids=[])∨(e.kind=2∧e.kids=[])∨((e.kind=10∨e.kind=11)∧∃ x,e.kids=[x]∧x.wf w=true)∨((3≤e.kind∧e.kind≤9)∧∃ x y,e.kids=[x,y]∧x.wf w=true∧y.wf w=true):=by
 have hk:∀ x∈e.kids,x.wf w=true:=fun x hx=>Ex.mU h hx
 by_cases h1:e.kind=1
 ·have:=Ex.sM h h1;exact .inl ⟨h1,this.1,this.2.1,this.2.2⟩
 rw[Ex.N8]at h;simp only[zT,zL]at h;have hl:=h.1;unfold bQ at hl;split at hl
 ·rename_i hc;exact .inr (.inl ⟨by omega,zW.1 (by omega)⟩)
 ·split at hl
  ·rename_i hc;obtain⟨x,hx⟩:=DZ (show e.kids.length=1 by omega);exact .inr (.inr (.inl ⟨hc,x,hx,hk x (by simp[hx])⟩))
  ·split at hl
   ·rename_i hc;obtain⟨x,y,hx⟩:=UJ (show e.kids.length=2 by omega);exact .inr (.inr (.inr ⟨hc,x,y,hx,hk x (by simp[hx]),hk y (by simp[hx])⟩))
   ·omega
theorem LF {W:Int} (st:List Int) (hl:(st.length:Int)=W) (hs:∀ a∈st,okS a):∀ e:Ex,e.wf W=true→okS (IK st e):=by
 intro e
 induction e using Ex.ind with
 | h k c v ks ih =>
  intro hw;rw[RD]
  rcases Ex.uQ hw with ⟨h1,h2,h3,h4⟩|⟨h1,h2⟩|⟨h1,x,h2,h3⟩|⟨h1,x,y,h2,h3,h4⟩
  ·rw[if_pos h1];generalize Ex.col (.mk k c v ks)=cc at *
   have hlt:cc.toNat<st.length:=by omega
   rw[zX hlt];exact hs _ (xN hlt)
  ·rw[if_neg (by omega),if_pos h1];exact ANE _
  ·have hx:=ih x (by simp only[Ex.kids]at h2;simp[h2]) h3;obtain⟨n,hn⟩:=yS (show 0≤IK st x by have:=hx.1;omega);have ht:=AEY ⟨n,by have:=hx.2;omega⟩ (by have:=hx.1;simp;omega);rw[if_neg (by omega),if_neg (by omega),h2];simp only[List.getElem?_cons_zero,zC4,Option.getD_some,hn]
   rcases h1 with h1|h1
   ·rw[if_pos h1];exact ht.1
   ·rw[if_neg (by omega),if_pos h1];exact ht.2
  ·have hx:=ih x (by simp only[Ex.kids]at h2;simp[h2]) h3;have hy:=ih y (by simp only[Ex.kids]at h2;simp[h2]) h4;rw[if_neg (by omega),if_neg (by omega),if_neg (by omega),if_neg (by omega),h2];exact AKT hx hy
end Go.Av
namespace Go.Proofs.YtjdfjgmebalaaaaGreat.P
open Go Go.Av
set_option maxRecDepth 4000
set_option maxHeartbeats 8000000
theorem seven {a:Int} (h:okS a):a=1∨a=2∨a=3∨a=4∨a=5∨a=6∨a=7:=by have:=h.1;have:=h.2;omega
theorem ABH {k a b:Int} (hk:3≤k) (ha:okS a) (hb:okS b):aI C0 197 [.int k, .int a, .int b] []=some (.int (kR k a b),[]):=by
 by_cases h:k=8∨k=9
 ·exact wC h ha hb
 ·obtain⟨m,rfl⟩:=yS (show 0≤a by have:=ha.1;omega);obtain⟨n,rfl⟩:=yS (show 0≤b by have:=hb.1;omega);exact uI ⟨hk,by omega,by omega⟩ (by have:=ha.2;omega) (by have:=hb.2;omega)
theorem P6 {W:Int} (st:List Int) (hl:(st.length:Int)=W) (hs:∀ a∈st,okS a):∀ e:Ex,e.wf W=true→aI C0 178 [.i (.iref e.cells), .i (.isl (aF st))] []=some (.int (IK st e),[]):=by
 intro e
 induction e using Ex.ind with
 | h k c v ks ih =>
  intro hw;have hall:=LF st hl hs;rw[aD rfl Tryz.func178 rfl rfl,Ex.aA,RD]
  rcases Ex.uQ hw with ⟨h1,h2,h3,h4⟩|⟨h1,h2⟩|⟨h1,x,h2,h3⟩|⟨h1,x,y,h2,h3,h4⟩
  ·generalize Ex.mk k c v ks=e at *
   have hlt:e.col.toNat<st.length:=by omega
   have h5:=zX hlt;generalize st[e.col.toNat]=s at h5;have r2:=bH h5;obtain⟨_,h6⟩:=zY.1 h5;simp[h1,h2,r2,h6,show e.col<st.length by omega]
  ·generalize Ex.mk k c v ks=e at *
   have hst:=kF e.val.null e.val.n;simp[h1,hst]
  ·have hx:=ih x (by simp only[Ex.kids]at h2;simp[h2]) h3;have ho:=hall x h3;generalize Ex.mk k c v ks=e at *
   generalize hso:IK st x=s at hx ho;rw[Ex.aA]at hx
   rcases h1 with h1|h1
   ·rcases seven ho with rfl|rfl|rfl|rfl|rfl|rfl|rfl<;>(simp[h1,h2,Ex.aB,Ex.aA x,hx,hso];try decide)
   ·rcases seven ho with rfl|rfl|rfl|rfl|rfl|rfl|rfl<;>(simp[h1,h2,Ex.aB,Ex.aA x,hx,hso];try decide)
  ·have hx:=ih x (by simp only[Ex.kids]at h2;simp[h2]) h3;have hy:=ih y (by simp only[Ex.kids]at h2;simp[h2]) h4;have ho:=hall x h3;have hp:=hall y h4;generalize Ex.mk k c v ks=e at *
   have hc:=ABH (k:=e.kind) h1.1 ho hp;generalize hso:IK st x=s at hx ho hc;generalize hto:IK st y=t at hy hp hc;rw[Ex.aA]at hx hy;have q1:¬ e.kind=1:=by omega
   have q2:¬ e.kind=2:=by omega
   have q3:¬ e.kind=10:=by omega
   have q4:¬ e.kind=11:=by omega
   simp[q1,q2,q3,q4,h2,Ex.aB,Ex.aA x,Ex.aA y,hx,hy,hc,hso,hto]
end Go.Proofs.YtjdfjgmebalaaaaGreat.P
namespace Go.Av
theorem ABF (n:Nat) (x:Int):aF (List.replicate n x)=List.replicate n [.int x]:=by
 induction n with
 | zero=>rfl
 | succ n ih=>simp[yC,aF,ih]
def st1 (n i:Nat):List Int:=List.replicate i 7++List.replicate (n-i) 0
def st2 (p m i:Nat):List Int:=List.replicate p 7++(List.replicate i 4++List.replicate (m-i) 7)
theorem AA3 {a b:Int} {n i:Nat} (h:i<n):(List.replicate i a++List.replicate (n-i) b)[i]?=some b:=by
 rw[yX (by simp)];have:0<n-i:=by omega
 simp[List.getElem?_replicate,this]
theorem AA2 {a b:Int} {n i:Nat} (h:i<n):(List.replicate i a++List.replicate (n-i) b).set i a=List.replicate (i+1) a++List.replicate (n-(i+1)) b:=by
 rw[zA9 _ _ (by simp)];rw[show n-i=(n-(i+1))+1 by omega,yC,List.replicate_succ'];simp
theorem AIZ {n i:Nat} (h:i<n):(st1 n i)[i]?=some 0:=AA3 h
theorem AIY {n i:Nat} (h:i<n):(st1 n i).set i 7=st1 n (i+1):=AA2 h
theorem AIW {p m i:Nat} (h:i<m):(st2 p m i)[p+i]?=some 7:=by
 unfold st2;rw[yX (by simp)];simpa using AA3 (a:=4) (b:=7) h
theorem AIV {p m i:Nat} (h:i<m):(st2 p m i).set (p+i) 4=st2 p m (i+1):=by
 unfold st2;rw[zA9 _ _ (by simp)];simp only[zA8,xP];rw[AA2 h]
theorem AJ0 {p m:Nat}:st1 (p+m) (p+m)=st2 p m 0:=by
 simp[st1,st2,List.replicate_append_replicate]
theorem AIX (p m:Nat):st2 p m m=jN ((p+m:Nat):Int) p:=by
 unfold st2 jN;apply List.ext_getElem?;intro i;simp only[Nat.sub_self,List.replicate_zero,yB,Int.toNat_natCast,zB6];by_cases h:i<p
 ·rw[yY (by simpa using h)];simp[h,show i<p+m by omega]
 ·rw[yX (by simp;omega)];by_cases h2:i<p+m
  ·simp[h2,show i-p<m by omega,show p≤i by omega]
  ·simp[h2,show ¬ i-p<m by omega]
@[simp] theorem WU {p m i:Nat} (h:i≤m):(st2 p m i).length=p+m:=by simp[st2];omega
def kH (p m:Nat):List Int:=(List.range m).map fun(i:Nat)=>((p+i:Nat):Int)
@[simp] theorem AHZ (p m:Nat):(kH p m).length=m:=by simp[kH]
theorem PU {p m i:Nat} (h:i<m):(kH p m)[i]?=some ((p+i:Nat):Int):=by simp[kH,h]
theorem KG (p m:Nat):kH p (m+1)=kH p m++[((p+m:Nat):Int)]:=by simp[kH,zB3]
theorem DU (W left:Int):∀ a∈jN W left,okS a:=by
 intro a ha;unfold jN at ha;obtain⟨i,-,rfl⟩:=yD.1 ha;unfold okS;split<;>omega
theorem mM (W left:Int):(jN W left).length=W.toNat:=by simp[jN]
theorem AIF:∀ a:Fin 8,(a.val &&& 2=0∧iX a.val 2=false)∨(a.val &&& 2=2∧iX a.val 2=true):=by decide
end Go.Av
namespace Go.Proofs.YtjdfjgmebalaaaaGreat.P
open Go Go.Av
set_option maxRecDepth 4000
set_option maxHeartbeats 8000000
def RJ1 (e:Ex) (l:List Int) (n:Nat) (i:Nat):AS :=
 { env:=[(0, .i (.agg [.int e.kind, .int e.col, .bool e.val.null, .int e.val.n, .isl (Ex.aB e.kids)])),(1, .int n),(2, .i (.isl (aF l))),(3, .own 0 0),(6, .bool false),(7, .osl 1 1 0 n),(8,jk i (.int (i-1))),(10, .junk),(14, .bool false),(18, .int n),(19, .int i),(20,jk i (.bool true)),(26, .junk),(27, .junk),(28, .junk),(29, .junk),(38, .junk)],
   st:=[some (.box [.int e.kind, .int e.col, .bool e.val.null, .int e.val.n, .i (.isl (Ex.aB e.kids))]),some (.arr 1 (aF (st1 n i)))] }
def RJ2 (e:Ex) (n p m:Nat) (i:Nat):AS :=
 { env:=[(0, .i (.agg [.int e.kind, .int e.col, .bool e.val.null, .int e.val.n, .isl (Ex.aB e.kids)])),(1, .int n),(2, .i (.isl (aF (kH p m)))),(3, .own 0 0),(6, .bool false),(7, .osl 1 1 0 n),(8, .int (n-1)),(10,jk i (.int ((p:Int)+i-1))),(14, .bool false),(18, .int n),(19, .int n),(20, .bool false),(26, .i (.isl (aF (kH p m)))),(27, .int m),(28, .int i),(29,jk i (.bool true)),(38,jk i (.bool true))],
   st:=[some (.box [.int e.kind, .int e.col, .bool e.val.null, .int e.val.n, .i (.isl (Ex.aB e.kids))]),some (.arr 1 (aF (st2 p m i)))] }
theorem RP (e:Ex) {n p m:Nat} (hn:n=p+m) (h:e.ok n=true):aI C0 157 [.i (.agg e.cells), .int n, .i (.isl (aF (kH p m)))] []=some (.bool (AA9 e n p),[]):=by
 have hok:=ok_eq n e;rw[h]at hok;obtain⟨hw,g1,g2⟩:=Ex.D8 h;have hlen:((jN n p).length:Int)=(n:Int):=by rw[mM];omega
 have ho:=P6 (jN n p) hlen (DU _ _) e hw;have hs:=LF (jN n p) hlen (DU _ _) e hw;rw[aD rfl Tryz.func157 rfl rfl];unfold AA9;generalize IK (jN n p) e=s at ho hs;obtain⟨s,rfl⟩:=yS (show 0≤s by have:=hs.1;omega);have hs8:s<8:=by have:=hs.2;omega
 have hall:=AIX p m;rw[← hn]at hall;rw[← hall]at ho;rw[Ex.aA]at *
 have hb:8*(n:Int)≤281474976710656:=by omega
 have hz:=ABF n 0;have hz1:st1 n 0=List.replicate n 0:=by simp[st1]
 have hs1:st1 n n=st2 p m 0:=by rw[hn];exact AJ0
 have hl2:∀ i,i≤m→(st2 p m i).length=n:=fun i hi=>by rw[WU hi,hn]
 have hl3:(st2 p m m).take n=st2 p m m:=zZ (by rw[hl2 m (zN m)];exact zN n);simp[hok,hb];rw[aS (RJ1 e (kH p m) n) n (by simp[RJ1,hz1,hz])]
 ·rw[aG];simp[RJ1];rw[aS (RJ2 e n p m) m (by simp[RJ2,hs1,bY (show n≠0 by omega)])]
  ·rw[aG];have h2:=AIF ⟨s,hs8⟩
   rcases h2 with ⟨h2,h3⟩|⟨h2,h3⟩
   ·simp at h2 h3;simp[RJ2,ho,BZ hs8,h2,h3,hl2,hl3]
   ·simp at h2 h3;simp[RJ2,ho,BZ hs8,h2,h3,hl2,hl3]
  ·intro i hi;have h3:=PU (p:=p) hi;have r2:=bH h3;have r3:=bH (AIW (p:=p) hi);have hset:=AIV (p:=p) hi;have hin:((p:Int)+i)<n:=by omega
   have hl:=hl2 i (by omega);have hin2:p+i<n:=by omega
   have hin0:0≤(p:Int)+i:=by omega
   have w2:IntKind.i64.wrap ((i:Int)+1)=i+1:=wrO;simp[RJ2,hi,r2,r3,w2,FW,hset,hin,hin0,hl,show((p:Int)+i).toNat=p+i by omega];omega
 ·intro i hi;have r3:=bH (AIZ hi);have hset:=AIY hi;have w2:IntKind.i64.wrap ((i:Int)+1)=i+1:=wrO;simp[RJ1,hi,r3,w2,FW,hset]
end Go.Proofs.YtjdfjgmebalaaaaGreat.P
namespace Go.Av
theorem AAQ {n p i:Nat} (h:i<n):(jN n p)[i]?=some (if p≤i then 4 else 7):=by
 have:i<(jN (n:Int) p).length:=by rw[mM];simpa using h
 unfold jN;simp[h]
end Go.Av
namespace Go.Proofs.YtjdfjgmebalaaaaGreat.P
open Go Go.Av
set_option maxRecDepth 4000
set_option maxHeartbeats 8000000
def CLX (n p:Nat) (i:Nat):AS :=
 { env:=[(0, .int p),(1, .int n),(4, .nils),(5, .osl 0 1 0 i),(6, .int ((p:Int)+i)),(11,jk i (.bool true))],st:=[some (.arr 1 (aF (kH p i)))] }
theorem M7 {n p m:Nat} (hn:n=p+m) (hb:n<1000):aI C0 170 [.int p, .int n] []=some (.i (.isl (aF (kH p m))),[]):=by
 rw[aD rfl Tryz.func170 rfl rfl];simp;rw[aS (CLX n p) m (by simp[CLX,kH,aF])]
 ·rw[aG];have h1:¬ ((p:Int)+m<n):=by omega
  have h2:(kH p m).take m=kH p m:=zZ (by simp);simp[CLX,h1,h2]
 ·intro i hi;have h1:((p:Int)+i<n):=by omega
  have w2:IntKind.i64.wrap ((p:Int)+i+1)=(p:Int)+(i+1):=by rw[wrO];omega
  have hl:(i+1)*8≤140737488355328:=by omega
  have h2:(kH p i).take i=kH p i:=zZ (by simp);simp[CLX,h1,w2,hl,h2,KG,fU]
def nsS (p i k:Nat):Int:=if p≤i∧i<p+k then 4 else 7
def nsB (p m i:Nat):AV:=if m=0 then .junk else jk i (.bool (decide ((p:Int)+(m-1)=i-1)))
@[simp] theorem AP9 (p m i:Nat):bZ (nsB p m i)=[]:=by unfold nsB;split<;>simp
@[simp] theorem ARJ (r:Nat→Option Nat) (p m i:Nat):ren r (nsB p m i)=nsB p m i:=by unfold nsB;split<;>simp
def NSO (n p m:Nat) (i:Nat):AS :=
 { env:=[(0, .int n),(1, .i (.isl (aF (kH p m)))),(4, .nils),(5, .osl 0 1 0 i),(6, .int i),(7,jk i (.int (nsS p (i-1) m))),(8,jk i (.int m)),(12,jk i (.bool true)),(18,jk i (.bool false)),(26,nsB p m i)],st:=[some (.arr 1 (aF ((jN n p).take i)))] }
def NSI (n p m:Nat) (i k:Nat):AS :=
 { env:=[(0, .int n),(1, .i (.isl (aF (kH p m)))),(4, .nils),(5, .osl 0 1 0 i),(6, .int i),(7, .int (nsS p i k)),(8, .int k),(12, .bool true),(18,if k=0 then jk i (.bool false)else .bool true),(26,if k=0 then nsB p m i else .bool (decide ((p:Int)+(k-1)=i)))],st:=[some (.arr 1 (aF ((jN n p).take i)))] }
theorem LJ {n p m:Nat} (hn:n=p+m) (hb:n<1000):aI C0 191 [.int n, .i (.isl (aF (kH p m)))] []=some (.i (.isl (aF (jN n p))),[]):=by
 rw[aD rfl Tryz.func191 rfl rfl];have hnl:(jN (n:Int) p).length=n:=by rw[mM];omega
 simp;rw[aS (NSO n p m) n (by simp[NSO,aF,nsB])]
 ·rw[aG];have h2:(jN (n:Int) p).take n=jN n p:=zZ (by omega);simp[NSO,h2,hnl]
 ·intro i hi;have w2:IntKind.i64.wrap ((i:Int)+1)=i+1:=wrO;have h3:=AAQ (p:=p) hi;have htk:=aJ h3;have hl:(i+1)*8≤140737488355328:=by omega
  have hsm:nsS p i m=if p≤i then 4 else 7:=by unfold nsS;by_cases h:p≤i<;>simp[h];omega
  have hlt:((jN (n:Int) p).take i).length=i:=by simp[hnl];omega
  have htt:((jN (n:Int) p).take i).take i=(jN (n:Int) p).take i:=zZ (by omega);simp only[← hsm]at htk;simp[NSO,hi];rw[aS (NSI n p m i) m (by simp[NSI,nsS];try omega)]
  ·rw[aG];by_cases hm:m=0
   ·subst hm;simp[NSI,NSO,w2,hl,htk,fU,hlt,htt,nsB]
   ·by_cases h0:i=0
    ·subst h0;simp[NSI,NSO,hl,htk,fU,nsB,hm,aF]
    ·simp[NSI,NSO,w2,hl,htk,fU,hlt,htt,nsB,hm]
  ·intro k hk;have h5:=PU (p:=p) hk;have r2:=bH h5;have w3:IntKind.i64.wrap ((k:Int)+1)=k+1:=wrO;have e1:∀ x:AV,(if(k+1=0)then x else(AV.bool (decide ((p:Int)+((k+1:Nat)-1)=i))))=AV.bool (decide ((p:Int)+k=i)):=by intro x;simp
   by_cases he:(p:Int)+k=i
   ·have hs:nsS p i (k+1)=4:=by unfold nsS;rw[if_pos (by omega)]
    by_cases k0:k=0
    ·subst k0;simp at he;simp[NSI,hk,r2,hs,he]
    ·simp[NSI,hk,r2,w3,hs,he,k0]
   ·have hs:nsS p i (k+1)=nsS p i k:=by
     unfold nsS;by_cases hp:p≤i∧i<p+k
     ·rw[if_pos hp,if_pos (by omega)]
     ·rw[if_neg hp,if_neg (by omega)]
    by_cases k0:k=0
    ·subst k0;simp at he;simp[NSI,hk,r2,hs,he]
    ·simp[NSI,hk,r2,w3,hs,he,k0]
end Go.Proofs.YtjdfjgmebalaaaaGreat.P
namespace Go.Av
def wS (x:Int):Val:=⟨decide (x=4),if x=2 then 1 else 0⟩
def tsI (k a b x s:Int) (j:Nat):Int:=(([1,2,4]:List Int).take j).foldl (fun s y=>if(iX a x && iX b y)=true then orS s (stV (Val.cmb k (wS x) (wS y)))else s) s
def tsO (k a b:Int) (i:Nat):Int:=(([1,2,4]:List Int).take i).foldl (fun s x=>tsI k a b x s 3) 0
theorem ZF {k a b x s:Int} (hs:YW s) (j:Nat):YW (tsI k a b x s j):=by
 unfold tsI;generalize (([1,2,4]:List Int).take j)=l
 induction l generalizing s with
 | nil=>simpa using hs
 | cons y l ih =>
  simp only[List.foldl_cons];apply ih;split
  ·exact AAK hs (EP _)
  ·exact hs
theorem AII {k a b:Int} (i:Nat):YW (tsO k a b i):=by
 unfold tsO
 have:∀ (l:List Int) (s:Int),YW s→YW (l.foldl (fun s x=>tsI k a b x s 3) s):=by
  intro l
  induction l with
  | nil=>intro s hs;simpa using hs
  | cons y l ih=>intro s hs;exact ih _ (ZF hs 3)
 exact this _ _ ⟨0,rfl,by omega⟩
theorem AN1:∀ a b:Fin 8,tsO 8 a.val b.val 3=kR 8 a.val b.val∧tsO 9 a.val b.val 3=kR 9 a.val b.val:=by decide
end Go.Av
namespace Go.Proofs.YtjdfjgmebalaaaaGreat.P
open Go Go.Av
set_option maxRecDepth 4000
set_option maxHeartbeats 8000000
theorem ZL (b:Bool) (n:Int):aI C0 165 [.i (.agg [.bool b, .int n])] []=some (.int (if b=true then 2 else if n=0 then 0 else 1),[]):=by
 rw[aD rfl Tryz.func165 rfl rfl]
 cases b
 ·by_cases h:n=0<;>simp[h]
 ·simp
theorem AJ3 (t:Int) (h:0≤t∧t≤2):aI C0 218 [.int t] []=some (.int (if t=2 then 2 else 1-t),[]):=by
 rw[aD rfl Tryz.func218 rfl rfl];have:t=0∨t=1∨t=2:=by omega
 rcases this with rfl|rfl|rfl<;>simp
theorem AJ5 (s t:Int):aI C0 217 [.int s, .int t] []=some (.int (if s=0∨t=0 then 0 else if s=1∧t=1 then 1 else 2),[]):=by
 rw[aD rfl Tryz.func217 rfl rfl];by_cases h1:s=0
 ·simp[h1]
 ·by_cases h2:t=0
  ·simp[h1,h2]
  ·by_cases h3:s=1
   ·by_cases h4:t=1
    ·simp[h3,h4]
    ·simp[h3,h4,h2]
   ·simp[h1,h2,h3]
theorem ANR (t:Int):aI C0 216 [.int t] []=some (.i (.agg [.bool (decide (t=2)), .int (if t=2 then 0 else t)]),[]):=by
 rw[aD rfl Tryz.func216 rfl rfl];by_cases h:t=2
 ·subst h;simp
 ·simp[h]
theorem AEH {k x y:Int} (hk:k=8∨k=9) (hx:x=1∨x=2∨x=4) (hy:y=1∨y=2∨y=4):aI C0 209 [.int k, .i (.agg [.bool (wS x).null, .int (wS x).n]), .i (.agg [.bool (wS y).null, .int (wS y).n])] []=some (.i (.agg [.bool (Val.cmb k (wS x) (wS y)).null, .int (Val.cmb k (wS x) (wS y)).n]),[]):=by
 rw[aD rfl Tryz.func209 rfl rfl]
 rcases hk with rfl|rfl<;>rcases hx with rfl|rfl|rfl<;>rcases hy with rfl|rfl|rfl<;>(simp[wS,ZL,AJ3,AJ5,ANR];try decide)
@[simp] theorem wr8:IntKind.i64.wrap 8=8:=by decide
def pw (i:Nat):Int:=if i=0 then 1 else if i=1 then 2 else if i=2 then 4 else 8
def TSO (k:Int) (a b:Nat) (i:Nat):AS :=
 { env:=[(0, .int k),(1, .int a),(2, .int b),(6, .int 0),(7, .int (tsO k a b i)),(8, .int (pw i)),(9,jk i (.int 8)),(11,jk i (.bool true)),(15,jk i (.bool false)),(29,jk i (.bool (iX a (pw (i-1)) && iX b 4)))],st:=[] }
def TSI (k:Int) (a b:Nat) (i:Nat) (j:Nat):AS :=
 { env:=[(0, .int k),(1, .int a),(2, .int b),(6, .int 0),(7, .int (tsI k a b (pw i) (tsO k a b i) j)),(8, .int (pw i)),(9, .int (pw j)),(11, .bool true),(15,jk (i+j) (.bool (decide (j≠0)))),(29,jk (i+j) (.bool (if j=0 then iX a (pw (i-1)) && iX b 4 else iX a (pw i) && iX b (pw (j-1)))))],st:=[] }
theorem ABP {a:Nat} (ha:a<8) {x:Int} (hx:0<x) (hx8:x<8):IntKind.i64.wrap ((a:Int) / x)=(a:Int) / x∧(iX a x=decide (((a:Int) / x).tmod 2=1)):=by
 have h2:0≤(a:Int) / x:=Int.ediv_nonneg (by omega) (by omega);have h3:(a:Int) / x≤a:=Int.ediv_le_self _ (by omega);refine⟨wrO,?_⟩;unfold iX;rw[Int.tmod_eq_emod_of_nonneg h2]
theorem ZB (x:Int):aI C0 210 [.int x] []=some (.i (.agg [.bool (wS x).null, .int (wS x).n]),[]):=WE x
theorem AE0 {k a b x s:Int} {j:Nat} {y:Int} (h:(([1,2,4]:List Int))[j]?=some y):tsI k a b x s (j+1)=if(iX a x && iX b y)=true then orS (tsI k a b x s j) (stV (Val.cmb k (wS x) (wS y)))else tsI k a b x s j:=by
 unfold tsI;rw[aJ h,zB7];rfl
theorem ADZ {k a b:Int} {i:Nat} {x:Int} (h:(([1,2,4]:List Int))[i]?=some x):tsO k a b (i+1)=tsI k a b x (tsO k a b i) 3:=by
 unfold tsO;rw[aJ h,zB7];rfl
theorem U9 (i:Nat) (hi:i<3):(pw i=1∨pw i=2∨pw i=4)∧IntKind.i64.wrap (2*pw i)=pw (i+1)∧(([1,2,4]:List Int))[i]?=some (pw i):=by
 have h:i=0∨i=1∨i=2:=by omega
 rcases h with rfl|rfl|rfl<;>decide
theorem uY {k:Int} (hk:k=8∨k=9) {a b:Nat} (ha:a<8) (hb:b<8):aI C0 204 [.int k, .int a, .int b] []=some (.int (tsO k a b 3),[]):=by
 have p0:pw 0=1:=rfl;have p2:pw 2=4:=rfl;have p3:pw 3=8:=rfl;rw[aD rfl Tryz.func204 rfl rfl];simp;rw[aS (TSO k a b) 3 (by simp[TSO,tsO,p0])]
 ·rw[aG];simp[TSO,p3]
 ·intro i hi;obtain⟨x1,x2,x3⟩:=U9 i hi;have hsc:=ADZ (k:=k) (a:=a) (b:=b) x3;have hlo:=AII (k:=k) (a:=a) (b:=b) i;have xl:pw i≤4:=by omega
  have xz:(pw i != 0)=true:=by simp;omega
  obtain⟨ax,bx⟩:=ABP ha (x:=pw i) (by omega) (by omega);simp[TSO,xl];rw[aS (TSI k a b i) 3 (by simp[TSI,tsI,p0])]
  ·rw[aG];simp[TSI,TSO,p2,p3,hsc,x2]
  ·intro j hj;obtain⟨y1,y2,y3⟩:=U9 j hj;have yl:pw j≤4:=by omega
   have yz:(pw j != 0)=true:=by simp;omega
   have hs:=AE0 (k:=k) (a:=a) (b:=b) (x:=pw i) (s:=tsO k a b i) y3;obtain⟨m,m1,m2⟩:=ZF (k:=k) (a:=a) (b:=b) (x:=pw i) hlo j;obtain⟨n,n1,n2⟩:=EP (Val.cmb k (wS (pw i)) (wS (pw j)));have hcm:=AEH hk x1 y1;have hst:=NR (Val.cmb k (wS (pw i)) (wS (pw j))).null (Val.cmb k (wS (pw i)) (wS (pw j))).n;rw[show stV ⟨(Val.cmb k (wS (pw i)) (wS (pw j))).null,(Val.cmb k (wS (pw i)) (wS (pw j))).n⟩=stV (Val.cmb k (wS (pw i)) (wS (pw j)))from rfl,n1]at hst;rw[m1,n1,LG]at hs;obtain⟨cx,dx⟩:=ABP hb (x:=pw j) (by omega) (by omega);have hjk:=bY (show i+(j+1)≠0 by omega);by_cases p:iX a (pw i)=true
   ·have p':=p;rw[bx,zL]at p';by_cases q:iX b (pw j)=true
    ·have q':=q;rw[dx,zL]at q';rw[p,q]at hs;simp only[Bool.and_self,if_true]at hs;simp[TSI,yl,xz,yz,y2,hjk,ax,cx,p',q',p,q,ZB,hcm,hst,m1,BZ m2,BZ n2,or8 m2 n2,hs]
    ·have q2:iX b (pw j)=false:=by simpa using q
     have q':=q;rw[dx,zL]at q';rw[p,q2]at hs;simp only[Bool.and_false,yQ,if_false]at hs;simp[TSI,yl,xz,yz,y2,hjk,ax,cx,p',q',p,q2,m1,hs]
   ·have p2':iX a (pw i)=false:=by simpa using p
    have p':=p;rw[bx,zL]at p';rw[p2']at hs;simp only[Bool.false_and,yQ,if_false]at hs;simp[TSI,yl,xz,yz,y2,hjk,ax,p',p2',m1,hs]
theorem AE8 {k a b:Int} (hk:k=8∨k=9) (ha:okS a) (hb:okS b):aI C0 204 [.int k, .int a, .int b] []=some (.int (kR k a b),[]):=by
 obtain⟨m,rfl⟩:=yS (show 0≤a by have:=ha.1;omega);obtain⟨n,rfl⟩:=yS (show 0≤b by have:=hb.1;omega);have hm:m<8:=by have:=ha.2;omega
 have hn:n<8:=by have:=hb.2;omega
 have ht:=AN1 ⟨m,hm⟩ ⟨n,hn⟩
 rcases hk with rfl|rfl
 ·rw[uY (.inl rfl) hm hn];simp only at ht;rw[ht.1]
 ·rw[uY (.inr rfl) hm hn];simp only at ht;rw[ht.2]
theorem AF6:∀ m:Fin 8,(m.val &&& 3=0∧(iX m.val 1 || iX m.val 2)=false)∨((m.val &&& 3=1∨m.val &&& 3=2∨m.val &&& 3=3)∧(iX m.val 1 || iX m.val 2)=true):=by decide
theorem ATB {m:Nat} (hm:m<8):∃ v:Nat,m &&& 3=v∧IntKind.i64.wrap (v:Int)=v∧((v=0∧(iX m 1 || iX m 2)=false)∨(¬ v=0∧(iX m 1 || iX m 2)=true)):=by
 rcases AF6 ⟨m,hm⟩with ⟨h,q⟩|⟨h|h|h,q⟩
 ·exact⟨0,h,by decide, .inl ⟨rfl,q⟩⟩
 ·exact⟨1,h,by decide, .inr ⟨by omega,q⟩⟩
 ·exact⟨2,h,by decide, .inr ⟨by omega,q⟩⟩
 ·exact⟨3,h,by decide, .inr ⟨by omega,q⟩⟩
theorem NT {W:Int} (st:List Int) (hl:(st.length:Int)=W) (hs:∀ a∈st,okS a):∀ e:Ex,e.wf W=true→aI C0 190 [.i (.agg e.cells), .i (.isl (aF st))] []=some (.int (IK st e),[]):=by
 intro e
 induction e using Ex.ind with
 | h k c v ks ih =>
  intro hw;have hall:=LF st hl hs;rw[aD rfl Tryz.func190 rfl rfl,Ex.aA,RD]
  rcases Ex.uQ hw with ⟨h1,h2,h3,h4⟩|⟨h1,h2⟩|⟨h1,x,h2,h3⟩|⟨h1,x,y,h2,h3,h4⟩
  ·generalize Ex.mk k c v ks=e at *
   have hlt:e.col.toNat<st.length:=by omega
   have h5:=zX hlt;generalize st[e.col.toNat]=s at h5;have r2:=bH h5;obtain⟨_,h6⟩:=zY.1 h5;simp[h1,h2,r2,h6,show e.col<st.length by omega]
  ·generalize Ex.mk k c v ks=e at *
   have hst:=NR e.val.null e.val.n;simp[h1,hst]
  ·have hx:=ih x (by simp only[Ex.kids]at h2;simp[h2]) h3;have ho:=hall x h3;generalize Ex.mk k c v ks=e at *
   generalize hso:IK st x=s at hx ho;rw[Ex.aA]at hx
   rcases h1 with h1|h1
   ·rcases seven ho with rfl|rfl|rfl|rfl|rfl|rfl|rfl<;>(simp[h1,h2,Ex.aB,Ex.aA x,hx,hso];try decide)
   ·rcases seven ho with rfl|rfl|rfl|rfl|rfl|rfl|rfl<;>(simp[h1,h2,Ex.aB,Ex.aA x,hx,hso];try decide)
  ·have hx:=ih x (by simp only[Ex.kids]at h2;simp[h2]) h3;have hy:=ih y (by simp only[Ex.kids]at h2;simp[h2]) h4;have ho:=hall x h3;have hp:=hall y h4;generalize Ex.mk k c v ks=e at *
   generalize hso:IK st x=s at hx ho;generalize hto:IK st y=t at hy hp;rw[Ex.aA]at hx hy;have q1:¬ e.kind=1:=by omega
   have q2:¬ e.kind=2:=by omega
   have q3:¬ e.kind=10:=by omega
   have q4:¬ e.kind=11:=by omega
   by_cases hk:e.kind=8∨e.kind=9
   ·have hc:=AE8 (k:=e.kind) hk ho hp
    rcases hk with hk|hk<;>(rw[hk]at hc;simp[hk,h2,Ex.aB,Ex.aA x,Ex.aA y,hx,hy,hc,hso,hto])
   ·have q5:¬ e.kind=8:=by omega
    have q6:¬ e.kind=9:=by omega
    have hcs:kR e.kind s t=orS (if iX (orS s t) 4=true then 4 else 0) (if(iX s 1 || iX s 2)=true∧(iX t 1 || iX t 2)=true then(if e.kind<6 then 7 else 3)else 0):=if_neg hk;obtain⟨m,rfl⟩:=yS (show 0≤s by have:=ho.1;omega);obtain⟨n,rfl⟩:=yS (show 0≤t by have:=hp.1;omega);have hm:m<8:=by have:=ho.2;omega
    have hn:n<8:=by have:=hp.2;omega
    have h1:=BZ hm;have h2':=BZ hn;have h3':=or8 hm hn;have h4':(m ||| n) % 18446744073709551616=m ||| n:=BZ (xK (n:=3) hm hn)
    obtain⟨x',x1,x2,x3⟩:=ATB hm;obtain⟨y',y1,y2,y3⟩:=ATB hn;have e7:orS 0 7=7:=by decide
    have e3:orS 0 3=3:=by decide
    have e47:orS 4 7=7:=by decide
    have e43:orS 4 3=7:=by decide
    have e40:orS 4 0=4:=by decide
    have e00:orS 0 0=0:=by decide
    rcases FH hm hn with ⟨p,q⟩|⟨p,q⟩<;>rcases x3 with ⟨x3,x4⟩|⟨x3,x4⟩<;>rcases y3 with ⟨y3,y4⟩|⟨y3,y4⟩<;>by_cases q7:e.kind<6 <;>
     simp[q1,q2,q3,q4,q5,q6,q7,h2,Ex.aB,Ex.aA x,Ex.aA y,hx,hy,hso,hto,hcs,h1,h2',h3',h4',p,q,x1,x2,x3,x4,y1,y2,y3,y4,e7,e3,e47,e43,e40,e00]
theorem R3 (e:Ex) {n p m:Nat} (hn:n=p+m) (hb:n<1000) (h:e.wf n=true):aI C0 169 [.i (.agg e.cells), .int n, .i (.isl (aF (kH p m)))] []=some (.bool (AA9 e n p),[]):=by
 have hlen:((jN n p).length:Int)=(n:Int):=by rw[mM];omega
 have ho:=NT (jN n p) hlen (DU _ _) e h;have hs:=LF (jN n p) hlen (DU _ _) e h;have hns:=LJ hn hb;rw[aD rfl Tryz.func169 rfl rfl];unfold AA9;generalize IK (jN n p) e=s at ho hs;rw[Ex.aA]at *
 rcases seven hs with rfl|rfl|rfl|rfl|rfl|rfl|rfl<;>(simp[hns,ho];try decide)
set_option maxHeartbeats 4000000
def gW (g:FuncId) (ws:List Int) (r:Int) (p:Pn):Prop:=∃ (q:Pn) (b:Bool),aI C0 g [.i (.iref p.cells), .i (.isl (aF ws))] []=some (.tup [.i (.agg q.cells), .bool b],[])∧(b=true→rwP ws r p=some q)∧(b=false→∀ q',rwP ws r p=some q'→∀ lv,q'.wd ws lv=0)
@[simp] theorem APD (e:Ex) (k:Pn):(filt e k).kind=2:=rfl
@[simp] theorem AOD (es:List Ex) (k:Pn):(proj es k).kind=3:=rfl
@[simp] theorem AOJ (kd:Int) (e:Ex) (a b:Pn):(bB kd e a b).kind=kd:=rfl
@[simp] theorem ALI (a b:Pn):(dZ a b).kind=6:=rfl
theorem eQ (ws:List Int) (r:Int) (e:Ex) (k:Pn):rwP ws r (filt e k)=rwF ws r e k:=by simp[rwP,filt,Pn.ex0,Pn.jH,Pn.kind,Pn.exprs,Pn.kids]
theorem gW.no {g:FuncId} {ws:List Int} {r:Int} {p:Pn} (h:aI C0 g [.i (.iref p.cells), .i (.isl (aF ws))] []=some (.tup [.i (.agg Pn.zero.cells), .bool false],[])) (hr:rwP ws r p=none):gW g ws r p:=⟨.zero,false,h,by simp,by simp[hr]⟩
theorem gW.yes {g:FuncId} {ws:List Int} {r:Int} {p q:Pn} (h:aI C0 g [.i (.iref p.cells), .i (.isl (aF ws))] []=some (.tup [.i (.agg q.cells), .bool true],[])) (hr:rwP ws r p=some q):gW g ws r p:=⟨q,true,h,fun _=>hr,by simp⟩
theorem ARH {ws:List Int} {p:Pn} {W:Int} (hp:Wd ws p W):gW 110 ws 1 p:=by
 by_cases hk:p.kind=2
 ·obtain⟨e,a,rfl⟩:=o6 hp hk;by_cases hk2:a.kind=2
  ·obtain⟨e2,a2,rfl⟩:=o6 (gJ hp).1 hk2;refine .yes (q:=filt (VK e2 e) a2) ?_ (by rw[eQ];simp[rwF,filt,Pn.ex0,Pn.jH,Pn.kind,Pn.exprs,Pn.kids]);have h1:=fA (e:=e) (k:=filt e2 a2) (kd:=2) rfl;have h2:=AC9 e2 e;have h3:=dX (VK e2 e) a2;rw[aD rfl Tryz.func110 rfl rfl];simp only[aR,nY,Ex.aA e,Ex.aA e2,Pn.aA a2]at h1 h2 h3 ⊢;simp[h1,h2,h3]
  ·refine .no ?_ (by rw[eQ];simp[rwF,hk2]);have h1:=dJ (e:=e) (k:=a) (kd:=2) hk2;rw[aD rfl Tryz.func110 rfl rfl];simp only[aR,aT]at h1 ⊢;simp[h1]
 ·refine .no ?_ (by simp[rwP,hk]);have h1:=eX (p:=p) (kd:=2) hk;rw[aD rfl Tryz.func110 rfl rfl];simp only[aT,Pn.aA p]at h1 ⊢;simp[h1]
theorem ARC {ws:List Int} {p:Pn} {W:Int} (hp:Wd ws p W):gW 114 ws 5 p:=by
 by_cases hk:p.kind=2
 ·obtain⟨e,a,rfl⟩:=o6 hp hk;by_cases hk2:a.kind=4
  ·obtain⟨e2,x,y,hx⟩:=iB (gJ hp).1 (.inl hk2);rw[hk2]at hx;subst hx;refine .yes (q:=bB 4 (VK e2 e) x y) ?_ (by rw[eQ];simp[rwF,bB,Pn.ex0,Pn.jH,Pn.qL,Pn.kind,Pn.exprs,Pn.kids]);have h1:=fA (e:=e) (k:=bB 4 e2 x y) (kd:=4) rfl;have h2:=AC9 e2 e;have h3:=lL 4 (VK e2 e) x y;rw[aD rfl Tryz.func114 rfl rfl];simp only[aR,pair_cells,nY,Ex.aA e,Ex.aA e2,Pn.aA x,Pn.aA y]at h1 h2 h3 ⊢;simp[h1,h2,h3]
  ·refine .no ?_ (by rw[eQ];simp[rwF,hk2]);have h1:=dJ (e:=e) (k:=a) (kd:=4) hk2;rw[aD rfl Tryz.func114 rfl rfl];simp only[aR,aT]at h1 ⊢;simp[h1]
 ·refine .no ?_ (by simp[rwP,hk]);have h1:=eX (p:=p) (kd:=4) hk;rw[aD rfl Tryz.func114 rfl rfl];simp only[aT,Pn.aA p]at h1 ⊢;simp[h1]
theorem AR9 {ws:List Int} {p:Pn} {W:Int} (hp:Wd ws p W):gW 117 ws 8 p:=by
 by_cases hk:p.kind=2
 ·obtain⟨e,a,rfl⟩:=o6 hp hk;by_cases hk2:a.kind=6
  ·obtain⟨x,y,rfl⟩:=ACU (gJ hp).1 hk2;refine .yes (q:=dZ (filt e x) (filt e y)) ?_ (by rw[eQ];simp[rwF,dZ,Pn.ex0,Pn.jH,Pn.qL,Pn.kind,Pn.exprs,Pn.kids]);have h1:=fA (e:=e) (k:=dZ x y) (kd:=6) rfl;have h2:=dX e x;have h3:=dX e y;rw[aD rfl Tryz.func117 rfl rfl];simp only[aR,EK,Ex.aA e,Pn.aA x,Pn.aA y]at h1 h2 h3 ⊢;simp[h1,h2,h3]
  ·refine .no ?_ (by rw[eQ];simp[rwF,hk2]);have h1:=dJ (e:=e) (k:=a) (kd:=6) hk2;rw[aD rfl Tryz.func117 rfl rfl];simp only[aR,aT]at h1 ⊢;simp[h1]
 ·refine .no ?_ (by simp[rwP,hk]);have h1:=eX (p:=p) (kd:=6) hk;rw[aD rfl Tryz.func117 rfl rfl];simp only[aT,Pn.aA p]at h1 ⊢;simp[h1]
theorem AR8 {ws:List Int} {p:Pn} {W:Int} (hp:Wd ws p W):gW 118 ws 9 p:=by
 by_cases hk:p.kind=7
 ·obtain⟨a,rfl⟩:=ACV hp hk;have hc:(Pn.mk 7 0 [] [] [a]).cells=[.int 7, .int 0, .isl [], .isl [], .isl [a.cells]]:=by simp[Pn.cells,Ex.aB,aF,Pn.aB]
  by_cases hk2:a.kind=7∨a.kind=8
  ·refine .yes (q:=a) ?_ (by simp[rwP,Pn.jH,Pn.kids,hk2]);rw[aD rfl Tryz.func118 rfl rfl];simp only[hc,Pn.aA a]
   rcases hk2 with hk2|hk2<;>simp[hk2]
  ·refine .no ?_ (by simp[rwP,Pn.jH,Pn.kids,hk2]);rw[aD rfl Tryz.func118 rfl rfl];simp only[hc,aT,Pn.aA a];have h7:¬ a.kind=7:=by omega
   have h8:¬ a.kind=8:=by omega
   simp[h7,h8]
 ·refine .no ?_ ?_
  ·rw[aD rfl Tryz.func118 rfl rfl];simp only[aT,Pn.aA p];simp[hk]
  ·unfold rwP;split
   ·unfold rwF;simp
   ·simp[hk]
theorem ARG {ws:List Int} {p:Pn} {W:Int} (hp:Wd ws p W):gW 111 ws 2 p:=by
 by_cases hk:p.kind=2
 ·obtain⟨e,a,rfl⟩:=o6 hp hk;by_cases hk2:e.kind=8
  ·have hw:=(Ex.D8 (gJ hp).2).1
   obtain⟨x,y,hxy⟩:∃ x y,e.kids=[x,y]:=by
    rcases Ex.uQ hw with ⟨h,_⟩|⟨h,_⟩|⟨h,_⟩|⟨_,x,y,h,_⟩
    ·omega
    ·omega
    ·omega
    ·exact⟨x,y,h⟩
   refine .yes (q:=filt y (filt x a)) ?_ (by rw[eQ];simp[rwF,hk2,Ex.jH,Ex.qL,hxy]);have h2:=dX x a;have h3:=dX y (filt x a);rw[aD rfl Tryz.func111 rfl rfl];simp only[aR,Ex.aA e,hxy,Ex.aB,Ex.aA x,Ex.aA y,Pn.aA a]at h2 h3 ⊢;simp[hk2,h2,h3]
  ·refine .no ?_ (by rw[eQ];simp[rwF,hk2]);rw[aD rfl Tryz.func111 rfl rfl];simp only[aR,aT,Ex.aA e];simp[hk2]
 ·refine .no ?_ (by simp[rwP,hk]);rw[aD rfl Tryz.func111 rfl rfl];simp only[aT,Pn.aA p];simp[hk]
end Go.Proofs.YtjdfjgmebalaaaaGreat.P
namespace Go.Av
theorem sI {ws:List Int} {e:Ex} {a:Pn} (h:(filt e a).wd ws 8≠0):a.wd ws 8≠0∧e.ok (a.wd ws 8)=true∧(filt e a).wd ws 8=a.wd ws 8:=by
 have h1:=h;rw[EG]at h1;obtain⟨h2,h3⟩:=fQ h1;have hm:=Pn.kK a 7 8 h3 (by omega);rw[hm];exact⟨h3,h2.2,by rw[EG,if_pos h2]⟩
theorem LD {ws:List Int} {kd:Int} {e:Ex} {a b:Pn} (hk:kd=4∨kd=5) (h:(bB kd e a b).wd ws 8≠0):a.wd ws 8≠0∧b.wd ws 8≠0∧a.wd ws 8+b.wd ws 8≤6∧e.ok (a.wd ws 8+b.wd ws 8)=true∧(bB kd e a b).wd ws 8=a.wd ws 8+b.wd ws 8:=by
 have h1:=h;rw[EF hk]at h1;obtain⟨h2,h3⟩:=fQ h1;rw[Pn.kK a 7 8 h2.1 (by omega),Pn.kK b 7 8 h2.2.1 (by omega)];exact⟨h2.1,h2.2.1,h2.2.2.1,h2.2.2.2,by rw[EF hk,if_pos h2]⟩
theorem XC {ws:List Int} {es:List Ex} {a:Pn} (h:(proj es a).wd ws 8≠0):a.wd ws 8≠0∧bJ es.length=true∧es.all (Ex.ok (a.wd ws 8))=true∧(proj es a).wd ws 8=es.length:=by
 have h1:=h;rw[wQ]at h1;obtain⟨h2,h3⟩:=fQ h1;rw[Pn.kK a 7 8 h2.1 (by omega)];exact⟨h2.1,h2.2.1,h2.2.2,by rw[wQ,if_pos h2]⟩
theorem AG5 {e:Ex} {n:Nat} (h:e.sJ (fun c=>decide (0≤c))=true):(e.bits / 2 ^ n=0)=(e.cin 0 n=true):=by
 rw[eq_iff_iff,AL3 h n];unfold Ex.cin;constructor
 ·intro h1;exact Ex.nZ (by simp) e (Ex.VM e h h1)
 ·intro h1;exact Ex.nZ (fun c hc=>by simp at hc ⊢;exact hc.2) e h1
theorem AG4 {e:Ex} {n W:Nat} (h:e.sJ (fun c=>decide (0≤c∧c<(W:Int)))=true):(e.bits &&& (2 ^ n-1)=0)=(e.cin n W=true):=by
 have h0:e.sJ (fun c=>decide (0≤c))=true:=Ex.nZ (fun c hc=>by simp at hc ⊢;exact hc.1) e h;rw[eq_iff_iff,AL2 h0 n];unfold Ex.cin;constructor
 ·intro h1;exact Ex.nZ (fun c hc=>by simp at hc ⊢;omega) e (Ex.VM e h h1)
 ·intro h1;exact Ex.nZ (fun c hc=>by simp at hc ⊢;exact hc.1) e h1
end Go.Av
namespace Go.Proofs.YtjdfjgmebalaaaaGreat.P
open Go Go.Av
set_option maxRecDepth 4000
set_option maxHeartbeats 4000000
theorem BD {ws:List Int} (hw:kE ws=true) (p:Pn):aI C0 68 [.i (.agg p.cells), .i (.isl (aF ws))] []=some (.int (p.wd ws 8),[]):=by
 rw[BU];unfold Pn.width;rw[if_pos hw]
theorem uS {ws:List Int} (hw:kE ws=true) {p:Pn} (h:p.wd ws 8≠0):∃ n:Nat,p.wd ws 8=n∧1≤n∧n≤6:=by
 have:=Pn.rE (l8 hw) p 8;exact⟨(p.wd ws 8).toNat,by omega,by omega,by omega⟩
theorem AFQ (a b:Nat):Int.fdiv (a:Int) (b:Int)=((a / b:Nat):Int):=by
 rw[Int.fdiv_eq_ediv_of_nonneg _ (Int.natCast_nonneg b)];rfl
theorem AT6 {n:Nat} (hn:n≤6):(IntKind.i64.wrap (IntKind.i64.wrap (2 ^ min n IntKind.i64.bits)-1) % 18446744073709551616).toNat=2 ^ n-1:=by
 have:n=0∨n=1∨n=2∨n=3∨n=4∨n=5∨n=6:=by omega
 rcases this with rfl|rfl|rfl|rfl|rfl|rfl|rfl<;>decide
theorem AEP {ws:List Int} (hw:kE ws=true) {e e2:Ex} {x y:Pn} {kd:Int} (hkd:kd=4∨kd=5) (hp:(filt e (bB kd e2 x y)).wd ws 8≠0):gW 112 ws 3 (filt e (bB kd e2 x y)):=by
 obtain⟨h1,h2,h3⟩:=sI hp;obtain⟨g1,g2,g3,g4,g5⟩:=LD hkd h1;rw[g5]at h2;obtain⟨n,hn,n1,n2⟩:=uS hw g1;have hwf:=Ex.AAL h2;have hcol:=Ex.TN hwf;have hb:=Ex.MF e hcol;have c1:=KF e (by have:=Ex.gP h2;omega) hcol;have c2:=BD hw x;have c3:=dX e x;have c4:=lL kd e2 (filt e x) y;have q:=AG5 (n:=n) (Ex.ADT hwf);rw[hn]at c2;have o1:aI C0 148 [.i (.iref (filt e (bB kd e2 x y)).cells), .int kd] []=_:=fA (e:=e) (k:=bB kd e2 x y) (kd:=kd) rfl;have o2:kd=5→aI C0 148 [.i (.iref (filt e (bB kd e2 x y)).cells), .int 4] []=_:=fun h=>dJ (e:=e) (k:=bB kd e2 x y) (kd:=4) (by simp[h])
 have hsh:shI .shr .i64 (e.bits:Int) (n:Int)=some (.lit (.int .i64 ((e.bits / 2 ^ n:Nat):Int))):=by
  have h1:min (n:Int).toNat IntKind.i64.bits=n:=by simp[IntKind.bits];omega
  have h2:(0:Int)≤n:=by omega
  simp only[shI,h1,h2,decide_true,tst];rw[show(2:Int) ^ n=((2 ^ n:Nat):Int)by simp,AFQ]
 have hr:rwP ws 3 (filt e (bB kd e2 x y))=if e.cin 0 n=true then some (bB kd e2 (filt e x) y)else none:=by
  rw[eQ];simp[rwF,bB,Pn.ex0,Pn.jH,Pn.qL,Pn.kind,Pn.exprs,Pn.kids,hkd,hn]
 generalize hd:e.bits / 2 ^ n=d at *
 by_cases hc:e.cin 0 n=true
 ·rw[if_pos hc]at hr;have hd0:d=0:=by rw[q];exact hc
  subst hd0;refine .yes ?_ hr;rw[aD rfl Tryz.func112 rfl rfl]
  rcases hkd with rfl|rfl
  ·simp only[aR,pair_cells,Ex.aA e,Ex.aA e2,Pn.aA x,Pn.aA y]at o1 c1 c2 c3 c4 ⊢;simp[o1,c1,c2,c3,c4,hsh]
  ·have o2:=o2 rfl;simp only[aR,pair_cells,Ex.aA e,Ex.aA e2,Pn.aA x,Pn.aA y]at o1 o2 c1 c2 c3 c4 ⊢;simp[o1,o2,c1,c2,c3,c4,hsh]
 ·rw[if_neg hc]at hr;have hd0:¬ d=0:=by rw[q];exact hc
  refine .no ?_ hr;rw[aD rfl Tryz.func112 rfl rfl]
  rcases hkd with rfl|rfl
  ·simp only[aR,pair_cells,aT,Ex.aA e,Ex.aA e2,Pn.aA x,Pn.aA y]at o1 c1 c2 ⊢;simp[o1,c1,c2,hsh,hd0]
  ·have o2:=o2 rfl;simp only[aR,pair_cells,aT,Ex.aA e,Ex.aA e2,Pn.aA x,Pn.aA y]at o1 o2 c1 c2 ⊢;simp[o1,o2,c1,c2,hsh,hd0]
theorem ARF {ws:List Int} (hw:kE ws=true) {p:Pn} (hp:p.wd ws 8≠0):gW 112 ws 3 p:=by
 by_cases hk:p.kind=2
 ·obtain⟨e,a,rfl⟩:=o6 (lY hp) hk;by_cases hk2:a.kind=4∨a.kind=5
  ·obtain⟨e2,x,y,hx⟩:=iB (gJ (lY hp)).1 hk2;generalize a.kind=kd at *
   subst hx;exact AEP hw hk2 hp
  ·have h1:=dJ (e:=e) (k:=a) (kd:=4) (by omega);have h2:=dJ (e:=e) (k:=a) (kd:=5) (by omega);refine .no ?_ (by rw[eQ];simp[rwF,hk2]);rw[aD rfl Tryz.func112 rfl rfl];simp only[aR,aT]at h1 h2 ⊢;simp[h1,h2]
 ·have h1:=eX (p:=p) (kd:=4) hk;have h2:=eX (p:=p) (kd:=5) hk;refine .no ?_ (by simp[rwP,hk]);rw[aD rfl Tryz.func112 rfl rfl];simp only[aT,Pn.aA p]at h1 h2 ⊢;simp[h1,h2]
theorem AGE {b n:Nat} (hb:b<64):IntKind.i64.wrap ((b:Int) % 18446744073709551616 % 2 ^ n)=((b &&& (2 ^ n-1):Nat):Int):=by
 rw[Nat.and_two_pow_sub_one_eq_mod];have h1:(b:Int) % 18446744073709551616=b:=by omega
 have h2:(b:Int) % 2 ^ n=((b % 2 ^ n:Nat):Int):=by simp
 rw[h1,h2];have:=Nat.mod_le b (2 ^ n);exact wrO
theorem AEO {ws:List Int} (hw:kE ws=true) {e e2:Ex} {x y:Pn} (hp:(filt e (bB 4 e2 x y)).wd ws 8≠0):gW 113 ws 4 (filt e (bB 4 e2 x y)):=by
 obtain⟨h1,h2,h3⟩:=sI hp;obtain⟨g1,g2,g3,g4,g5⟩:=LD (.inl rfl) h1;rw[g5]at h2;obtain⟨n,hn,n1,n2⟩:=uS hw g1;obtain⟨m,hm,m1,m2⟩:=uS hw g2;have hwf:=Ex.AAL h2;have hcol:=Ex.TN hwf;have hcolW:=Ex.KQ e (Ex.D8 h2).1;have hb:=Ex.MF e hcol;have hsz:e.size<1000000000:=by have:=Ex.gP h2;omega
 have c1:=KF e hsz hcol;have c2:=BD hw x;have c5:=R7 (w:=n) (by omega) e hwf hsz;have c3:=dX (e.u7 (·-n)) y;have c4:=lL 4 e2 x (filt (e.u7 (·-n)) y);rw[hn,hm,← Int.natCast_add]at hcolW;have q:=AG4 (n:=n) hcolW;rw[hn]at c2;have o1:=fA (e:=e) (k:=bB 4 e2 x y) (kd:=4) rfl
 have hr:rwP ws 4 (filt e (bB 4 e2 x y))=if e.cin n (n+m:Nat)=true then some (bB 4 e2 x (filt (e.u7 (·-n)) y))else none:=by
  rw[eQ]
  have:∀ k:Pn,(Pn.mk 4 0 [e2] [] [x,y]).wd ws 8=((n+m:Nat):Int):=fun _=>by
   have:=g5;unfold bB at this;rw[this,hn,hm];simp
  simp[rwF,bB,Pn.ex0,Pn.jH,Pn.qL,Pn.kind,Pn.exprs,Pn.kids,hn,this x]
 have haw:=AGE (b:=e.bits) (n:=n) (by omega);by_cases hc:e.cin n (n+m:Nat)=true
 ·rw[if_pos hc]at hr;have hd0:e.bits &&& (2 ^ n-1)=0:=by rw[q];exact hc
  rw[hd0]at haw;refine .yes ?_ hr;generalize e.u7 (·-(n:Int))=z at *
  rw[aD rfl Tryz.func113 rfl rfl];simp only[aR,pair_cells,Ex.aA e,Ex.aA e2,Ex.aA z,Pn.aA x,Pn.aA y]at o1 c1 c2 c3 c4 c5 ⊢;simp[o1,c1,c2,c3,c4,c5,AT6 n2,haw]
 ·rw[if_neg hc]at hr;have hd0:¬ (e.bits &&& (2 ^ n-1)=0):=by rw[q];exact hc
  refine .no ?_ hr;generalize e.bits &&& (2 ^ n-1)=d at *
  rw[aD rfl Tryz.func113 rfl rfl];simp only[aR,pair_cells,aT,Ex.aA e,Ex.aA e2,Pn.aA x,Pn.aA y]at o1 c1 c2 ⊢;simp[o1,c1,c2,hd0,AT6 n2,haw]
theorem ARD {ws:List Int} (hw:kE ws=true) {p:Pn} (hp:p.wd ws 8≠0):gW 113 ws 4 p:=by
 by_cases hk:p.kind=2
 ·obtain⟨e,a,rfl⟩:=o6 (lY hp) hk;by_cases hk2:a.kind=4
  ·obtain⟨e2,x,y,hx⟩:=iB (gJ (lY hp)).1 (.inl hk2);rw[hk2]at hx;subst hx;exact AEO hw hp
  ·have h1:=dJ (e:=e) (k:=a) (kd:=4) hk2;refine .no ?_ (by rw[eQ];simp[rwF,hk2]);rw[aD rfl Tryz.func113 rfl rfl];simp only[aR,aT]at h1 ⊢;simp[h1]
 ·have h1:=eX (p:=p) (kd:=4) hk;refine .no ?_ (by simp[rwP,hk]);rw[aD rfl Tryz.func113 rfl rfl];simp only[aT,Pn.aA p]at h1 ⊢;simp[h1]
theorem ZY {ws:List Int} (hw:kE ws=true) {e:Ex} {es:List Ex} {x:Pn} (hp:(filt e (proj es x)).wd ws 8≠0):gW 119 ws 10 (filt e (proj es x)):=by
 obtain⟨h1,h2,h3⟩:=sI hp;obtain⟨g1,g2,g3,g4⟩:=XC h1;rw[g4]at h2;have c2:=BD hw x;have c5:=ABC e es (x.wd ws 8);have o1:=fA (e:=e) (k:=proj es x) (kd:=3) rfl
 have hr:rwP ws 10 (filt e (proj es x))=some (proj es (filt (e.sub es) x)):=by
  rw[eQ];simp[rwF,proj,Pn.ex0,Pn.jH,Pn.qL,Pn.kind,Pn.exprs,Pn.kids]
 have c3:=dX (AFL (e.subst es (x.wd ws 8))) x;refine⟨proj es (filt (AFL (e.subst es (x.wd ws 8))) x),(e.subst es (x.wd ws 8)).isSome,?_,?_,?_⟩
 ·generalize (e.subst es (x.wd ws 8)).isSome=b at *
  generalize AFL (e.subst es (x.wd ws 8))=z at *
  rw[aD rfl Tryz.func119 rfl rfl];simp only[aR,iG,Ex.aA e,Ex.aA z,Pn.aA x]at o1 c2 c3 c5 ⊢;simp[o1,c2,c3,c5]
 ·intro hb;rw[hr];unfold Ex.subst at hb ⊢;split at hb
  ·rename_i hcc;rw[if_pos hcc];rfl
  ·simp at hb
 ·intro hb q' hq lv;rw[hr]at hq;injection hq with hq;subst hq
  cases lv with
  | zero=>rw[Pn.WA];simp[proj,Pn.kids]
  | succ lv =>
   rw[wQ];refine if_neg fun hc=>?_
   have hc1:=hc.1
   cases lv with
   | zero=>exact hc1 (by rw[Pn.WA];simp[filt,Pn.kids])
   | succ lv =>
    rw[EG]at hc1;obtain⟨⟨hx,hok⟩,_⟩:=fQ hc1;have e8:=AGK (lY g1) hx;rw[e8]at hok;unfold Ex.subst at hb;rw[if_pos (by simp only[zT];exact⟨h2,g3,hok⟩)]at hb;simp at hb
theorem AO0 {ws:List Int} (hw:kE ws=true) {p:Pn} (hp:p.wd ws 8≠0):gW 119 ws 10 p:=by
 by_cases hk:p.kind=2
 ·obtain⟨e,a,rfl⟩:=o6 (lY hp) hk;by_cases hk2:a.kind=3
  ·obtain⟨es,x,rfl⟩:=mR (gJ (lY hp)).1 hk2;exact ZY hw hp
  ·have h1:=dJ (e:=e) (k:=a) (kd:=3) hk2;refine .no ?_ (by rw[eQ];simp[rwF,hk2]);rw[aD rfl Tryz.func119 rfl rfl];simp only[aR,aT]at h1 ⊢;simp[h1]
 ·have h1:=eX (p:=p) (kd:=3) hk;refine .no ?_ (by simp[rwP,hk]);rw[aD rfl Tryz.func119 rfl rfl];simp only[aT,Pn.aA p]at h1 ⊢;simp[h1]
def OIX (e e2:Ex) (x y:Pn) (ws:List Int) (n m i:Nat):AS :=
 { env:=[(0, .i (.iref [.int 2, .int 0, .isl [[.int e.kind, .int e.col, .bool e.val.null, .int e.val.n, .isl (Ex.aB e.kids)]], .isl [], .isl [[.int 5, .int 0, .isl [[.int e2.kind, .int e2.col, .bool e2.val.null, .int e2.val.n, .isl (Ex.aB e2.kids)]], .isl [], .isl [[.int x.kind, .int x.table, .isl (Ex.aB x.exprs), .isl (aF x.cols), .isl (Pn.aB x.kids)],[.int y.kind, .int y.table, .isl (Ex.aB y.exprs), .isl (aF y.cols), .isl (Pn.aB y.kids)]]]]])),(1, .i (.isl (aF ws))),(4, .own 0 0),(5, .bool false),(6, .i (.iref [.int e.kind, .int e.col, .bool e.val.null, .int e.val.n, .isl (Ex.aB e.kids)])),
    (7, .i (.iref [.int 5, .int 0, .isl [[.int e2.kind, .int e2.col, .bool e2.val.null, .int e2.val.n, .isl (Ex.aB e2.kids)]], .isl [], .isl [[.int x.kind, .int x.table, .isl (Ex.aB x.exprs), .isl (aF x.cols), .isl (Pn.aB x.kids)],[.int y.kind, .int y.table, .isl (Ex.aB y.exprs), .isl (aF y.cols), .isl (Pn.aB y.kids)]]])),(8, .bool true),(9, .int ((n:Int)+m)),(10,gro 1 1 i),(11, .int ((n:Int)+i)),(19, .bool false),(36,jk i (.bool true)),(49, .junk)],
   st:=some (.box [.int 0, .int 0, .nils, .nils, .nils])::YY 1 (aF (kH n i)) i }
theorem AEM {ws:List Int} (hw:kE ws=true) {e e2:Ex} {x y:Pn} (hp:(filt e (bB 5 e2 x y)).wd ws 8≠0):gW 116 ws 7 (filt e (bB 5 e2 x y)):=by
 obtain⟨h1,h2,h3⟩:=sI hp;obtain⟨g1,g2,g3,g4,g5⟩:=LD (.inr rfl) h1;have c1:=BD hw (bB 5 e2 x y);rw[g5]at h2 c1;obtain⟨n,hn,n1,n2⟩:=uS hw g1;obtain⟨m,hm,m1,m2⟩:=uS hw g2;have c2:=BD hw x;rw[hn,hm,← Int.natCast_add]at h2 c1;rw[hn]at c2;have c3:=lL 4 e2 x y;have c4:=dX e (bB 4 e2 x y);have c5:=RP e (n:=n+m) (p:=n) (m:=m) rfl h2;have o1:=fA (e:=e) (k:=bB 5 e2 x y) (kd:=5) rfl
 have hr:rwP ws 7 (filt e (bB 5 e2 x y))=if AA9 e (n+m:Nat) n=true then some (filt e (bB 4 e2 x y))else none:=by
  rw[eQ]
  have:(Pn.mk 5 0 [e2] [] [x,y]).wd ws 8=((n+m:Nat):Int):=by
   have:=g5;unfold bB at this;rw[this,hn,hm];simp
  simp[rwF,bB,Pn.ex0,Pn.jH,Pn.qL,Pn.kind,Pn.exprs,Pn.kids,hn,this]
 generalize AA9 e (n+m:Nat) n=b at *
 have key:aI C0 116 [.i (.iref (filt e (bB 5 e2 x y)).cells), .i (.isl (aF ws))] []=some (.tup [.i (.agg (if b=true then filt e (bB 4 e2 x y)else Pn.zero).cells), .bool b],[]):=by
  rw[aD rfl Tryz.func116 rfl rfl];simp only[aR,pair_cells,aT,Ex.aA e,Ex.aA e2,Pn.aA x,Pn.aA y]at o1 c1 c2 c3 c4 c5 ⊢;have ht:∀ k,(kH n k).take k=kH n k:=fun k=>zZ (by simp)
  simp only[yJ]at c5;simp[o1,c1,c2];rw[aS (OIX e e2 x y ws n m) m (by simp[OIX])]
  ·rw[aG];simp[OIX,aP (show m≠0 by omega),aM (show m≠0 by omega),bY (show m≠0 by omega)]
   cases b with
   | true=>simp[c3,c4,c5,ht,aR,pair_cells,Ex.aA e,Ex.aA e2,Pn.aA x,Pn.aA y]
   | false=>simp[c5,ht,aT]
  ·intro i hi;have w2:IntKind.i64.wrap ((n:Int)+i+1)=n+(i+1):=by rw[wrO];omega
   have hs:=KG n i;have hlt:(n:Int)+i<n+m:=by omega
   by_cases h0:i=0
   ·subst h0;have hlt0:(n:Int)<n+m:=by omega
    have w3:IntKind.i64.wrap ((n:Int)+1)=n+1:=by rw[wrO]
    simp[OIX,w3,hlt0,hs,bC,aF,kH]
   ·have hl1:(i+1)*8≤140737488355328:=by omega
    simp[OIX,w2,hlt,hs,aP h0,aM h0,bY h0,bC,aF,hl1,ht]
 cases b with
 | true=>exact .yes key (by rw[hr];rfl)
 | false=>exact .no key (by rw[hr];rfl)
theorem ARA {ws:List Int} (hw:kE ws=true) {p:Pn} (hp:p.wd ws 8≠0):gW 116 ws 7 p:=by
 by_cases hk:p.kind=2
 ·obtain⟨e,a,rfl⟩:=o6 (lY hp) hk;by_cases hk2:a.kind=5
  ·obtain⟨e2,x,y,hx⟩:=iB (gJ (lY hp)).1 (.inr hk2);rw[hk2]at hx;subst hx;exact AEM hw hp
  ·have h1:=dJ (e:=e) (k:=a) (kd:=5) hk2;refine .no ?_ (by rw[eQ];simp[rwF,hk2]);rw[aD rfl Tryz.func116 rfl rfl];simp only[aR,aT]at h1 ⊢;simp[h1]
 ·have h1:=eX (p:=p) (kd:=5) hk;refine .no ?_ (by simp[rwP,hk]);rw[aD rfl Tryz.func116 rfl rfl];simp only[aT,Pn.aA p]at h1 ⊢;simp[h1]
theorem VB {n m i:Nat} (h:i<n+m):(aU (m:Int) n++aU 0 m)[i]?=some (VD (oG n m i)):=by
 by_cases hi:i<n
 ·rw[yY (by simpa using hi),qW hi];unfold oG;rw[if_pos (by omega),Int.add_comm]
 ·rw[yX (by simp;omega),qX,qW (by omega)];unfold oG;rw[if_neg (by omega)];congr 2;omega
def MPX (fs es:List Ex) (x:Pn) (ws:List Int) (W:Int) (zs:List Ex) (i:Nat):AS :=
 { env:=[(0, .i (.iref [.int 3, .int 0, .isl (Ex.aB fs), .isl [], .isl [[.int 3, .int 0, .isl (Ex.aB es), .isl [], .isl [[.int x.kind, .int x.table, .isl (Ex.aB x.exprs), .isl (aF x.cols), .isl (Pn.aB x.kids)]]]]])),(1, .i (.isl (aF ws))),(4, .own 0 0),(5, .bool false),(6, .i (.iref [.int 3, .int 0, .isl (Ex.aB es), .isl [], .isl [[.int x.kind, .int x.table, .isl (Ex.aB x.exprs), .isl (aF x.cols), .isl (Pn.aB x.kids)]]])),(7, .int W),(8, .own 1 0),(9,jk i (.int (i-1))),(10,if i=0 then .junk else .own 3 0),(11,jk i (.bool true)),(26, .bool false),(50, .int fs.length),(51, .int i),(52,jk i (.bool true)),(71,jk i (.bool false))],
   st:=some (.box [.int 0, .int 0, .nils, .nils, .nils])::some (.box [.int 3, .int 0,gro 2 5 i, .nils, .i (.isl [[.int x.kind, .int x.table, .isl (Ex.aB x.exprs), .isl (aF x.cols), .isl (Pn.aB x.kids)]])])::(if i=0 then []else [some (.arr 5 (Ex.aB (zs.take i))),some (.box (lW ((zs[i-1]?).getD Ex.zero).cells))]) }
def CJX (e:Ex) (x y:Pn) (ws:List Int) (n m i:Nat):AS :=
 { env:=[(0, .i (.iref [.int 4, .int 0, .isl [[.int e.kind, .int e.col, .bool e.val.null, .int e.val.n, .isl (Ex.aB e.kids)]], .isl [], .isl [[.int x.kind, .int x.table, .isl (Ex.aB x.exprs), .isl (aF x.cols), .isl (Pn.aB x.kids)],[.int y.kind, .int y.table, .isl (Ex.aB y.exprs), .isl (aF y.cols), .isl (Pn.aB y.kids)]]])),(1, .i (.isl (aF ws))),(4, .own 0 0),(5, .bool false),(6, .own 1 0),(7, .own 2 0),(8, .fn (.func 155) [.own 1 0, .own 2 0]),(9, .own 3 0),(10,jk i (.int (i-1))),(15, .bool false),(37, .int ((n:Int)+m)),(38, .int i),(39,jk i (.bool true))],
   st:=some (.box [.int 0, .int 0, .nils, .nils, .nils])::some (.box [.int n])::some (.box [.int m])::some (.box [.int 3, .int 0,gro 4 5 i, .nils, .nils])::YY 5 (Ex.aB ((aU (m:Int) n++aU 0 m).take i)) i }
theorem AEN {ws:List Int} (hw:kE ws=true) {e:Ex} {x y:Pn} (hp:(bB 4 e x y).wd ws 8≠0):gW 115 ws 6 (bB 4 e x y):=by
 obtain⟨g1,g2,g3,g4,g5⟩:=LD (.inl rfl) hp;obtain⟨n,hn,n1,n2⟩:=uS hw g1;obtain⟨m,hm,m1,m2⟩:=uS hw g2;have c1:=BD hw x;have c2:=BD hw y;have hwf:=Ex.AAL g4;have hsz:e.size<1000000000:=by have:=Ex.gP g4;omega
 have c5:=R6 (a:=n) (b:=m) (by omega) (by omega) e hwf hsz;have c4:=lL 4 (e.u7 (oG n m)) y x
 have hr:rwP ws 6 (bB 4 e x y)=some (proj (aU m n++aU 0 m) (bB 4 (e.u7 (oG n m)) y x)):=by
  simp[rwP,bB,Pn.ex0,Pn.jH,Pn.qL,Pn.kind,Pn.exprs,Pn.kids,hn,hm]
 rw[hn]at c1;rw[hm]at c2;refine .yes ?_ hr;generalize e.u7 (oG n m)=z at *
 rw[aD rfl Tryz.func115 rfl rfl];simp only[iG,pair_cells,aT,Ex.aA e,Ex.aA z,Pn.aA x,Pn.aA y]at c1 c2 c4 c5 ⊢;have w0:IntKind.i64.wrap ((n:Int)+m)=n+m:=wrO;have hlen:(aU (m:Int) n++aU 0 m).length=n+m:=by simp
 simp[c1,c2,w0];rw[aS (CJX e x y ws n m) (n+m) (by simp[CJX])]
 ·rw[aG];have htk:(aU (m:Int) n++aU 0 m).take (n+m)=aU (m:Int) n++aU 0 m:=zZ (by omega);simp[CJX,aP (show n+m≠0 by omega),aM (show n+m≠0 by omega),bY (show n+m≠0 by omega),htk,c4,c5]
 ·intro i hi;have hnth:=VB hi;have htk:=aJ hnth;have hpl:=JI i n m (by omega) (by omega) (by omega);have hco:=AJ (oG n m i);generalize oG n m i=c at *
  rw[jQ]at hco;have hlt:(i:Int)<n+m:=by omega
  have w2:IntKind.i64.wrap ((i:Int)+1)=i+1:=wrO;by_cases h0:i=0
  ·subst h0;have hlt0:(0:Int)<n+m:=by omega
   simp at hpl;simp[CJX,hlt0,hpl,hco,dE,htk,Ex.aB,jQ]
  ·have hl1:(i+1)*56≤140737488355328:=by omega
   have hl2:i≤min i (n+m):=by omega
   simp[CJX,w2,hlt,hpl,hco,aP h0,aM h0,bY h0,htk,Ex.aW,jQ,hl1,hl2,zK]
theorem ZX {ws:List Int} (hw:kE ws=true) {fs es:List Ex} {x:Pn} (hp:(proj fs (proj es x)).wd ws 8≠0):gW 120 ws 11 (proj fs (proj es x)):=by
 obtain⟨h1,h2,h3,h4⟩:=XC hp;obtain⟨g1,g2,g3,g4⟩:=XC h1;rw[g4]at h3;have c2:=BD hw x;have c5:=fun e=>ABC e es (x.wd ws 8)
 have hr:rwP ws 11 (proj fs (proj es x))=some (proj (fs.map (Ex.sub es)) x):=by
  simp[rwP,proj,Pn.ex0,Pn.jH,Pn.qL,Pn.kind,Pn.exprs,Pn.kids]
 generalize hW:x.wd ws 8=W at *
 have hin:∀ (i:Nat) (a:Ex),fs[i]?=some a→(a.subst es W).isSome=true→(fs.map (Ex.sub es))[i]?=some (a.sub es)∧a.subst es W=some (a.sub es):=by
  intro i a ha hs;refine⟨by simp[ha],?_⟩;unfold Ex.subst at hs ⊢;split at hs
  ·rename_i hc;rw[if_pos hc]
  ·simp at hs
 have hlen:fs.length≤6:=by unfold bJ at h2;simp at h2;omega
 obtain⟨j,k1,k2⟩:=gK (fun e=>(e.subst es W).isSome) fs
 have hround:∀ i,i<j→i<fs.length∧∃ f z,fs[i]?=some f∧fJ (Ex.aB fs) i=some f.cells∧(fs.map (Ex.sub es))[i]?=some z∧f.subst es W=some z:=by
  intro i hi;obtain⟨f,q1,q2,q3⟩:=k1 i hi;obtain⟨q4,q5⟩:=hin i f q1 q3;exact⟨(zY.1 q1).1,f,_,q1,Ex.aN q1,q4,q5⟩
 have hfl:fs.length≠0:=by intro h;rw[h]at h2;simp[bJ]at h2
 have hzl:(fs.map (Ex.sub es)).length=fs.length:=by simp
 have hq:∀ lv,(proj (fs.map (Ex.sub es)) x).wd ws lv≠0→∀ f∈fs,(f.sub es).ok W=true:=by
  intro lv hne f hf
  cases lv with
  | zero=>exact absurd (by rw[Pn.WA];simp[proj,Pn.kids]) hne
  | succ lv =>
   rw[wQ]at hne;obtain⟨⟨q1,q2,q3⟩,_⟩:=fQ hne;have e8:=AGK (lY (p:=x) (lv:=8) (by rw[hW];exact g1)) q1;rw[e8,hW]at q3;exact zO.1 q3 _ (List.mem_map_of_mem hf)
 generalize fs.map (Ex.sub es)=zs at *
 have main:∀ r,aI C0 120 [.i (.iref (proj fs (proj es x)).cells), .i (.isl (aF ws))] []=r→r=if j=fs.length then some (.tup [.i (.agg (proj zs x).cells), .bool true],[])else some (.tup [.i (.agg Pn.zero.cells), .bool false],[]):=by
  intro r hr';subst hr';rw[aD rfl Tryz.func120 rfl rfl];simp only[iG,Pn.aA x]at c2 ⊢;simp[c2];rw[aS (MPX fs es x ws W zs) j (by simp[MPX])]
  ·rw[aG]
   rcases k2 with ⟨hj,ha⟩|⟨f,q1,q2,q3,ha⟩
   ·have htk:zs.take fs.length=zs:=zZ (by omega);simp[MPX,hj,hfl,aP hfl,htk,hzl]
   ·have hj:j<fs.length:=(zY.1 q1).1;have hne:¬ j=fs.length:=by omega
    have r1:=Ex.aN q1;have hn:f.subst es W=none:=by cases h:f.subst es W with|none=>rfl|some _=>rw[h]at q3;simp at q3
    have c6:=c5 f;rw[hn]at c6;simp only[AFL,Option.getD,Option.isSome,Ex.aA f,aT]at c6 r1;by_cases h0:j=0
    ·subst h0;simp[MPX,hj,hne,r1,c6,aT]
    ·simp[MPX,hj,hne,r1,c6,h0,aP h0,bY h0,aT]
  ·intro i hi;obtain⟨hil,f,z,q1,r1,q4,q5⟩:=hround i hi;have c6:=c5 f;rw[q5]at c6;have htk:=aJ q4;have w2:IntKind.i64.wrap ((i:Int)+1)=i+1:=wrO;simp only[AFL,Option.getD,Option.isSome,Ex.aA f,Ex.aA z]at c6 r1;by_cases h0:i=0
   ·subst h0;simp[MPX,hil,r1,c6,dE,htk,q4,Ex.aB,Ex.aA z]
   ·have hl1:(i+1)*56≤140737488355328:=by omega
    have hl2:i≤min i zs.length:=by omega
    simp[MPX,hil,r1,c6,w2,htk,q4,h0,aP h0,bY h0,Ex.aW,Ex.aA z,hl1,hl2,zK]
 have hm:=main _ rfl
 rcases k2 with ⟨hj,ha⟩|⟨f,q1,q2,q3,ha⟩
 ·rw[if_pos hj]at hm;exact .yes hm hr
 ·have hj:j<fs.length:=(zY.1 q1).1;rw[if_neg (by omega)]at hm;refine⟨.zero,false,hm,by simp,fun _ q' hq' lv=>?_⟩;rw[hr]at hq';injection hq' with hq';subst hq';by_cases hne:(proj zs x).wd ws lv=0
  ·exact hne
  ·have hok:=hq lv hne f q2;unfold Ex.subst at q3;rw[if_pos (by simp only[zT];exact⟨List.all_eq_true.1 h3 f q2,g3,hok⟩)]at q3;simp at q3
theorem ARB {ws:List Int} (hw:kE ws=true) {p:Pn} (hp:p.wd ws 8≠0):gW 115 ws 6 p:=by
 by_cases hk:p.kind=4
 ·obtain⟨e,x,y,hx⟩:=iB (lY hp) (.inl hk);rw[hk]at hx;subst hx;exact AEN hw hp
 ·refine .no ?_ ?_
  ·rw[aD rfl Tryz.func115 rfl rfl];simp only[aT,Pn.aA p];simp[hk]
  ·unfold rwP;split
   ·unfold rwF;simp
   ·simp[hk]
theorem ANZ {ws:List Int} (hw:kE ws=true) {p:Pn} (hp:p.wd ws 8≠0):gW 120 ws 11 p:=by
 by_cases hk:p.kind=3
 ·obtain⟨fs,a,rfl⟩:=mR (lY hp) hk;by_cases hk2:a.kind=3
  ·obtain⟨V,hV,_⟩:=uN (lY hp);obtain⟨es,x,rfl⟩:=mR hV hk2;exact ZX hw hp
  ·refine .no ?_ (by simp[rwP,Pn.jH,proj,hk2]);rw[aD rfl Tryz.func120 rfl rfl];simp only[iG,aT,Pn.aA a];simp[hk2]
 ·refine .no ?_ ?_
  ·rw[aD rfl Tryz.func120 rfl rfl];simp only[aT,Pn.aA p];simp[hk]
  ·unfold rwP;split
   ·unfold rwF;simp
   ·simp[hk]
end Go.Proofs.YtjdfjgmebalaaaaGreat.P
namespace Go.Av
theorem U0 {ws:List Int} {r:Int} {lv:Nat} {p:Pn} (h:∀ q',rwP ws r p=some q'→∀ lv,q'.wd ws lv=0):rwL ws r lv p=none:=by
 unfold rwL
 cases hq:rwP ws r p with
 | none=>rfl
 | some q=>simp[h q hq lv]
theorem AEJ {ws:List Int} {r:Int} {lv:Nat} {p q:Pn} (h:rwP ws r p=some q):rwL ws r lv p=if q.wd ws lv=0 then none else some q:=by
 unfold rwL;rw[h];by_cases hq:q.wd ws lv=0<;>simp[hq]
def AFK (o:Option Pn):Pn:=o.getD Pn.zero
end Go.Av
namespace Go.Proofs.YtjdfjgmebalaaaaGreat.P
open Go Go.Av
set_option maxRecDepth 4000
set_option maxHeartbeats 4000000
theorem KW {ws:List Int} {p:Pn} {r:Int} {lv:Nat} (h:r<1∨11<r):aI C0 70 [.i (.iref p.cells), .i (.isl (aF ws)), .int r, .int lv] []=some (.tup [.i (.agg Pn.zero.cells), .bool false],[]):=by
 rw[aD rfl Tryz.func70 rfl rfl,aT]
 rcases h with h|h
 ·simp[h]
 ·simp[show ¬ r<1 by omega,show 12≤r by omega]
theorem O0 {ws:List Int} (hw:kE ws=true) {p:Pn} (hp:p.wd ws 8≠0) (r:Int) {lv:Nat} (hl:lv≤8):aI C0 70 [.i (.iref p.cells), .i (.isl (aF ws)), .int r, .int lv] []=some (.tup [.i (.agg (AFK (rwL ws r lv p)).cells), .bool (rwL ws r lv p).isSome],[]):=by
 have hr:(r<1∨11<r)∨(r=1∧gW 110 ws 1 p)∨(r=2∧gW 111 ws 2 p)∨(r=3∧gW 112 ws 3 p)∨(r=4∧gW 113 ws 4 p)∨(r=5∧gW 114 ws 5 p)∨(r=6∧gW 115 ws 6 p)∨(r=7∧gW 116 ws 7 p)∨(r=8∧gW 117 ws 8 p)∨(r=9∧gW 118 ws 9 p)∨(r=10∧gW 119 ws 10 p)∨(r=11∧gW 120 ws 11 p):=by
  by_cases h:r<1∨11<r
  ·exact .inl h
  ·refine .inr ?_;have:r=1∨r=2∨r=3∨r=4∨r=5∨r=6∨r=7∨r=8∨r=9∨r=10∨r=11:=by omega
   rcases this with rfl|rfl|rfl|rfl|rfl|rfl|rfl|rfl|rfl|rfl|rfl
   ·exact(.inl ⟨rfl,ARH (lY hp)⟩)
   ·exact(.inr (.inl ⟨rfl,ARG (lY hp)⟩))
   ·exact(.inr (.inr (.inl ⟨rfl,ARF hw hp⟩)))
   ·exact(.inr (.inr (.inr (.inl ⟨rfl,ARD hw hp⟩))))
   ·exact(.inr (.inr (.inr (.inr (.inl ⟨rfl,ARC (lY hp)⟩)))))
   ·exact(.inr (.inr (.inr (.inr (.inr (.inl ⟨rfl,ARB hw hp⟩))))))
   ·exact(.inr (.inr (.inr (.inr (.inr (.inr (.inl ⟨rfl,ARA hw hp⟩)))))))
   ·exact(.inr (.inr (.inr (.inr (.inr (.inr (.inr (.inl ⟨rfl,AR9 (lY hp)⟩))))))))
   ·exact(.inr (.inr (.inr (.inr (.inr (.inr (.inr (.inr (.inl ⟨rfl,AR8 (lY hp)⟩)))))))))
   ·exact(.inr (.inr (.inr (.inr (.inr (.inr (.inr (.inr (.inr (.inl ⟨rfl,AO0 hw hp⟩))))))))))
   ·exact(.inr (.inr (.inr (.inr (.inr (.inr (.inr (.inr (.inr (.inr (⟨rfl,ANZ hw hp⟩)))))))))))
 rcases hr with h|⟨rfl,q,b,h1,h2,h3⟩|⟨rfl,q,b,h1,h2,h3⟩|⟨rfl,q,b,h1,h2,h3⟩|⟨rfl,q,b,h1,h2,h3⟩|⟨rfl,q,b,h1,h2,h3⟩|⟨rfl,q,b,h1,h2,h3⟩|⟨rfl,q,b,h1,h2,h3⟩|⟨rfl,q,b,h1,h2,h3⟩|⟨rfl,q,b,h1,h2,h3⟩|⟨rfl,q,b,h1,h2,h3⟩|⟨rfl,q,b,h1,h2,h3⟩
 ·rw[KW h]
  have:rwL ws r lv p=none:=U0 fun q' hq=>by
   have:=TZ hq;simp[rules]at this;omega
  rw[this];rfl
 all_goals
  have h4:=uP (l8 hw) q lv hl;rw[aD rfl Tryz.func70 rfl rfl]
  cases b with
  | false =>
   rw[U0 (h3 rfl)];simp only[AFK,Option.getD,Option.isSome,aT,Pn.aA p,Pn.aA q]at h1 h4 ⊢;simp[h1]
  | true =>
   rw[AEJ (h2 rfl)];by_cases hq:q.wd ws lv=0
   ·rw[hq]at h4;rw[if_pos hq];simp only[AFK,Option.getD,Option.isSome,aT,Pn.aA p,Pn.aA q]at h1 h4 ⊢;simp[h1,h4]
   ·rw[if_neg hq];simp only[AFK,Option.getD,Option.isSome,Pn.aA p,Pn.aA q]at h1 h4 ⊢;simp[h1,h4,hq]
end Go.Proofs.YtjdfjgmebalaaaaGreat.P
namespace Go.Av
theorem QR {ws:List Int} {p:Pn} {lv:Nat} (h:p.wd ws lv≠0) (hk:p.kids≠[]):p.kids.length≤2∧lv≠0∧∀ a∈p.kids,a.wd ws (lv-1)≠0:=by
 rw[Pn.uR]at h;obtain⟨h1,h2⟩:=fQ h;refine⟨Pn.G8 h1.1,h1.2.resolve_left hk,?_⟩;split at h2
 ·rename_i hk1;exact absurd (Pn.uC h1.1 hk1) hk
 ·obtain⟨h3,_⟩:=fQ h2;exact fun a ha=>by simpa using zO.1 h3 a ha
theorem ET (ws:List Int) (path:List Int):∀ (l m:List Pn) (i:Nat),qC ws path i (l++m)=qC ws path i l++qC ws path (i+l.length) m
 | [],m,i=>by simp[qC]
 | a::l,m,i=>by simp only[yL,qC,ET ws path l m (i+1),yZ,zM];congr 3;omega
theorem vI (ws:List Int) (path:List Int) {l:List Pn} {i:Nat} {a:Pn} (h:l[i]?=some a):qC ws path 0 (l.take (i+1))=qC ws path 0 (l.take i)++stI ws (path++[(i:Int)]) a:=by
 have hl:(l.take i).length=i:=by have:=(zY.1 h).1;simp;omega
 rw[aJ h,ET,hl];simp[qC]
theorem QY (ws:List Int):∀ (p:Pn) (path:List Int),(stI ws path p).length≤11*p.size:=by
 intro p
 induction p using Pn.ind with
 | h k t es cs ks ih =>
  intro path
  have hL:∀ (l:List Pn) (i:Nat),(∀ a∈l,a∈ks)→(qC ws path i l).length≤11*Pn.aQ l:=by
   intro l
   induction l with
   | nil=>intro i _;simp[qC,Pn.aQ]
   | cons a l ihl =>
    intro i hm;have h1:=ih a (hm a (by simp)) (path++[(i:Int)]);have h2:=ihl (i+1) fun x hx=>hm x (by simp[hx])
    simp only[qC,Pn.aQ,zQ];omega
  have h1:=hL ks 0 fun a h=>h
  have h2:∀ f:Int→Bool,(rules.filter f).length≤11:=fun f=>by have:=List.length_filter_le f rules;simpa [rules]using this
  simp only[stI,Pn.size,zQ,zA6];have:=h2 fun r=>(rwL ws r (8-path.length) (.mk k t es cs ks)).isSome
  omega
theorem vJ (ws:List Int) (path:List Int):∀ (l:List Pn) (i:Nat),(qC ws path i l).length≤11*Pn.aQ l
 | [],i=>by simp[qC,Pn.aQ]
 | a::l,i=>by
  have h1:=QY ws a (path++[(i:Int)]);have h2:=vJ ws path l (i+1);simp only[qC,Pn.aQ,zQ];omega
def wL (ws path:List Int) (p:Pn) (i:Nat):List Stp:=((rules.take i).filter fun r=>(rwL ws r (8-path.length) p).isSome).map fun r=>(r,path)
theorem QF {ws path:List Int} {p:Pn} {i:Nat} (h:i<11):wL ws path p (i+1)=wL ws path p i++if(rwL ws ((i:Int)+1) (8-path.length) p).isSome=true then [((i:Int)+1,path)]else []:=by
 have h1:rules[i]?=some ((i:Int)+1):=by
  have:i=0∨i=1∨i=2∨i=3∨i=4∨i=5∨i=6∨i=7∨i=8∨i=9∨i=10:=by omega
  rcases this with rfl|rfl|rfl|rfl|rfl|rfl|rfl|rfl|rfl|rfl|rfl<;>rfl
 unfold wL;rw[aJ h1,List.filter_append,xW];congr 1;simp only[List.filter];split<;>rename_i h2<;>simp[h2]
theorem rX (ws path:List Int) (p:Pn) (i:Nat):(wL ws path p i).length≤11:=by
 unfold wL;rw[zA6];refine yE (List.length_filter_le _ _) ?_;simp[rules];omega
theorem AIU (ws path:List Int) (p:Pn):stI ws path p=wL ws path p 11++qC ws path 0 p.kids:=by
 rw[AHC];rfl
end Go.Av
namespace Go.Proofs.YtjdfjgmebalaaaaGreat.P
open Go Go.Av
set_option maxRecDepth 4000
set_option maxHeartbeats 4000000
structure Yl (R:Rng) (cs:List AV):Prop where
 ids:cs=[.own 1 0, .junk, .junk]
 y00:∀ r:Int,aI C0 nI [.fn (.yield 0) [.own 0 0], .agg [.int r, .nils]] [some (.loop R cs .ready),some (.box [.nils])]=some (.bool true,[some (.loop R cs .ready),some (.box [.osl 2 2 0 1]),some (.arr 2 [[.int r, .isl []]])])
 y01:∀ (r:Int) (path:List Int),path≠[]→aI C0 nI [.fn (.yield 0) [.own 0 0], .agg [.int r, .osl 2 1 0 path.length]] [some (.loop R cs .ready),some (.box [.nils]),some (.arr 1 (aF path))]=some (.bool true,[some (.loop R cs .ready),some (.box [.osl 3 2 0 1]),some (.frz 1 (aF path)),some (.arr 2 [[.int r, .isl (aF path)]])])
 y10:∀ (r:Int) (n:Nat) (l:List Stp),l.length=n→n≠0→n<1000000→aI C0 nI [.fn (.yield 0) [.own 0 0], .agg [.int r, .nils]] [some (.loop R cs .ready),some (.box [.osl 2 2 0 n]),some (.arr 2 (bT l))]=some (.bool true,[some (.loop R cs .ready),some (.box [.osl 3 2 0 (n+1)]),none,some (.arr 2 (bT l++[[.int r, .isl []]]))])
 y11:∀ (r:Int) (n:Nat) (l:List Stp) (path:List Int),path≠[]→l.length=n→n≠0→n<1000000→aI C0 nI [.fn (.yield 0) [.own 0 0], .agg [.int r, .osl 3 1 0 path.length]] [some (.loop R cs .ready),some (.box [.osl 2 2 0 n]),some (.arr 2 (bT l)),some (.arr 1 (aF path))]=some (.bool true,[some (.loop R cs .ready),some (.box [.osl 4 2 0 (n+1)]),none,some (.frz 1 (aF path)),some (.arr 2 (bT l++[[.int r, .isl (aF path)]]))])
theorem AEA (p:Pn) (ws:List Int):aI C0 60 [.i (.iref p.cells), .i (.isl (aF ws))] []=some (.fn (.func 95) [.own 0 0, .own 1 0],[some (.box [.i (.iref p.cells)]),some (.box [.i (.isl (aF ws))])]):=by
 rw[aD rfl Tryz.func60 rfl rfl];simp
set_option maxHeartbeats 8000000
theorem Y3 (path:List Int):path=[]∨path≠[]:=by cases path<;>simp
end Go.Proofs.YtjdfjgmebalaaaaGreat.P
namespace Go.Av
theorem wP {p:Pn} {ws:List Int} (h:p.width ws≠0):kE ws=true∧p.wd ws 8≠0∧p.width ws=p.wd ws 8:=by
 unfold Pn.width at h ⊢;split at h
 ·rename_i hw;exact⟨hw,h,if_pos hw⟩
 ·exact absurd rfl h
def jZ (p:Pn) (ws:List Int):List Stp:=if p.width ws=0 then []else stI ws [] p
end Go.Av
namespace Go.Proofs.YtjdfjgmebalaaaaGreat.P
open Go Go.Av
set_option maxRecDepth 4000
set_option maxHeartbeats 8000000
end Go.Proofs.YtjdfjgmebalaaaaGreat.P
namespace Go.Av
@[simp] theorem ZM (s:Stp):lV (EM s)=true:=rfl
@[simp] theorem WK:∀ l:List Stp,qF (bT l)=true
  | []=>rfl
  | s::l=>by have:=WK l;simp only[bT]at this;simp[bT,qF,this]
theorem lS:∀ l:List Int,jD (aF l)=true
 | []=>rfl
 | n::l=>by simp only[aF,jD,lS l,Bool.and_true];rfl
def ShW (R:Rng) (cs:List AV):Nat→List Stp→StL
 | 0,_=>[some (.loop R cs .ready),some (.box [.nils])]
 | 1,l=>[some (.loop R cs .ready),some (.box [.osl 2 2 0 l.length]),some (.tre 2 (bT l))]
 | _,l=>[some (.loop R cs .ready),some (.box [.osl 3 2 0 l.length]),none,some (.tre 2 (bT l))]
def gQ (R:Rng) (cs:List AV) (e:Nat) (out acc:List Stp):StL:=if acc=[]then ShW R cs e out else ShW R cs (e+1) (out++acc)
end Go.Av
namespace Go.Proofs.YtjdfjgmebalaaaaGreat.P
open Go Go.Av
set_option maxRecDepth 4000
set_option maxHeartbeats 4000000
noncomputable def AJI:FuncId→Option (List AV→StL→Option (AV×StL))
 | 28=>none
 | 95=>none
 | 96=>none
 | g=>if g=nI then none else some (aI C0 g)
def keepW:FuncId→Bool
 | 28=>true
 | g=>keepR g
noncomputable def CW:Ctx:={ P:=Tryz.prog,G:=GS,ownArgs:=cK,keepRes:=keepW,eqT:=GZ,prim:=AJI,tree:=true }
@[simp] theorem AgD:CW.P=Tryz.prog:=(rfl)
@[simp] theorem AgE (f):CW.G f=GS f:=(rfl)
@[simp] theorem AgA (f):CW.ownArgs f=cK f:=(rfl)
@[simp] theorem AgB (f):CW.keepRes f=keepW f:=(rfl)
@[simp] theorem AgC (f):CW.eqT f=GZ f:=(rfl)
@[simp] theorem Ag9:CW.tree=true:=(rfl)
@[simp] theorem kW1:keepW 28=true:=(rfl)
@[simp] theorem kW2:keepW 95=keepR 95:=(rfl)
@[simp] theorem kW3:keepW 96=keepR 96:=(rfl)
@[simp] theorem kW4:keepW nI=keepR nI:=(rfl)
theorem AOF:PrimOk CW:=by
 have h0:=bP eO
 have key:∀ g q,CW.prim g=some q→g≠nI∧q=aI C0 g:=by
  intro g q h;have h:AJI g=some q:=h;unfold AJI at h;split at h<;>first|(cases h;done)|(split at h<;>first|(cases h;done)|(rename_i hy;injection h with h;exact⟨hy,h.symm⟩))
 constructor
 ·intro g args st p h;unfold fB at h
  cases hq:CW.prim g with
  | none=>rw[hq]at h;cases h
  | some q=>rw[hq]at h;obtain⟨hy,rfl⟩:=key g q hq;exact h0.name g args st p hy h
 ·intro g args st r st' h;unfold fB at h
  cases hq:CW.prim g with
  | none=>rw[hq]at h;cases h
  | some q=>rw[hq]at h;obtain⟨hy,rfl⟩:=key g q hq;exact h0.calls g args st r st' hy h
theorem ANP:SoundOk CW:=rF (C:=CW) ft nt eqS mo AOF
@[simp] theorem AHW (a:List AV) (st:StL):aI CW 70 a st=aI C0 70 a st:=bK (C:=CW) rfl a st
@[simp] theorem AHX (a:List AV) (st:StL):aI CW 93 a st=aI C0 93 a st:=bK (C:=CW) rfl a st
@[simp] theorem AHY (a:List AV) (st:StL):aI CW 68 a st=aI C0 68 a st:=bK (C:=CW) rfl a st
@[simp] theorem AQX (a:List AV) (st:StL):aI CW 60 a st=aI C0 60 a st:=bK (C:=CW) rfl a st
structure YlW (R:Rng) (cs:List AV):Prop where
 ids:cs=[.own 1 0, .junk, .junk]
 y00:∀ r:Int,aI CW nI [.fn (.yield 0) [.own 0 0], .agg [.int r, .nils]] [some (.loop R cs .ready),some (.box [.nils])]=some (.bool true,[some (.loop R cs .ready),some (.box [.osl 2 2 0 1]),some (.tre 2 [[.int r, .isl []]])])
 y01:∀ (r:Int) (path:List Int),path≠[]→aI CW nI [.fn (.yield 0) [.own 0 0], .agg [.int r, .osl 2 1 0 path.length]] [some (.loop R cs .ready),some (.box [.nils]),some (.arr 1 (aF path))]=some (.bool true,[some (.loop R cs .ready),some (.box [.osl 3 2 0 1]),none,some (.tre 2 [[.int r, .isl (aF path)]])])
 y10:∀ (r:Int) (n:Nat) (l:List Stp),l.length=n→n≠0→n<1000000→aI CW nI [.fn (.yield 0) [.own 0 0], .agg [.int r, .nils]] [some (.loop R cs .ready),some (.box [.osl 2 2 0 n]),some (.tre 2 (bT l))]=some (.bool true,[some (.loop R cs .ready),some (.box [.osl 3 2 0 (n+1)]),none,some (.tre 2 (bT l++[[.int r, .isl []]]))])
 y11:∀ (r:Int) (n:Nat) (l:List Stp) (path:List Int),path≠[]→l.length=n→n≠0→n<1000000→aI CW nI [.fn (.yield 0) [.own 0 0], .agg [.int r, .osl 3 1 0 path.length]] [some (.loop R cs .ready),some (.box [.osl 2 2 0 n]),some (.tre 2 (bT l)),some (.arr 1 (aF path))]=some (.bool true,[some (.loop R cs .ready),some (.box [.osl 4 2 0 (n+1)]),none,none,some (.tre 2 (bT l++[[.int r, .isl (aF path)]]))])
def RLW (R:Rng) (cs:List AV) (ws path:List Int) (p:Pn) (e:Nat) (out:List Stp) (i:Nat):AS :=
 { env:=[(0, .i (.iref [.int p.kind, .int p.table, .isl (Ex.aB p.exprs), .isl (aF p.cols), .isl (Pn.aB p.kids)])),(1, .i (.isl (aF ws))),(2, .i (.isl (aF path))),(3, .fn (.yield 0) [.own 0 0]),(8, .bool false),(9, .int ((i:Int)+1)),(11,jk i (.bool (rwL ws (i:Int) (8-path.length) p).isSome)),(12, .junk),(14,jk i (.bool true)),(28,jk i (.bool (!(rwL ws (i:Int) (8-path.length) p).isSome))),(35,if wL ws path p i=[]then .junk else .bool false),(40, .junk),(41, .junk),(42, .junk),(58, .junk)],
   st:=gQ R cs e out (wL ws path p i) }
set_option maxHeartbeats 8000000
def KLW (R:Rng) (cs:List AV) (ws path:List Int) (p:Pn) (e:Nat) (out:List Stp) (i:Nat):AS :=
 { env:=[(0, .i (.iref [.int p.kind, .int p.table, .isl (Ex.aB p.exprs), .isl (aF p.cols), .isl (Pn.aB p.kids)])),(1, .i (.isl (aF ws))),(2, .i (.isl (aF path))),(3, .fn (.yield 0) [.own 0 0]),(8, .bool false),(9, .int 12),(11, .bool (rwL ws 11 (8-path.length) p).isSome),(12,jk i (.int (i-1))),(14, .bool false),(28, .bool (!(rwL ws 11 (8-path.length) p).isSome)),(35,if wL ws path p 11=[]then .junk else .bool false),(40, .int p.kids.length),(41, .int i),(42,jk i (.bool true)),(58,jk i (.bool false))],
   st:=gQ R cs e out (wL ws path p 11++qC ws path 0 (p.kids.take i)) }
theorem PO {R:Rng} {cs:List AV} (hY:YlW R cs) {ws:List Int} (hw:kE ws=true):∀ (p:Pn) (path:List Int) (e:Nat) (out:List Stp),path.length≤8→p.wd ws (8-path.length)≠0→(e=0∧out=[]∨e=1∧out≠[])→out.length+11*p.size<1000000 →
 aI CW 96 [.i (.iref p.cells), .i (.isl (aF ws)), .i (.isl (aF path)), .fn (.yield 0) [.own 0 0]] (ShW R cs e out)=some (.bool true,gQ R cs e out (stI ws path p)):=by
 obtain⟨rfl,y00,y01,y10,y11⟩:=hY;intro p
 induction p using Pn.ind with
 | h k t es cols ks ih =>
  intro path e out hl hp he hn;have hp8:(Pn.mk k t es cols ks).wd ws 8≠0:=by rw[Pn.kK _ _ 8 hp (by omega)];exact hp
  have hkids:=fun h=>QR (p:=.mk k t es cols ks) (lv:=8-path.length) hp h
  have hsum:=QY ws (.mk k t es cols ks) path;have hacc:=AIU ws path (.mk k t es cols ks);generalize hpe:Pn.mk k t es cols ks=p at *
  have hks:ks=p.kids:=by rw[← hpe];rfl
  subst hks
  obtain⟨lv,hlv⟩:∃ lv:Nat,8-path.length=lv:=⟨_,rfl⟩
  have hw8:IntKind.i64.wrap (8-(path.length:Int))=(lv:Int):=by rw[wrO];omega
  have hr:=fun r=>O0 hw hp8 r (lv:=lv) (by omega)
  have hcp:=Y3 path;have hps:=Pn.kU p;have hsz:=Pn.size_eq p;rw[hacc,aD rfl Tryz.func96 rfl rfl,Pn.aA];rw[Pn.aA p]at hr
  rcases he with ⟨rfl,rfl⟩|⟨rfl,ho⟩
  ·simp[ShW];rw[aS (RLW R [.own 1 0, .junk, .junk] ws path p 0 []) 11 (by simp[RLW,gQ,ShW,wL])]
   ·rw[aG];by_cases ha:wL ws path p 11=[]
    ·simp[RLW,gQ,ShW,ha];rw[aS (KLW R [.own 1 0, .junk, .junk] ws path p 0 []) p.kids.length (by simp[KLW,gQ,ShW,ha,qC])]
     ·rw[aG];by_cases hz:qC ws path 0 p.kids=[]
      ·simp[KLW,gQ,ShW,ha,hz]
      ·simp[KLW,gQ,ShW,ha,hz]
     ·intro i hi;have h3:=zX hi;have hm:=zV h3;have r2:=Pn.aN h3;have hsn:=vI ws path h3;have htk:=aJ h3;obtain⟨hk2,hlv0,hkw⟩:=hkids (by intro h;rw[h]at hi;simp at hi);generalize p.kids[i]=a at h3 hm r2 hsn htk
      have hle:Pn.aQ (p.kids.take i)+a.size≤Pn.aQ p.kids:=by
       have h:=Pn.dK (p.kids.take (i+1)) (p.kids.drop (i+1));rw[yO,htk,Pn.dK]at h;simp only[Pn.aQ]at h;omega
      have hacl:=vJ ws path (p.kids.take i) 0;have hac2:=rX ws path p 11;have w2:IntKind.i64.wrap ((i:Int)+1)=i+1:=wrO;have hpl:(path++[(i:Int)]).length=path.length+1:=by simp
      have hwa:a.wd ws (8-(path++[(i:Int)]).length)≠0:=by rw[hpl,show 8-(path.length+1)=8-path.length-1 by omega];exact hkw a hm
      have hl1:(path.length+1)*8≤140737488355328:=by omega
      have ht1:List.take (path.length+1) (aF path++[[.int (i:Int)]])=aF path++[[.int i]]:=zZ (by simp);have hpi:aF (path++[(i:Int)])=aF path++[[.int i]]:=fU path i;by_cases hz:qC ws path 0 (p.kids.take i)=[]
      ·rw[hz]at hsn;have hk:=ih a hm (path++[(i:Int)]) 0 ([]) (by omega) hwa (.inl ⟨rfl,rfl⟩) (by(try simp only[zQ,yK]);omega);rw[Pn.aA a]at r2 hk;generalize stI ws (path++[(i:Int)]) a=S at hk hsn;rw[hpi]at hk;by_cases hS:S=[]
       ·subst hS;simp[gQ,ShW,aL,zP]at hk
        rcases hcp with rfl|hcp
        ·simp[aF]at hk;simp[KLW,gQ,ShW,hi,r2,w2,bO,hk,hsn,ha,hz,aF,aL,zP]
        ·have hc:=cB hcp (by omega);simp[KLW,gQ,ShW,hi,r2,w2,hc,hk,hsn,ha,hz,aF,bC,aL,zP,hl1,ht1]
       ·simp[gQ,ShW,hS,aL,zP]at hk
        rcases hcp with rfl|hcp
        ·simp[aF]at hk;simp[KLW,gQ,ShW,hi,r2,w2,bO,hk,hsn,hS,ha,hz,aF,aL,zP]
        ·have hc:=cB hcp (by omega);simp[KLW,gQ,ShW,hi,r2,w2,hc,hk,hsn,hS,ha,hz,aF,bC,aL,zP,hl1,ht1]
      ·have hzl:(qC ws path 0 (p.kids.take i)).length≠0:=fun h=>hz (zW.1 h)
       have hk:=ih a hm (path++[(i:Int)]) 1 (qC ws path 0 (p.kids.take i)) (by omega) hwa (.inr ⟨rfl,hz⟩) (by(try simp only[zQ,yK]);omega);rw[Pn.aA a]at r2 hk;generalize stI ws (path++[(i:Int)]) a=S at hk hsn;rw[hpi]at hk;by_cases hS:S=[]
       ·subst hS;simp[gQ,ShW,aL,zP]at hk
        rcases hcp with rfl|hcp
        ·simp[aF]at hk;simp[KLW,gQ,ShW,hi,r2,w2,bO,hk,hsn,ha,hz,aF,aL,zP]
        ·have hc:=cB hcp (by omega);simp[KLW,gQ,ShW,hi,r2,w2,hc,hk,hsn,ha,hz,aF,bC,aL,zP,hl1,ht1]
       ·simp[gQ,ShW,hS,aL,zP]at hk
        rcases hcp with rfl|hcp
        ·simp[aF]at hk;simp[KLW,gQ,ShW,hi,r2,w2,bO,hk,hsn,hS,ha,hz,aF,aL,zP]
        ·have hc:=cB hcp (by omega);simp[KLW,gQ,ShW,hi,r2,w2,hc,hk,hsn,hS,ha,hz,aF,bC,aL,zP,hl1,ht1]
    ·simp[RLW,gQ,ShW,ha];rw[aS (KLW R [.own 1 0, .junk, .junk] ws path p 0 []) p.kids.length (by simp[KLW,gQ,ShW,ha,qC])]
     ·rw[aG];simp[KLW,gQ,ShW,ha]
     ·intro i hi;have h3:=zX hi;have hm:=zV h3;have r2:=Pn.aN h3;have hsn:=vI ws path h3;have htk:=aJ h3;obtain⟨hk2,hlv0,hkw⟩:=hkids (by intro h;rw[h]at hi;simp at hi);generalize p.kids[i]=a at h3 hm r2 hsn htk
      have hle:Pn.aQ (p.kids.take i)+a.size≤Pn.aQ p.kids:=by
       have h:=Pn.dK (p.kids.take (i+1)) (p.kids.drop (i+1));rw[yO,htk,Pn.dK]at h;simp only[Pn.aQ]at h;omega
      have hacl:=vJ ws path (p.kids.take i) 0;have hac2:=rX ws path p 11;have w2:IntKind.i64.wrap ((i:Int)+1)=i+1:=wrO;have hpl:(path++[(i:Int)]).length=path.length+1:=by simp
      have hwa:a.wd ws (8-(path++[(i:Int)]).length)≠0:=by rw[hpl,show 8-(path.length+1)=8-path.length-1 by omega];exact hkw a hm
      have hl1:(path.length+1)*8≤140737488355328:=by omega
      have ht1:List.take (path.length+1) (aF path++[[.int (i:Int)]])=aF path++[[.int i]]:=zZ (by simp);have hpi:aF (path++[(i:Int)])=aF path++[[.int i]]:=fU path i;have hk:=ih a hm (path++[(i:Int)]) 1 (wL ws path p 11++qC ws path 0 (p.kids.take i)) (by omega) hwa (.inr ⟨rfl,by simp[ha]⟩) (by(try simp only[zQ,yK]);omega);rw[Pn.aA a]at r2 hk;generalize stI ws (path++[(i:Int)]) a=S at hk hsn;rw[hpi]at hk;by_cases hS:S=[]
      ·subst hS;simp[gQ,ShW,aL,zP]at hk
       rcases hcp with rfl|hcp
       ·simp[aF]at hk;simp[KLW,gQ,ShW,hi,r2,w2,bO,hk,hsn,ha,aF,aL,zP]
       ·have hc:=cB hcp (by omega);simp[KLW,gQ,ShW,hi,r2,w2,hc,hk,hsn,ha,aF,bC,aL,zP,hl1,ht1]
      ·simp[gQ,ShW,hS,aL,zP]at hk
       rcases hcp with rfl|hcp
       ·simp[aF]at hk;simp[KLW,gQ,ShW,hi,r2,w2,bO,hk,hsn,hS,ha,aF,aL,zP]
       ·have hc:=cB hcp (by omega);simp[KLW,gQ,ShW,hi,r2,w2,hc,hk,hsn,hS,ha,aF,bC,aL,zP,hl1,ht1]
   ·intro i hi;have hs:=QF (ws:=ws) (path:=path) (p:=p) hi;have hlen:=rX ws path p i;have w2:IntKind.i64.wrap ((i:Int)+1+1)=i+1+1:=wrO;have hi11:(i:Int)+1≤11:=by omega
    have hr1:=hr ((i:Int)+1);rw[hlv]at hs
    cases hb:(rwL ws ((i:Int)+1) lv p).isSome with
    | false =>
     rw[hb]at hs hr1;simp at hs;by_cases ha:wL ws path p i=[]<;>simp[RLW,gQ,ShW,hs,ha,hr1,hw8,w2,hi11,hlv,hb]
    | true =>
     rw[hb]at hs hr1;simp at hs;by_cases ha:wL ws path p i=[]
     ·rcases hcp with rfl|hcp
      ·have hc:=bO;have hy:=y00 ((i:Int)+1);obtain rfl:lv=8:=by simpa using hlv.symm
       simp at hw8;rw[show((8:Nat):Int)=8 from rfl]at hr1;simp[RLW,gQ,ShW,hs,ha,hr1,hw8,w2,hi11,hb,hc,hy,aF,bT,EM]
      ·have hc:=cB hcp (by omega);have hy:=y01 ((i:Int)+1) path hcp;simp[RLW,gQ,ShW,hs,ha,hr1,hw8,w2,hi11,hlv,hb,hc,hy,bT,EM]
     ·have hal:(wL ws path p i).length≠0:=fun h=>ha (zW.1 h)
      rcases hcp with rfl|hcp
      ·have hc:=bO;have hy:=y10 ((i:Int)+1) _ (wL ws [] p i) rfl hal (by omega);obtain rfl:lv=8:=by simpa using hlv.symm
       simp at hw8;rw[show((8:Nat):Int)=8 from rfl]at hr1;simp[RLW,gQ,ShW,hs,ha,hr1,hw8,w2,hi11,hb,hc,hy,aF,aL,nM]
      ·have hc:=cB hcp (by omega);have hy:=y11 ((i:Int)+1) _ (wL ws path p i) path hcp rfl hal (by omega);simp[RLW,gQ,ShW,hs,ha,hr1,hw8,w2,hi11,hlv,hb,hc,hy,aL,nM]
  ·have hol:out.length≠0:=fun h=>ho (zW.1 h)
   simp[ShW];rw[aS (RLW R [.own 1 0, .junk, .junk] ws path p 1 out) 11 (by simp[RLW,gQ,ShW,wL])]
   ·rw[aG];by_cases ha:wL ws path p 11=[]
    ·simp[RLW,gQ,ShW,ha];rw[aS (KLW R [.own 1 0, .junk, .junk] ws path p 1 out) p.kids.length (by simp[KLW,gQ,ShW,ha,qC])]
     ·rw[aG];by_cases hz:qC ws path 0 p.kids=[]
      ·simp[KLW,gQ,ShW,ha,hz]
      ·simp[KLW,gQ,ShW,ha,hz]
     ·intro i hi;have h3:=zX hi;have hm:=zV h3;have r2:=Pn.aN h3;have hsn:=vI ws path h3;have htk:=aJ h3;obtain⟨hk2,hlv0,hkw⟩:=hkids (by intro h;rw[h]at hi;simp at hi);generalize p.kids[i]=a at h3 hm r2 hsn htk
      have hle:Pn.aQ (p.kids.take i)+a.size≤Pn.aQ p.kids:=by
       have h:=Pn.dK (p.kids.take (i+1)) (p.kids.drop (i+1));rw[yO,htk,Pn.dK]at h;simp only[Pn.aQ]at h;omega
      have hacl:=vJ ws path (p.kids.take i) 0;have hac2:=rX ws path p 11;have w2:IntKind.i64.wrap ((i:Int)+1)=i+1:=wrO;have hpl:(path++[(i:Int)]).length=path.length+1:=by simp
      have hwa:a.wd ws (8-(path++[(i:Int)]).length)≠0:=by rw[hpl,show 8-(path.length+1)=8-path.length-1 by omega];exact hkw a hm
      have hl1:(path.length+1)*8≤140737488355328:=by omega
      have ht1:List.take (path.length+1) (aF path++[[.int (i:Int)]])=aF path++[[.int i]]:=zZ (by simp);have hpi:aF (path++[(i:Int)])=aF path++[[.int i]]:=fU path i;by_cases hz:qC ws path 0 (p.kids.take i)=[]
      ·rw[hz]at hsn;have hk:=ih a hm (path++[(i:Int)]) 1 (out) (by omega) hwa (.inr ⟨rfl,ho⟩) (by(try simp only[zQ,yK]);omega);rw[Pn.aA a]at r2 hk;generalize stI ws (path++[(i:Int)]) a=S at hk hsn;rw[hpi]at hk;by_cases hS:S=[]
       ·subst hS;simp[gQ,ShW,aL,zP]at hk
        rcases hcp with rfl|hcp
        ·simp[aF]at hk;simp[KLW,gQ,ShW,hi,r2,w2,bO,hk,hsn,ha,hz,aF,aL,zP]
        ·have hc:=cB hcp (by omega);simp[KLW,gQ,ShW,hi,r2,w2,hc,hk,hsn,ha,hz,aF,bC,aL,zP,hl1,ht1]
       ·simp[gQ,ShW,hS,aL,zP]at hk
        rcases hcp with rfl|hcp
        ·simp[aF]at hk;simp[KLW,gQ,ShW,hi,r2,w2,bO,hk,hsn,hS,ha,hz,aF,aL,zP]
        ·have hc:=cB hcp (by omega);simp[KLW,gQ,ShW,hi,r2,w2,hc,hk,hsn,hS,ha,hz,aF,bC,aL,zP,hl1,ht1]
      ·have hk:=ih a hm (path++[(i:Int)]) 1 (out++qC ws path 0 (p.kids.take i)) (by omega) hwa (.inr ⟨rfl,by simp[ho]⟩) (by(try simp only[zQ,yK]);omega);rw[Pn.aA a]at r2 hk;generalize stI ws (path++[(i:Int)]) a=S at hk hsn;rw[hpi]at hk;by_cases hS:S=[]
       ·subst hS;simp[gQ,ShW,aL,zP]at hk
        rcases hcp with rfl|hcp
        ·simp[aF]at hk;simp[KLW,gQ,ShW,hi,r2,w2,bO,hk,hsn,ha,hz,aF,aL,zP]
        ·have hc:=cB hcp (by omega);simp[KLW,gQ,ShW,hi,r2,w2,hc,hk,hsn,ha,hz,aF,bC,aL,zP,hl1,ht1]
       ·simp[gQ,ShW,hS,aL,zP]at hk
        rcases hcp with rfl|hcp
        ·simp[aF]at hk;simp[KLW,gQ,ShW,hi,r2,w2,bO,hk,hsn,hS,ha,hz,aF,aL,zP]
        ·have hc:=cB hcp (by omega);simp[KLW,gQ,ShW,hi,r2,w2,hc,hk,hsn,hS,ha,hz,aF,bC,aL,zP,hl1,ht1]
    ·simp[RLW,gQ,ShW,ha];rw[aS (KLW R [.own 1 0, .junk, .junk] ws path p 1 out) p.kids.length (by simp[KLW,gQ,ShW,ha,qC])]
     ·rw[aG];simp[KLW,gQ,ShW,ha]
     ·intro i hi;have h3:=zX hi;have hm:=zV h3;have r2:=Pn.aN h3;have hsn:=vI ws path h3;have htk:=aJ h3;obtain⟨hk2,hlv0,hkw⟩:=hkids (by intro h;rw[h]at hi;simp at hi);generalize p.kids[i]=a at h3 hm r2 hsn htk
      have hle:Pn.aQ (p.kids.take i)+a.size≤Pn.aQ p.kids:=by
       have h:=Pn.dK (p.kids.take (i+1)) (p.kids.drop (i+1));rw[yO,htk,Pn.dK]at h;simp only[Pn.aQ]at h;omega
      have hacl:=vJ ws path (p.kids.take i) 0;have hac2:=rX ws path p 11;have w2:IntKind.i64.wrap ((i:Int)+1)=i+1:=wrO;have hpl:(path++[(i:Int)]).length=path.length+1:=by simp
      have hwa:a.wd ws (8-(path++[(i:Int)]).length)≠0:=by rw[hpl,show 8-(path.length+1)=8-path.length-1 by omega];exact hkw a hm
      have hl1:(path.length+1)*8≤140737488355328:=by omega
      have ht1:List.take (path.length+1) (aF path++[[.int (i:Int)]])=aF path++[[.int i]]:=zZ (by simp);have hpi:aF (path++[(i:Int)])=aF path++[[.int i]]:=fU path i;have hk:=ih a hm (path++[(i:Int)]) 1 (out++(wL ws path p 11++qC ws path 0 (p.kids.take i))) (by omega) hwa (.inr ⟨rfl,by simp[ho]⟩) (by(try simp only[zQ,yK]);omega);rw[Pn.aA a]at r2 hk;generalize stI ws (path++[(i:Int)]) a=S at hk hsn;rw[hpi]at hk;by_cases hS:S=[]
      ·subst hS;simp[gQ,ShW,aL,zP]at hk
       rcases hcp with rfl|hcp
       ·simp[aF]at hk;simp[KLW,gQ,ShW,hi,r2,w2,bO,hk,hsn,ha,aF,aL,zP]
       ·have hc:=cB hcp (by omega);simp[KLW,gQ,ShW,hi,r2,w2,hc,hk,hsn,ha,aF,bC,aL,zP,hl1,ht1]
      ·simp[gQ,ShW,hS,aL,zP]at hk
       rcases hcp with rfl|hcp
       ·simp[aF]at hk;simp[KLW,gQ,ShW,hi,r2,w2,bO,hk,hsn,hS,ha,aF,aL,zP]
       ·have hc:=cB hcp (by omega);simp[KLW,gQ,ShW,hi,r2,w2,hc,hk,hsn,hS,ha,aF,bC,aL,zP,hl1,ht1]
   ·intro i hi;have hs:=QF (ws:=ws) (path:=path) (p:=p) hi;have hlen:=rX ws path p i;have w2:IntKind.i64.wrap ((i:Int)+1+1)=i+1+1:=wrO;have hi11:(i:Int)+1≤11:=by omega
    have hr1:=hr ((i:Int)+1);rw[hlv]at hs
    cases hb:(rwL ws ((i:Int)+1) lv p).isSome with
    | false =>
     rw[hb]at hs hr1;simp at hs;by_cases ha:wL ws path p i=[]<;>simp[RLW,gQ,ShW,hs,ha,hr1,hw8,w2,hi11,hlv,hb]
    | true =>
     rw[hb]at hs hr1;simp at hs;have hal:(out++wL ws path p i).length≠0:=by simp[hol]
     have hal2:(out++wL ws path p i).length<1000000:=by simp;omega
     rcases hcp with rfl|hcp
     ·have hc:=bO;have hy:=y10 ((i:Int)+1) _ (out++wL ws [] p i) rfl hal hal2;obtain rfl:lv=8:=by simpa using hlv.symm
      simp at hw8;rw[show((8:Nat):Int)=8 from rfl]at hr1;by_cases ha:wL ws [] p i=[]
      ·simp[ha]at hy;simp[RLW,gQ,ShW,hs,ha,hr1,hw8,w2,hi11,hb,hc,hy,aF,aL,nM]
      ·simp[aL]at hy;simp[RLW,gQ,ShW,hs,ha,hr1,hw8,w2,hi11,hb,hc,hy,aF,aL,nM,zP]
     ·have hc:=cB hcp (by omega);have hy:=y11 ((i:Int)+1) _ (out++wL ws path p i) path hcp rfl hal hal2;by_cases ha:wL ws path p i=[]
      ·simp[ha]at hy;simp[RLW,gQ,ShW,hs,ha,hr1,hw8,w2,hi11,hlv,hb,hc,hy,aL,nM]
      ·simp[aL]at hy;simp[RLW,gQ,ShW,hs,ha,hr1,hw8,w2,hi11,hlv,hb,hc,hy,aL,nM,zP]
theorem WP {R:Rng} {cs:List AV} (hY:YlW R cs) {ws:List Int} (hw:kE ws=true) {p:Pn} (hp:p.wd ws 8≠0):aI CW 95 [.fn (.yield 0) [.own 0 0], .own 2 0, .own 3 0] [some (.loop R cs .ready),some (.box [.nils]),some (.box [.i (.iref p.cells)]),some (.box [.i (.isl (aF ws))])] =
 some (.tup [],if stI ws [] p=[]then [some (.loop R cs .ready),some (.box [.nils]),some (.box [.i (.iref p.cells)]),some (.box [.i (.isl (aF ws))])]else [some (.loop R cs .ready),some (.box [.osl 4 2 0 (stI ws [] p).length]),some (.box [.i (.iref p.cells)]),some (.box [.i (.isl (aF ws))]),some (.tre 2 (bT (stI ws [] p)))]):=by
 have hsz:=(Pn.Z8 p 8 hp).2;have h:=PO hY hw p [] 0 [] (by simp) (by simpa using hp) (.inl ⟨rfl,rfl⟩) (by simp;omega);obtain⟨rfl,_⟩:=hY;rw[aD rfl Tryz.func95 rfl rfl];by_cases hs:stI ws [] p=[]
 ·simp[hs,gQ,ShW,aF]at h;simp[hs,h]
 ·simp[hs,gQ,ShW,aF]at h;simp[hs,h]
theorem QJ (p:Pn) (ws:List Int):aI CW 28 [.i (.agg p.cells), .i (.isl (aF ws))] []=some (if jZ p ws=[]then(.nils,[])else(.osl 0 2 0 (jZ p ws).length,[some (.tre 2 (bT (jZ p ws)))])):=by
 have c1:=BU p ws;have c2:=AEA p ws;unfold jZ;by_cases h0:p.width ws=0
 ·rw[aD rfl Tryz.func28 rfl rfl];simp only[Pn.aA p]at c1 c2 ⊢;simp[c1,h0,bT]
 ·obtain⟨hw,hp,_⟩:=wP h0;have c3:=fun R cs (hY:YlW R cs)=>WP hY hw hp
  rw[aD rfl Tryz.func28 rfl rfl];simp only[Pn.aA p]at c1 c2 c3 ⊢;simp[c1,h0,c2,bD,AHD,KS,ZI,AIM,Op.operands,Call.operands,nI];generalize hR:Rng.mk [0,1,2,4,5,6,10,12,13] [5,6,13] [13] _ _=R
  have hY:YlW R [.own 1 0, .junk, .junk]:=by
   clear c1 c2 c3;refine⟨rfl,?_,?_,?_,?_⟩
   ·intro r;subst hR;rw[wF];simp
   ·intro r path h1;subst hR;rw[wF];have hb:=lS path;simp[hb]
   ·intro r n l h1 h2 h3;subst hR;rw[wF];have hl1:(n+1)*32≤140737488355328:=by omega
    have ht:l.take n=l:=zZ (by omega);have hn:0<n:=by omega
    simp[h1,h2,hl1,ht,hn]
   ·intro r n l path h0 h1 h2 h3;subst hR;rw[wF];have hl1:(n+1)*32≤140737488355328:=by omega
    have ht:l.take n=l:=zZ (by omega);have hb:=lS path;have hn:0<n:=by omega
    simp[h1,h2,hl1,ht,hb,hn]
  have c3:=c3 R _ hY;clear hR;generalize stI ws [] p=S at *
  by_cases hs:S=[]
  ·simp[hs]at c3;simp[hs,c3,bT]
  ·simp[hs]at c3;simp[c3,hs]
end Go.Proofs.YtjdfjgmebalaaaaGreat.P
namespace Go.Proofs.YtjdfjgmebalaaaaGreat.P
open Go Go.Av Go.Av.Mk
set_option maxRecDepth 4000
set_option maxHeartbeats 1000000
theorem UE (l:List Int) (k:Int) {i:Nat} (h:i<l.length):(FJ k l)[i]?=some (k+i):=by
 have h3:=zX h;have:=vU ALX AHI l k h3;rw[nP,yA,yT (by omega)]at this;exact this
def HIX (l:List Int) (k:Int) (i:Nat):AS :=
 { env:=[(0, .i (.isl (aF (FJ k l)))),(1, .int (k+i)),(4, .int 0),(5, .int i),(9,jk i (.bool true)),(17,jk i (.bool false))],st:=[] }
theorem AFJ (l:List Int) (k:Int) (h0:0≤k) (h1:k+(l.length:Nat)<1000000000000):aI C0 74 [.i (.isl (aF (FJ k l))), .int k] []=some (.int (k+(l.length:Nat)),[]):=by
 rw[aD rfl Tryz.func74 rfl rfl];have hlen:=eB ALX AHI l k;simp;rw[aS (HIX l k) l.length (by simp[HIX])]
 ·rw[aG];simp[HIX,hlen]
 ·intro i hi;have r2:=bH (UE l k hi);have w2:IntKind.i64.wrap ((i:Int)+1)=i+1:=wrO;have w3:IntKind.i64.wrap (k+i+1)=k+(i+1):=by rw[wrO];omega
  simp[HIX,hlen,hi,r2,w2,w3]
def HSX (l:List Stp) (k:Int) (i:Nat):AS :=
 { env:=[(0, .i (.isl (bT (dU IC o8 k l)))),(1, .int (k+(bL o8 (l.take i):Nat))),(4, .int 0),(5, .int i),(9,jk i (.bool true)),(18,jk i (.bool false)),(29,jk i (.bool false))],st:=[] }
theorem P9 (l:List Stp) (k:Int) (h0:0≤k) (h1:k+(bL o8 l:Nat)<1000000000000):aI C0 32 [.i (.isl (bT (dU IC o8 k l))), .int k] []=some (.int (k+(bL o8 l:Nat)),[]):=by
 rw[aD rfl Tryz.func32 rfl rfl];have hlen:=eB IC o8 l k;have hle:=qD (sz:=o8) (fun e=>by unfold o8;omega) l;simp;rw[aS (HSX l k) l.length (by simp[HSX,bL])]
 ·rw[aG];have hT:l.take l.length=l:=zZ (by simp);simp[HSX,hlen,hT]
 ·intro i hi;have h3:=zX hi;generalize l[i]=a at h3;have r2:=NJ (vU IC o8 l k h3);have hz:=tK o8 l h3;have hmono:=wT o8 l (i+1);have w2:IntKind.i64.wrap ((i:Int)+1)=i+1:=wrO;have hzz:k+((bL o8 (l.take (i+1)):Nat):Int)=k+(bL o8 (l.take i):Nat)+1+(a.2.length:Nat):=by rw[hz];unfold o8;push_cast;omega
  generalize hq:k+((bL o8 (l.take i):Nat):Int)=q at r2 hzz;have w3:IntKind.i64.wrap (q+1)=q+1:=wrO;have hc:=AFJ a.2 (q+1) (by omega) (by omega);have hneg:¬ q+1+(a.2.length:Int)<0:=by omega
  simp only[EM,IC]at r2;simp[HSX,hlen,hi,r2,hq,hzz,hc,hneg,w2,w3]
end Go.Proofs.YtjdfjgmebalaaaaGreat.P
namespace Go.Av
section
variable {wi:World} {mi:Mem} {nt:Nat}
end
theorem AtP.see {w:World} {m:Mem} {x:Pn} {b o:Nat} {F:List Nat} {path:List Int} {y:Pn} {bq oq:Nat} {Fa Fy Fz:List Nat} (h:AtP w m x b o F path y bq oq Fa Fy Fz):∃ v0 v1 v2 v3 ao cap,IAt (gU w) bq oq [.lit v0, .lit v1, .lit v2, .lit v3, .lit (.slice ao y.kids.length cap)]∧w.cell? ⟨bq,oq+4,none⟩=some (.slice ao y.kids.length cap):=by
 obtain⟨v0,v1,v2,v3,v4,h5,hone,⟨ao,cap,rfl⟩,_,_⟩:=h.th.cells;exact⟨v0,v1,v2,v3,ao,cap, .cons h5.c0 (.lit _) (hone _ (by simp)) (.cons h5.c1 (.lit _) (hone _ (by simp)) (.cons h5.c2 (.lit _) (hone _ (by simp)) (.cons h5.c3 (.lit _) (hone _ (by simp)) (.cons h5.c4 (.lit _) (hone _ (by simp)) (.nil _ _))))),h5.c4⟩
end Go.Av
namespace Go.Proofs.YtjdfjgmebalaaaaGreat.G
open Go Go.Av
set_option maxRecDepth 4000
set_option maxHeartbeats 4000000
end Go.Proofs.YtjdfjgmebalaaaaGreat.G
namespace Go.Av
theorem dO {ws:List Int}:∀ (p:Pn) (lv:Nat),p.wd ws lv≠0→p.thin:=by
 intro p
 induction p using Pn.ind with
 | h k t es cs ks ih =>
  intro lv h
  have hk:∀ a∈ks,a.thin:=fun a ha=>by
   have h2:=(QR (p:=.mk k t es cs ks) h (by intro e;simp only[Pn.kids]at e;rw[e]at ha;simp at ha)).2.2 a ha;exact ih a ha _ h2
  have hs:=TQ h;rw[Pn.bI];generalize hp:Pn.mk k t es cs ks=p at *
  have hks:ks=p.kids:=by rw[← hp];rfl
  subst hks;have ok1:∀ {w:Int} {e:Ex},e.ok w=true→e.thin:=fun h=>Ex.fH _ (by have:=Ex.gP h;omega)
  cases hs with
  | scan=>simp[Pn.scan,Pn.exprs,Pn.cols,Pn.kids]
  | filt m e a _ _ he=>exact⟨by simp[filt,Pn.exprs],fun x hx=>by simp[filt,Pn.exprs]at hx;subst hx;exact ok1 he,by simp[filt,Pn.cols],by simp[filt,Pn.kids],hk⟩
  | proj m es a _ _ hl he=>exact⟨by simp[proj,Pn.exprs];unfold bJ at hl;simp at hl;omega,fun x hx=>ok1 (he x hx),by simp[proj,Pn.cols],by simp[proj,Pn.kids],hk⟩
  | pair m kd e a b _ _ _ _ _ he=>exact⟨by simp[bB,Pn.exprs],fun x hx=>by simp[bB,Pn.exprs]at hx;subst hx;exact ok1 he,by simp[bB,Pn.cols],by simp[bB,Pn.kids],hk⟩
  | union m a b=>exact⟨by simp[dZ,Pn.exprs],by simp[dZ,Pn.exprs],by simp[dZ,Pn.cols],by simp[dZ,Pn.kids],hk⟩
  | dist m a=>exact⟨by simp[Pn.exprs],by simp[Pn.exprs],by simp[Pn.cols],by simp[Pn.kids],hk⟩
  | group m cs a _ _ hc=>exact⟨by simp[Pn.exprs],by simp[Pn.exprs],by simp only[Pn.cols];omega,by simp[Pn.kids],hk⟩
theorem PX (c:Int):(VD c).thin:=by simp[VD,Ex.thin,Ex.oF]
theorem p9 (a:Int) (n:Nat):∀ b∈aU a n,b.thin:=by
 intro b hb;simp only[aU,yD]at hb;obtain⟨i,_,rfl⟩:=hb;exact PX _
theorem TR {ws:List Int} {p:Pn} (h:p.wd ws 8≠0) (hk:p.kids≠[]):∀ a∈p.kids,a.wd ws 8≠0:=fun a ha=>by
 have h2:=(QR h hk).2.2 a ha;rw[Pn.kK a 7 8 h2 (by omega)];exact h2
end Go.Av
namespace Go.Proofs.YtjdfjgmebalaaaaGreat.P
open Go Go.Av
set_option maxRecDepth 4000
set_option maxHeartbeats 4000000
theorem EU {ws:List Int} (hw:kE ws=true) {p:Pn} (hp:p.thin):aI C0 104 [.i (.agg p.cells), .i (.isl (aF ws)), .int 8] []=some (.int (p.wd ws 8),[]):=by
 refine vL (l8 hw) ?_ p (Pn.TS p hp) 8 (by omega);unfold kE at hw;simp at hw;omega
theorem eP (e:Ex) (p:Pn):aI C0 167 [.i (.agg e.cells), .i (.agg p.cells)] []=some (.i (.agg (filt e p).cells),[]):=by
 rw[aD rfl Tryz.func167 rfl rfl,aR,Ex.aA,Pn.aA];simp
def CFX (a:Int) (n i:Nat):AS :=
 { env:=[(0, .int a),(1, .int n),(4, .nils),(5, .osl 0 5 0 i),(6, .int i),(10,jk i (.bool true))],st:=[some (.arr 5 (Ex.aB (aU a i)))] }
theorem mH (a:Int) (ha:0≤a∧a≤100) (n:Nat) (hn:n<1000):aI C0 137 [.int a, .int n] []=some (.osl 0 5 0 n,[some (.arr 5 (Ex.aB (aU a n)))]):=by
 rw[aD rfl Tryz.func137 rfl rfl];simp;rw[aS (CFX a n) n (by simp[CFX,aU,Ex.aB])]
 ·rw[aG];have h8:(aU a n).take n=aU a n:=zZ (by simp);simp[CFX,h8]
 ·intro i hi;have w2:IntKind.i64.wrap ((i:Int)+1)=i+1:=wrO;have w3:IntKind.i64.wrap (a+(i:Int))=a+i:=wrO;have h8:(aU a i).take i=aU a i:=zZ (by simp);simp[CFX,hi,w2,w3,h8,M8,Ex.aW,jQ,show(i+1)*56≤140737488355328 by omega]
def lZ (ws:List Int) (r:Int) (e:Ex) (k:Pn):Prop:=aI C0 136 [.i (.agg (filt e k).cells), .int r, .i (.isl (aF ws))] []=some (.tup [.i (.agg ((rwF ws r e k).getD (filt e k)).cells), .bool (rwF ws r e k).isSome],[])
theorem QZ {ws:List Int} (hw:kE ws=true) {e:Ex} {k:Pn} (hp:(filt e k).wd ws 8≠0) {r:Int} (hr:r≠1∧r≠2∧r≠3∧r≠4∧r≠5∧r≠7∧r≠8∧r≠10):lZ ws r e k:=by
 obtain⟨h1,h2,h3⟩:=sI hp;have c1:=EU hw (dO k 8 h1);unfold lZ;obtain⟨r1,r2,r3,r4,r5,r7,r8,r10⟩:=hr;have hn:rwF ws r e k=none:=by simp[rwF,r1,r2,r3,r4,r5,r7,r8,r10]
 rw[hn,aD rfl Tryz.func136 rfl rfl]
 cases hk:k.kids with
 | nil =>
  simp only[Option.getD,aR,Ex.aA e,Pn.aA k,hk,Pn.aB]at c1 ⊢;simp[c1,r1,r2,r3,r4,r5,r7,r8,r10]
 | cons x xs =>
  have c2:=EU hw (dO x 8 (TR h1 (by simp[hk]) x (by simp[hk])));simp only[Option.getD,aR,Ex.aA e,Pn.aA k,hk,Pn.aB,Pn.aA x]at c1 c2 ⊢;simp[c1,c2,r1,r2,r3,r4,r5,r7,r8,r10]
theorem mF {ws:List Int} (hw:kE ws=true) {e:Ex} {k:Pn} (hp:(filt e k).wd ws 8≠0) {r:Int} (hr:(r=1∧k.kind≠2)∨(r=2∧e.kind≠8)∨(r=3∧¬ (k.kind=4∨k.kind=5))∨(r=4∧k.kind≠4)∨(r=5∧k.kind≠4)∨(r=7∧k.kind≠5)∨(r=8∧k.kind≠6)∨(r=10∧k.kind≠3)):lZ ws r e k:=by
 obtain⟨h1,h2,h3⟩:=sI hp;have c1:=EU hw (dO k 8 h1);unfold lZ
 have hn:rwF ws r e k=none:=by
  rcases hr with ⟨rfl,q⟩|⟨rfl,q⟩|⟨rfl,q⟩|⟨rfl,q⟩|⟨rfl,q⟩|⟨rfl,q⟩|⟨rfl,q⟩|⟨rfl,q⟩<;>simp[rwF,q]
 have hr':(r=1∧k.kind≠2)∨(r=2∧e.kind≠8)∨(r=3∧(k.kind≠4∧k.kind≠5))∨(r=4∧k.kind≠4)∨(r=5∧k.kind≠4)∨(r=7∧k.kind≠5)∨(r=8∧k.kind≠6)∨(r=10∧k.kind≠3):=by omega
 rw[hn,aD rfl Tryz.func136 rfl rfl]
 cases hk:k.kids with
 | nil =>
  simp only[Option.getD,aR,Ex.aA e,Pn.aA k,hk,Pn.aB]at c1 ⊢
  rcases hr' with ⟨rfl,q⟩|⟨rfl,q⟩|⟨rfl,q⟩|⟨rfl,q⟩|⟨rfl,q⟩|⟨rfl,q⟩|⟨rfl,q⟩|⟨rfl,q⟩<;>simp[c1,q]
 | cons x xs =>
  have c2:=EU hw (dO x 8 (TR h1 (by simp[hk]) x (by simp[hk])));simp only[Option.getD,aR,Ex.aA e,Pn.aA k,hk,Pn.aB,Pn.aA x]at c1 c2 ⊢
  rcases hr' with ⟨rfl,q⟩|⟨rfl,q⟩|⟨rfl,q⟩|⟨rfl,q⟩|⟨rfl,q⟩|⟨rfl,q⟩|⟨rfl,q⟩|⟨rfl,q⟩<;>simp[c1,c2,q]
theorem ANN {ws:List Int} (hw:kE ws=true) {e e2:Ex} {a:Pn} (hp:(filt e (filt e2 a)).wd ws 8≠0):lZ ws 1 e (filt e2 a):=by
 obtain⟨h1,h2,h3⟩:=sI hp;have c1:=EU hw (dO _ 8 h1);have c2:=EU hw (dO _ 8 (sI h1).1);have c3:=eP (VK e2 e) a;have hr:rwF ws 1 e (filt e2 a)=some (filt (VK e2 e) a):=by simp[rwF,filt,Pn.ex0,Pn.jH,Pn.kind,Pn.exprs,Pn.kids]
 unfold lZ;rw[hr,aD rfl Tryz.func136 rfl rfl];generalize (filt e2 a).wd ws 8=W at *
 generalize a.wd ws 8=V at *
 simp only[Option.getD,Option.isSome,aR,nY,Ex.aA e,Ex.aA e2,Pn.aA a]at c1 c2 c3 ⊢;simp[c1,c2,c3]
theorem ANM {ws:List Int} (hw:kE ws=true) {e x y:Ex} {k:Pn} (hp:(filt e k).wd ws 8≠0) (he:e.kind=8) (hk2:e.kids=[x,y]):lZ ws 2 e k:=by
 obtain⟨h1,h2,h3⟩:=sI hp;have c1:=EU hw (dO k 8 h1);have c3:=eP x k;have c4:=eP y (filt x k);have hr:rwF ws 2 e k=some (filt y (filt x k)):=by simp[rwF,he,Ex.jH,Ex.qL,hk2]
 unfold lZ;rw[hr,aD rfl Tryz.func136 rfl rfl]
 cases hk:k.kids with
 | nil =>
  simp only[Option.getD,Option.isSome,aR,Ex.aA e,hk2,Ex.aB,Ex.aA x,Ex.aA y,Pn.aA k,hk,Pn.aB]at c1 c3 c4 ⊢;simp[c1,c3,c4,he]
 | cons z zs =>
  have c2:=EU hw (dO z 8 (TR h1 (by simp[hk]) z (by simp[hk])));simp only[Option.getD,Option.isSome,aR,Ex.aA e,hk2,Ex.aB,Ex.aA x,Ex.aA y,Pn.aA k,hk,Pn.aB,Pn.aA z]at c1 c2 c3 c4 ⊢;simp[c1,c2,c3,c4,he]
theorem ANL {ws:List Int} (hw:kE ws=true) {e e2:Ex} {x y:Pn} {kd:Int} (hkd:kd=4∨kd=5) (hp:(filt e (bB kd e2 x y)).wd ws 8≠0):lZ ws 3 e (bB kd e2 x y):=by
 obtain⟨h1,h2,h3⟩:=sI hp;obtain⟨g1,g2,g3,g4,g5⟩:=LD hkd h1;have c1:=EU hw (dO _ 8 h1);have c2:=EU hw (dO _ 8 g1);obtain⟨n,hn,n1,n2⟩:=uS hw g1;rw[hn]at c2;have c3:=eP e x;have c4:=MZ e (Ex.D8 h2).1 (by have:=Ex.gP h2;omega) 0 n (by omega);have w1:IntKind.i64.wrap ((n:Int)-1)=n-1:=wrO
 have hr:rwF ws 3 e (bB kd e2 x y)=if e.cin 0 n=true then some (bB kd e2 (filt e x) y)else none:=by
  simp[rwF,bB,Pn.ex0,Pn.jH,Pn.qL,Pn.kind,Pn.exprs,Pn.kids,hkd,hn]
 unfold lZ;rw[hr,aD rfl Tryz.func136 rfl rfl];generalize (bB kd e2 x y).wd ws 8=W at *
 cases hb:e.cin 0 n with
 | true =>
  rw[hb]at c4;simp only[if_true,Option.getD,Option.isSome,aR,pair_cells,Ex.aA e,Ex.aA e2,Pn.aA x,Pn.aA y]at c1 c2 c3 c4 ⊢
  rcases hkd with rfl|rfl<;>simp[c1,c2,c3,c4,w1]
 | false =>
  rw[hb]at c4;simp only[yQ,if_false,Option.getD,Option.isSome,aR,pair_cells,Ex.aA e,Ex.aA e2,Pn.aA x,Pn.aA y]at c1 c2 c3 c4 ⊢
  rcases hkd with rfl|rfl<;>simp[c1,c2,c4,w1]
theorem ANK {ws:List Int} (hw:kE ws=true) {e e2:Ex} {x y:Pn} (hp:(filt e (bB 4 e2 x y)).wd ws 8≠0):lZ ws 4 e (bB 4 e2 x y):=by
 obtain⟨h1,h2,h3⟩:=sI hp;obtain⟨g1,g2,g3,g4,g5⟩:=LD (.inl rfl) h1;have c1:=EU hw (dO _ 8 h1);have c2:=EU hw (dO _ 8 g1);obtain⟨n,hn,n1,n2⟩:=uS hw g1;obtain⟨m,hm,m1,m2⟩:=uS hw g2;have hwf:=(Ex.D8 h2).1;rw[g5,hn,hm,← Int.natCast_add]at hwf;have g5':=g5;rw[hn,hm,← Int.natCast_add]at g5';rw[g5']at c1;rw[hn]at c2;have c4:=MZ e hwf (by have:=Ex.gP h2;omega) n (n+m:Nat) (by omega);have w1:IntKind.i64.wrap ((n:Int)+m-1)=n+m-1:=wrO;have w2:IntKind.i64.wrap ((n:Int)+m-n)=m:=by rw[wrO];omega
 have hr:rwF ws 4 e (bB 4 e2 x y)=if e.cin n (n+m:Nat)=true then some (bB 4 e2 x (filt (e.u7 (·-n)) y))else none:=by
  have:=g5';unfold bB at this;simp[rwF,bB,Pn.ex0,Pn.jH,Pn.qL,Pn.kind,Pn.exprs,Pn.kids,hn,this]
 have f1:=mH 0 (by omega) n (by omega);have f2:=mH 0 (by omega) m (by omega);have hlen:(aU 0 n++aU 0 m).length=n+m:=by simp
 have f3:=kT (aU 0 n++aU 0 m) (fun b hb=>by
  rcases zU.1 hb with h|h<;>exact p9 _ _ b h) e (Ex.fH _ (by have:=Ex.gP h2;omega)) (by rw[hlen];exact Ex.DJ e hwf)
 unfold lZ;rw[hr,aD rfl Tryz.func136 rfl rfl]
 cases hb:e.cin n (n+m:Nat)with
 | true =>
  have hsub:e.sub (aU 0 n++aU 0 m)=e.u7 (·-n):=Ex.TW (g:=fun c=>decide ((n:Int)≤c∧c<(n+m:Nat))) (fun c hc=>by
   simp only[zL]at hc;rw[yX (by simp;omega),qX,qW (by omega)]
   congr 2;omega) e hb
  rw[hsub]at f3;have c3:=eP (e.u7 (·-n)) y;generalize e.u7 (·-(n:Int))=z at *
  rw[hb]at c4;have ht:∀ k:Nat,(aU 0 k).take k=aU 0 k:=fun k=>zZ (by simp)
  have ht2:(Ex.aB (aU 0 n)++Ex.aB (aU 0 m)).take (n+m)=Ex.aB (aU 0 n)++Ex.aB (aU 0 m):=zZ (by simp);have hl1:(n+m)*56≤140737488355328:=by omega
  simp only[yJ]at c1 c4;simp only[if_true,Option.getD,Option.isSome,aR,pair_cells,Ex.aA e,Ex.aA e2,Ex.aA z,Pn.aA x,Pn.aA y,Ex.jC]at c1 c2 c3 c4 f3 ⊢;simp[c1,c2,c3,c4,w1,w2,f1,f2,f3,ht,ht2,hl1]
 | false =>
  rw[hb]at c4;simp only[yJ]at c1 c4;simp only[yQ,if_false,Option.getD,Option.isSome,aR,pair_cells,Ex.aA e,Ex.aA e2,Pn.aA x,Pn.aA y]at c1 c2 c4 ⊢;simp[c1,c2,c4,w1]
theorem ANJ {ws:List Int} (hw:kE ws=true) {e e2:Ex} {x y:Pn} (hp:(filt e (bB 4 e2 x y)).wd ws 8≠0):lZ ws 5 e (bB 4 e2 x y):=by
 obtain⟨h1,h2,h3⟩:=sI hp;obtain⟨g1,g2,g3,g4,g5⟩:=LD (.inl rfl) h1;have c1:=EU hw (dO _ 8 h1);have c2:=EU hw (dO _ 8 g1)
 have hr:rwF ws 5 e (bB 4 e2 x y)=some (bB 4 (VK e2 e) x y):=by
  simp[rwF,bB,Pn.ex0,Pn.jH,Pn.qL,Pn.kind,Pn.exprs,Pn.kids]
 unfold lZ;rw[hr,aD rfl Tryz.func136 rfl rfl];generalize (bB 4 e2 x y).wd ws 8=W at *
 generalize x.wd ws 8=V at *
 simp only[Option.getD,Option.isSome,aR,pair_cells,nY,Ex.aA e,Ex.aA e2,Pn.aA x,Pn.aA y]at c1 c2 ⊢;simp[c1,c2]
theorem ANI {ws:List Int} (hw:kE ws=true) {e e2:Ex} {x y:Pn} (hp:(filt e (bB 5 e2 x y)).wd ws 8≠0):lZ ws 7 e (bB 5 e2 x y):=by
 obtain⟨h1,h2,h3⟩:=sI hp;obtain⟨g1,g2,g3,g4,g5⟩:=LD (.inr rfl) h1;have c1:=EU hw (dO _ 8 h1);have c2:=EU hw (dO _ 8 g1);obtain⟨n,hn,n1,n2⟩:=uS hw g1;obtain⟨m,hm,m1,m2⟩:=uS hw g2;have hwf:=(Ex.D8 h2).1;rw[g5,hn,hm,← Int.natCast_add]at hwf;have g5':=g5;rw[hn,hm,← Int.natCast_add]at g5';rw[g5']at c1;rw[hn]at c2;have c3:=eP e (bB 4 e2 x y);have f1:=M7 (n:=n+m) (p:=n) (m:=m) rfl (by omega);have f2:=R3 e (n:=n+m) (p:=n) (m:=m) rfl (by omega) hwf
 have hr:rwF ws 7 e (bB 5 e2 x y)=if AA9 e (n+m:Nat) n=true then some (filt e (bB 4 e2 x y))else none:=by
  have:=g5';unfold bB at this;simp[rwF,bB,Pn.ex0,Pn.jH,Pn.qL,Pn.kind,Pn.exprs,Pn.kids,hn,this]
 unfold lZ;rw[hr,aD rfl Tryz.func136 rfl rfl];simp only[yJ]at c1 f1 f2
 cases hb:AA9 e (n+m:Nat) n with
 | true =>
  rw[show AA9 e ((n:Int)+m) n=true by rw[← Int.natCast_add];exact hb]at f2;simp only[if_true,Option.getD,Option.isSome,aR,pair_cells,Ex.aA e,Ex.aA e2,Pn.aA x,Pn.aA y]at c1 c2 c3 f2 ⊢;simp[c1,c2,c3,f1,f2]
 | false =>
  rw[show AA9 e ((n:Int)+m) n=false by rw[← Int.natCast_add];exact hb]at f2;simp only[yQ,if_false,Option.getD,Option.isSome,aR,pair_cells,Ex.aA e,Ex.aA e2,Pn.aA x,Pn.aA y]at c1 c2 f2 ⊢;simp[c1,c2,f1,f2]
theorem ANH {ws:List Int} (hw:kE ws=true) {e:Ex} {x y:Pn} (hp:(filt e (dZ x y)).wd ws 8≠0):lZ ws 8 e (dZ x y):=by
 obtain⟨h1,h2,h3⟩:=sI hp;have c1:=EU hw (dO _ 8 h1);have c2:=EU hw (dO x 8 (TR h1 (by simp[dZ,Pn.kids]) x (by simp[dZ,Pn.kids])));have c3:=eP e x;have c4:=eP e y
 have hr:rwF ws 8 e (dZ x y)=some (dZ (filt e x) (filt e y)):=by
  simp[rwF,dZ,Pn.ex0,Pn.jH,Pn.qL,Pn.kind,Pn.exprs,Pn.kids]
 unfold lZ;rw[hr,aD rfl Tryz.func136 rfl rfl];generalize (dZ x y).wd ws 8=W at *
 generalize x.wd ws 8=V at *
 simp only[Option.getD,Option.isSome,aR,EK,Ex.aA e,Pn.aA x,Pn.aA y]at c1 c2 c3 c4 ⊢;simp[c1,c2,c3,c4]
theorem AJ2 {ws:List Int} (hw:kE ws=true) {e:Ex} {es:List Ex} {x:Pn} (hp:(filt e (proj es x)).wd ws 8≠0):lZ ws 10 e (proj es x):=by
 obtain⟨h1,h2,h3⟩:=sI hp;obtain⟨g1,g2,g3,g4⟩:=XC h1;have c1:=EU hw (dO _ 8 h1);have c2:=EU hw (dO _ 8 g1);rw[g4]at h2;have c3:=eP (e.sub es) x;have f3:=kT es (fun b hb=>Ex.fH _ (by have:=Ex.gP (zO.1 g3 b hb);omega)) e (Ex.fH _ (by have:=Ex.gP h2;omega)) (Ex.DJ e (Ex.D8 h2).1)
 have hr:rwF ws 10 e (proj es x)=some (proj es (filt (e.sub es) x)):=by
  simp[rwF,proj,Pn.ex0,Pn.jH,Pn.qL,Pn.kind,Pn.exprs,Pn.kids]
 unfold lZ;rw[hr,aD rfl Tryz.func136 rfl rfl];generalize (proj es x).wd ws 8=W at *
 generalize x.wd ws 8=V at *
 generalize e.sub es=z at *
 simp only[Option.getD,Option.isSome,aR,iG,Ex.aA e,Ex.aA z,Pn.aA x]at c1 c2 c3 f3 ⊢;simp[c1,c2,c3,f3]
theorem AEE {ws:List Int} (hw:kE ws=true) {e:Ex} {k:Pn} (hp:(filt e k).wd ws 8≠0) (r:Int):lZ ws r e k:=by
 obtain⟨h1,h2,h3⟩:=sI hp;by_cases hr:r≠1∧r≠2∧r≠3∧r≠4∧r≠5∧r≠7∧r≠8∧r≠10
 ·exact QZ hw hp hr
 have hk:=lY h1;have hr':r=1∨r=2∨r=3∨r=4∨r=5∨r=7∨r=8∨r=10:=by omega
 rcases hr' with rfl|rfl|rfl|rfl|rfl|rfl|rfl|rfl
 ·by_cases q:k.kind=2
  ·obtain⟨e2,a,rfl⟩:=o6 hk q;exact ANN hw hp
  ·exact mF hw hp (.inl ⟨rfl,q⟩)
 ·by_cases q:e.kind=8
  ·rcases Ex.uQ (Ex.D8 h2).1 with ⟨h,_⟩|⟨h,_⟩|⟨h,_⟩|⟨_,x,y,h,_⟩
   ·omega
   ·omega
   ·omega
   ·exact ANM hw hp q h
  ·exact mF hw hp (.inr (.inl ⟨rfl,q⟩))
 ·by_cases q:k.kind=4∨k.kind=5
  ·obtain⟨e2,x,y,hx⟩:=iB hk q;generalize k.kind=kd at *
   subst hx;exact ANL hw q hp
  ·exact mF hw hp (.inr (.inr (.inl ⟨rfl,q⟩)))
 ·by_cases q:k.kind=4
  ·obtain⟨e2,x,y,hx⟩:=iB hk (.inl q);rw[q]at hx;subst hx;exact ANK hw hp
  ·exact mF hw hp (.inr (.inr (.inr (.inl ⟨rfl,q⟩))))
 ·by_cases q:k.kind=4
  ·obtain⟨e2,x,y,hx⟩:=iB hk (.inl q);rw[q]at hx;subst hx;exact ANJ hw hp
  ·exact mF hw hp (.inr (.inr (.inr (.inr (.inl ⟨rfl,q⟩)))))
 ·by_cases q:k.kind=5
  ·obtain⟨e2,x,y,hx⟩:=iB hk (.inr q);rw[q]at hx;subst hx;exact ANI hw hp
  ·exact mF hw hp (.inr (.inr (.inr (.inr (.inr (.inl ⟨rfl,q⟩))))))
 ·by_cases q:k.kind=6
  ·obtain⟨x,y,rfl⟩:=ACU hk q;exact ANH hw hp
  ·exact mF hw hp (.inr (.inr (.inr (.inr (.inr (.inr (.inl ⟨rfl,q⟩)))))))
 ·by_cases q:k.kind=3
  ·obtain⟨es,x,rfl⟩:=mR hk q;exact AJ2 hw hp
  ·exact mF hw hp (.inr (.inr (.inr (.inr (.inr (.inr (.inr ⟨rfl,q⟩)))))))
def SRw (ws:List Int) (r:Int) (p:Pn):Prop:=aI C0 102 [.i (.agg p.cells), .int r, .i (.isl (aF ws))] []=some (.tup [.i (.agg ((rwP ws r p).getD p).cells), .bool (rwP ws r p).isSome],[])
theorem AED {ws:List Int} (hw:kE ws=true) {e:Ex} {k:Pn} (hp:(filt e k).wd ws 8≠0) (r:Int):SRw ws r (filt e k):=by
 have h:=AEE hw hp r;unfold lZ at h;unfold SRw;rw[eQ];generalize (rwF ws r e k).getD (filt e k)=q at *
 generalize (rwF ws r e k).isSome=b at *
 rw[aD rfl Tryz.func102 rfl rfl];simp only[aR,Pn.aA q]at h ⊢;simp[h]
theorem ANF {ws:List Int} {p:Pn} {r:Int} (h2:p.kind≠2) (h4:¬ (r=6∧p.kind=4)) (h7:¬ (r=9∧p.kind=7)) (h3:¬ (r=11∧p.kind=3)):SRw ws r p:=by
 have hn:rwP ws r p=none:=by
  unfold rwP;rw[if_neg h2,if_neg h4,if_neg (fun h=>h7 ⟨h.1,h.2.1⟩),if_neg (fun h=>h3 ⟨h.1,h.2.1⟩)]
 unfold SRw;rw[hn,aD rfl Tryz.func102 rfl rfl];simp only[Option.getD,Option.isSome,Pn.aA p];by_cases r6:r=6
 ·have k4:¬ p.kind=4:=fun h=>h4 ⟨r6,h⟩
  simp[h2,r6,k4]
 ·by_cases r9:r=9
  ·have k7:¬ p.kind=7:=fun h=>h7 ⟨r9,h⟩
   simp[h2,r9,k7]
  ·by_cases r11:r=11
   ·have k3:¬ p.kind=3:=fun h=>h3 ⟨r11,h⟩
    simp[h2,r11,k3]
   ·simp[h2,r6,r9,r11]
theorem AJ1 {ws:List Int} (hw:kE ws=true) {e:Ex} {x y:Pn} (hp:(bB 4 e x y).wd ws 8≠0):SRw ws 6 (bB 4 e x y):=by
 obtain⟨g1,g2,g3,g4,g5⟩:=LD (.inl rfl) hp;have c1:=EU hw (dO _ 8 g1);have c2:=EU hw (dO _ 8 g2);obtain⟨n,hn,n1,n2⟩:=uS hw g1;obtain⟨m,hm,m1,m2⟩:=uS hw g2;have hwf:=(Ex.D8 g4).1;rw[hn]at c1 hwf;rw[hm]at c2 hwf;have f1:=mH m (by omega) n (by omega);have f2:=mH 0 (by omega) m (by omega);have hlen:(aU (m:Int) n++aU 0 m).length=n+m:=by simp
 have f3:=kT (aU (m:Int) n++aU 0 m) (fun b hb=>by
  rcases zU.1 hb with h|h<;>exact p9 _ _ b h) e (Ex.fH _ (by have:=Ex.gP g4;omega)) (by rw[hlen,yJ];exact Ex.DJ e hwf)
 have hsub:e.sub (aU (m:Int) n++aU 0 m)=e.u7 (oG n m):=Ex.TW (g:=fun c=>decide (0≤c∧c<(n:Int)+m)) (fun c hc=>by
  simp only[zL]at hc;rw[VB (by omega)]
  congr 3;omega) e (Ex.KQ e hwf)
 rw[hsub]at f3
 have hr:rwP ws 6 (bB 4 e x y)=some (proj (aU m n++aU 0 m) (bB 4 (e.u7 (oG n m)) y x)):=by
  simp[rwP,bB,Pn.ex0,Pn.jH,Pn.qL,Pn.kind,Pn.exprs,Pn.kids,hn,hm]
 unfold SRw;rw[hr,aD rfl Tryz.func102 rfl rfl];generalize e.u7 (oG n m)=z at *
 have ht:∀ (a:Int) (k:Nat),(aU a k).take k=aU a k:=fun a k=>zZ (by simp)
 have ht2:(Ex.aB (aU m n)++Ex.aB (aU 0 m)).take (n+m)=Ex.aB (aU m n)++Ex.aB (aU 0 m):=zZ (by simp);have hl1:(n+m)*56≤140737488355328:=by omega
 simp only[Option.getD,Option.isSome,iG,pair_cells,Ex.aA e,Ex.aA z,Pn.aA x,Pn.aA y,Ex.jC]at c1 c2 f3 ⊢;simp[c1,c2,f1,f2,f3,ht,ht2,hl1]
theorem AEC {ws:List Int} {a:Pn}:SRw ws 9 (.mk 7 0 [] [] [a]):=by
 have hc:(Pn.mk 7 0 [] [] [a]).cells=[.int 7, .int 0, .isl [], .isl [], .isl [a.cells]]:=by simp[Pn.cells,Ex.aB,aF,Pn.aB]
 unfold SRw;rw[aD rfl Tryz.func102 rfl rfl];by_cases h:a.kind=7∨a.kind=8
 ·have hr:rwP ws 9 (.mk 7 0 [] [] [a])=some a:=by simp[rwP,Pn.jH,Pn.kids,h]
  rw[hr];simp only[Option.getD,Option.isSome,hc,Pn.aA a]
  rcases h with h|h<;>simp[h]
 ·have hr:rwP ws 9 (.mk 7 0 [] [] [a])=none:=by simp[rwP,Pn.jH,Pn.kids,h]
  rw[hr];simp only[Option.getD,Option.isSome,hc,Pn.aA a];have h7:¬ a.kind=7:=by omega
  have h8:¬ a.kind=8:=by omega
  simp[h7,h8]
theorem KV {ws:List Int} {fs:List Ex} {a:Pn} (h:a.kind≠3):SRw ws 11 (proj fs a):=by
 have hr:rwP ws 11 (proj fs a)=none:=by simp[rwP,Pn.jH,Pn.kids,proj,h]
 unfold SRw;rw[hr,aD rfl Tryz.func102 rfl rfl];simp only[Option.getD,Option.isSome,iG,Pn.aA a];simp[h]
def SRX (fs es:List Ex) (x:Pn) (ws:List Int) (zs:List Ex) (i:Nat):AS :=
 { env:=[(0, .i (.agg [.int 3, .int 0, .isl (Ex.aB fs), .isl [], .isl [[.int 3, .int 0, .isl (Ex.aB es), .isl [], .isl [[.int x.kind, .int x.table, .isl (Ex.aB x.exprs), .isl (aF x.cols), .isl (Pn.aB x.kids)]]]]])),(1, .int 11),(2, .i (.isl (aF ws))),(3, .own 0 0),(6, .own 1 0),(7, .bool false),(8, .junk),(9, .junk),(10, .junk),(11, .junk),(12, .osl 2 5 0 i),(13, .int i),(14, .bool false),(24, .bool false),(71, .bool false),(99, .bool true),(120,jk i (.bool true))],
   st:=[some (.box [.i (.int 3), .i (.int 0), .i (.isl (Ex.aB fs)), .i (.isl []), .i (.isl [[.int 3, .int 0, .isl (Ex.aB es), .isl [], .isl [[.int x.kind, .int x.table, .isl (Ex.aB x.exprs), .isl (aF x.cols), .isl (Pn.aB x.kids)]]]])]),some (.box [.int 0, .int 0, .nils, .nils, .nils]),some (.arr 5 (Ex.aB (zs.take i)))] }
theorem WV {ws:List Int} {fs es:List Ex} {x:Pn} (hp:(proj fs (proj es x)).wd ws 8≠0):SRw ws 11 (proj fs (proj es x)):=by
 obtain⟨h1,h2,h3,h4⟩:=XC hp;obtain⟨g1,g2,g3,g4⟩:=XC h1;rw[g4]at h3;have f3:=fun f (hf:f∈fs)=>kT es (fun b hb=>Ex.fH _ (by have:=Ex.gP (zO.1 g3 b hb);omega)) f (Ex.fH _ (by have:=Ex.gP (zO.1 h3 f hf);omega)) (Ex.DJ f (Ex.D8 (zO.1 h3 f hf)).1)
 have hr:rwP ws 11 (proj fs (proj es x))=some (proj (fs.map (Ex.sub es)) x):=by
  simp[rwP,proj,Pn.ex0,Pn.jH,Pn.qL,Pn.kind,Pn.exprs,Pn.kids]
 unfold SRw;rw[hr,aD rfl Tryz.func102 rfl rfl];have hlen:fs.length≤6:=by unfold bJ at h2;simp at h2;omega
 have hz:∀ (i:Nat) (f:Ex),fs[i]?=some f→(fs.map (Ex.sub es))[i]?=some (f.sub es):=fun i f h=>by simp[h]
 have hzl:(fs.map (Ex.sub es)).length=fs.length:=by simp
 generalize fs.map (Ex.sub es)=zs at *
 simp only[Option.getD,Option.isSome,iG,Pn.aA x];simp;rw[aS (SRX fs es x ws zs) fs.length (by simp[SRX,Ex.aB])]
 ·rw[aG];have ht:zs.take fs.length=zs:=zZ (by omega);simp[SRX,ht,hzl]
 ·intro i hi;have q1:=zX hi;have hm:=zV q1;have r1:=Ex.aN q1;generalize fs[i]=f at q1 hm r1;have q2:=hz i f q1;have c5:=f3 f hm;generalize f.sub es=z at q2 c5;have htk:=aJ q2;have w2:IntKind.i64.wrap ((i:Int)+1)=i+1:=wrO;have hl1:(i+1)*56≤140737488355328:=by omega
  have hl2:i≤min i zs.length:=by omega
  simp only[Ex.aA f,Ex.aA z]at c5 r1;simp[SRX,hi,r1,c5,w2,htk,Ex.aW,Ex.aA z,hl1,hl2,zK]
theorem ANG {ws:List Int} (hw:kE ws=true) {p:Pn} (hp:p.wd ws 8≠0) (r:Int):SRw ws r p:=by
 have hk:=lY hp;by_cases k2:p.kind=2
 ·obtain⟨e,a,rfl⟩:=o6 hk k2;exact AED hw hp r
 by_cases k4:r=6∧p.kind=4
 ·obtain⟨rfl,k4⟩:=k4;obtain⟨e,x,y,hx⟩:=iB hk (.inl k4);rw[k4]at hx;subst hx;exact AJ1 hw hp
 by_cases k7:r=9∧p.kind=7
 ·obtain⟨rfl,k7⟩:=k7;obtain⟨a,rfl⟩:=ACV hk k7;exact AEC
 by_cases k3:r=11∧p.kind=3
 ·obtain⟨rfl,k3⟩:=k3;obtain⟨fs,a,rfl⟩:=mR hk k3;by_cases k33:a.kind=3
  ·obtain⟨V,hV,_⟩:=uN hk;obtain⟨es,x,rfl⟩:=mR hV k33;exact WV hp
  ·exact KV k33
 exact ANF k2 k4 k7 k3
end Go.Proofs.YtjdfjgmebalaaaaGreat.P
namespace Go.Av
theorem AL7 {path:List Int} {p a:Pn} {x:Int} (h:Pn.at path p=some a):Pn.at (path++[x]) p=if 0≤x then a.kids[x.toNat]? else none:=by
 rw[wG path p a [x] h];unfold Pn.at;split
 ·cases a.kids[x.toNat]?<;>simp[Pn.at]
 ·rfl
theorem AL8 {path r:List Int} {p:Pn} (h:Pn.at path p=none):Pn.at (path++r) p=none:=by
 induction path generalizing p with
 | nil=>simp[Pn.at]at h
 | cons i path ih =>
  simp only[yL,Pn.at]at h ⊢;split
  ·rename_i h0;rw[if_pos h0]at h
   cases hk:p.kids[i.toNat]? with
   | none=>rfl
   | some b=>rw[hk]at h;exact ih h
  ·rfl
theorem AL6 (path:List Int) (p:Pn):∃ j:Nat,(∀ i,i<j→∃ (x:Int) (a b:Pn),path[i]?=some x∧Pn.at (path.take i) p=some a∧0≤x∧a.kids[x.toNat]?=some b∧Pn.at (path.take (i+1)) p=some b)∧((∃ a,j=path.length∧Pn.at path p=some a)∨(∃ (x:Int) (a:Pn),path[j]?=some x∧Pn.at (path.take j) p=some a∧(0≤x→a.kids[x.toNat]?=none)∧Pn.at path p=none)):=by
 generalize hn:path.length=n
 induction n generalizing path with
 | zero =>
  obtain rfl:=zW.1 hn;exact⟨0,fun i hi=>by omega, .inl ⟨p,rfl,rfl⟩⟩
 | succ n ih =>
  obtain⟨l,x,rfl⟩:∃ l x,path=l++[x]:=by
   rcases List.eq_nil_or_concat path with h|⟨l,x,h⟩
   ·rw[h]at hn;simp at hn
   ·exact⟨l,x,by simpa using h⟩
  have hln:l.length=n:=by simpa using hn
  subst hln;obtain⟨j,h1,h2⟩:=ih l rfl
  have hlt:∀ i,i<j→i<l.length:=fun i hi=>by
   obtain⟨y,_,_,h,_⟩:=h1 i hi;exact(zY.1 h).1
  have h1':∀ i,i<j→∃ (x':Int) (a b:Pn),(l++[x])[i]?=some x'∧Pn.at ((l++[x]).take i) p=some a∧0≤x'∧a.kids[x'.toNat]?=some b∧Pn.at ((l++[x]).take (i+1)) p=some b:=fun i hi=>by
   obtain⟨y,a,b,q1,q2,q3,q4,q5⟩:=h1 i hi;have hl:=hlt i hi;refine⟨y,a,b,by rw[yY hl];exact q1,by rw[xQ (by omega)];exact q2,q3,q4,by rw[xQ (by omega)];exact q5⟩
  rcases h2 with ⟨a,rfl,ha⟩|⟨y,a,q1,q2,q3,q4⟩
  ·have hs:=AL7 (x:=x) ha;by_cases hx:0≤x
   ·rw[if_pos hx]at hs
    cases hk:a.kids[x.toNat]? with
    | none=>exact⟨l.length,h1', .inr ⟨x,a,by simp,by simpa using ha,fun _=>hk,by rw[hs,hk]⟩⟩
    | some b =>
     refine⟨l.length+1,fun i hi=>?_, .inl ⟨b,by simp,by rw[hs,hk]⟩⟩;by_cases hi':i<l.length
     ·exact h1' i hi'
     ·obtain rfl:i=l.length:=by omega
      exact⟨x,a,b,by simp,by simpa using ha,hx,hk,by rw[zZ (by simp),hs,hk]⟩
   ·rw[if_neg hx]at hs;exact⟨l.length,h1', .inr ⟨x,a,by simp,by simpa using ha,fun h=>absurd h hx,hs⟩⟩
  ·have hl:=(zY.1 q1).1;exact⟨j,h1', .inr ⟨y,a,by rw[yY hl];exact q1,by rw[xQ (by omega)];exact q2,q3,AL8 q4⟩⟩
theorem TE:∀ (path:List Int) (p a:Pn),p.thin→Pn.at path p=some a→a.thin
 | [],p,a,h,e=>by simp[Pn.at]at e;subst e;exact h
 | i::r,p,a,h,e=>by
  obtain⟨n,rfl,b,hb,hr⟩:=Pn.qY e;exact TE r b a (((Pn.bI p).1 h).2.2.2.2 b (zV hb)) hr
theorem Pn.rU (l:List Pn) (n:Nat) (x:Pn):(Pn.aB l).set n x.cells=Pn.aB (l.set n x):=by
 induction l generalizing n with
 | nil=>simp[Pn.aB]
 | cons a l ih=>cases n with
  | zero=>simp[Pn.aB]
  | succ n=>simp[Pn.aB,ih n]
end Go.Av
namespace Go.Proofs.YtjdfjgmebalaaaaGreat.P
open Go Go.Av
set_option maxRecDepth 4000
set_option maxHeartbeats 4000000
def wJ (a:Pn):Option Blk:=some (.box [.i (.int a.kind), .i (.int a.table), .i (.isl (Ex.aB a.exprs)), .i (.isl (aF a.cols)), .i (.isl (Pn.aB a.kids))])
def PAX (p:Pn) (path:List Int) (a:Pn) (i:Nat):AS :=
 { env:=[(0, .i (.agg [.int p.kind, .int p.table, .isl (Ex.aB p.exprs), .isl (aF p.cols), .isl (Pn.aB p.kids)])),(1, .i (.isl (aF path))),(2, .own 0 0),(4, .own 1 0),(5, .bool false),(6, .int i),(10,jk i (.bool true)),(22,jk i (.bool false))],
   st:=[wJ a,some (.box [.int 0, .int 0, .nils, .nils, .nils])] }
theorem AAG {p:Pn} (hp:p.thin) {path:List Int} (hl:path.length<1000000):aI C0 101 [.i (.agg p.cells), .i (.isl (aF path))] []=some (.tup [.i (.agg ((Pn.at path p).getD Pn.zero).cells), .bool (Pn.at path p).isSome],[]):=by
 obtain⟨j,h1,h2⟩:=AL6 path p;rw[aD rfl Tryz.func101 rfl rfl];simp only[Pn.aA p];simp;rw[aS (fun i=>PAX p path ((Pn.at (path.take i) p).getD Pn.zero) i) j (by simp[PAX,Pn.at,wJ])]
 ·rw[aG]
  rcases h2 with ⟨a,rfl,ha⟩|⟨x,a,q1,q2,q3,q4⟩
  ·simp[PAX,wJ,ha,Pn.aA a]
  ·have r1:=bH q1;have hj:=(zY.1 q1).1;have ha:=TE _ _ _ hp q2;have hka:=((Pn.bI a).1 ha).2.2.2.1;have w1:IntKind.i64.wrap ((a.kids.length:Int)-1)=a.kids.length-1:=wrO
   have hin:(decide (0≤x∧x≤(a.kids.length:Int)-1))=false:=by
    rw[decide_eq_false_iff_not];rintro⟨g1,g2⟩;have:=xE.1 (q3 g1);omega
   have hir:=JX x 0 ((a.kids.length:Int)-1);rw[hin]at hir;simp[PAX,wJ,q2,q4,hj,r1,w1,hir,aT]
 ·intro i hi;obtain⟨x,a,b,q1,q2,q3,q4,q5⟩:=h1 i hi;have r1:=bH q1;have hj:=(zY.1 q1).1;have ha:=TE _ _ _ hp q2;have hka:=((Pn.bI a).1 ha).2.2.2.1;have hxl:=(zY.1 q4).1;have r4:=Pn.aN q4;have w1:IntKind.i64.wrap ((a.kids.length:Int)-1)=a.kids.length-1:=wrO;have w2:IntKind.i64.wrap ((i:Int)+1)=i+1:=wrO;have hin:(decide (0≤x∧x≤(a.kids.length:Int)-1))=true:=by rw[zL];omega
  have hir:=JX x 0 ((a.kids.length:Int)-1);rw[hin]at hir;rw[Pn.aA b]at r4;simp[PAX,wJ,q2,q5,hj,r1,w1,w2,hir,q3,show x<a.kids.length by omega,r4]
end Go.Proofs.YtjdfjgmebalaaaaGreat.P

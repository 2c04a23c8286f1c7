/- Part 6 of what the proof rests on: the executor and what it is worth, and the program's functions as it runs them. No condition. -/
import Derived.Test.YtiailccmofdhfaaGreatT5
set_option linter.unusedVariables false
set_option linter.unusedSimpArgs false
namespace Go.Proofs.YtiailccmofdhfaaGreat.P
open Go Go.Av
set_option maxRecDepth 4000
set_option maxHeartbeats 2000000
def KX (p:Pn) (i:Nat):AS :=
 { env:=[(0, .i (.agg [.int p.kind, .int p.table, .isl (Ex.cellsL p.exprs), .isl (intsL p.cols), .isl (Pn.cellsL p.kids)])),(1, .own 0 0),(2, .own 1 0),(3, .own 2 0),(4, .int i),(5, .junk),(19,jk i (.bool true)),(37, .junk)],
   st:=some (.box [.int p.kind, .int p.table, .i (.isl (Ex.cellsL p.exprs)), .i (.isl (intsL p.cols)), .i (.isl (Pn.cellsL p.kids))])::some (.box [.int 0, .int 0, .nils, .nils, .nils]) ::
    some (.box [.int p.kind, .int p.table,gro 3 5 i, .osl (if i=0 then 3 else 4) 1 0 p.cols.length, .nils])::(groB 5 (Ex.cellsL (p.exprs.take i)) i++[some (.arr 1 (intsL p.cols))]) }
def K2 (p:Pn) (i:Nat):AS :=
 { env:=[(0, .i (.agg [.int p.kind, .int p.table, .isl (Ex.cellsL p.exprs), .isl (intsL p.cols), .isl (Pn.cellsL p.kids)])),(1, .own 0 0),(2, .own 1 0),(3, .own 2 0),(4, .int p.exprs.length),(5, .int i),(19, .bool false),(37,jk i (.bool true))],
   st:=some (.box [.int p.kind, .int p.table, .i (.isl (Ex.cellsL p.exprs)), .i (.isl (intsL p.cols)), .i (.isl (Pn.cellsL p.kids))])::some (.box [.int 0, .int 0, .nils, .nils, .nils]) ::
    some (.box [.int p.kind, .int p.table,gro 3 5 p.exprs.length, .osl (if p.exprs.length=0 then 3 else 4) 1 0 p.cols.length,gro (if p.exprs.length=0 then 4 else 5) 5 i])::(groB 5 (Ex.cellsL p.exprs) p.exprs.length++some (.arr 1 (intsL p.cols))::groB 5 (Pn.cellsL (p.kids.take i)) i) }
def pcX (p:Pn):AV:=.agg [.int p.kind, .int p.table,gro 0 5 p.exprs.length, .osl (if p.exprs.length=0 then 0 else 1) 1 0 p.cols.length,gro (if p.exprs.length=0 then 1 else 2) 5 p.kids.length]
def pcS (p:Pn):StL:=groB 5 (Ex.cellsL p.exprs) p.exprs.length++some (.arr 1 (intsL p.cols))::groB 5 (Pn.cellsL p.kids) p.kids.length
theorem copyPlan_step {p:Pn} (hp:p.thin) (ih:∀ a∈p.kids,callA C0 123 [.i (.agg a.cells)] []=some (pcX a,pcS a)) :
 callA C0 123 [.i (.agg p.cells)] []=some (pcX p,pcS p):=by
 have ht:=(Pn.thin_iff _).1 hp
 obtain⟨t1,t2,t3,t4,-⟩:=ht
 rw[callA_eq rfl Tryz.func123 rfl rfl,Pn.cells_eq]
 by_cases hc:p.cols=[]
 ·simp[hc,intsL]
  rw[loop_to (KX p) p.exprs.length (by simp[KX,hc,intsL])]
  ·rw[execA_loop]
   cases hn:p.exprs.length with
   | zero =>
    have he:p.exprs=[]:=List.length_eq_zero_iff.1 hn
    simp[KX,he,hc,intsL,Ex.cellsL]
    rw[loop_to (K2 p) p.kids.length (by simp[K2,he,hc,intsL,Ex.cellsL])]
    ·rw[execA_loop]
     cases hm:p.kids.length with
     | zero =>
      have hk:p.kids=[]:=List.length_eq_zero_iff.1 hm
      simp[K2,he,hc,intsL,hk,Ex.cellsL,Pn.cellsL,pcX,pcS]
     | succ m =>
      have hk:p.kids.take (m+1)=p.kids:=List.take_of_length_le (by omega)
      simp[K2,he,hc,intsL,hm,hk,Ex.cellsL,pcX,pcS]
    ·intro i hi
     have h3:=List.getElem?_eq_getElem hi
     have hc':=ih _ (List.mem_of_getElem? h3)
     have r2:=Pn.cellsL_nth h3
     generalize p.kids[i]=a at h3 hc' r2
     have w2:IntKind.i64.wrap ((i:Int)+1)=i+1:=wrap64 (by omega) (by omega)
     rw[Pn.cells_eq]at r2 hc'
     simp only[pcX,pcS]at hc'
     have hl1:(i+1)*88≤140737488355328:=by omega
     have hl2:min i p.kids.length=i:=by omega
     by_cases a1:a.exprs=[]
     ·by_cases a2:a.kids=[]
      ·simp[a1,a2,Ex.cellsL,Pn.cellsL]at hc' r2
       by_cases h0:i=0
       ·subst h0;simp[K2,he,hc,intsL,hi,r2,hc',wrap_1,take_snoc h3,Ex.cellsL,Pn.cellsL,Pn.cells_eq a,a1,a2]
       ·simp[K2,he,hc,intsL,gro_pos h0,groB_pos h0,jk_pos h0,hi,r2,hc',w2,take_snoc h3,Ex.cellsL,Pn.cellsL,Pn.cellsL_snoc,hl1,hl2,List.take_take,Pn.cells_eq a,h0,a1,a2]
      ·have a2':a.kids.length≠0:=fun h=>a2 (List.length_eq_zero_iff.1 h)
       simp[a1,gro_pos a2',groB_pos a2',a2,Ex.cellsL,Pn.cellsL]at hc' r2
       by_cases h0:i=0
       ·subst h0;simp[K2,he,hc,intsL,hi,r2,hc',wrap_1,take_snoc h3,Ex.cellsL,Pn.cellsL,Pn.cells_eq a,a1,gro_pos a2',groB_pos a2',a2]
       ·simp[K2,he,hc,intsL,gro_pos h0,groB_pos h0,jk_pos h0,hi,r2,hc',w2,take_snoc h3,Ex.cellsL,Pn.cellsL,Pn.cellsL_snoc,hl1,hl2,List.take_take,Pn.cells_eq a,h0,a1,gro_pos a2',groB_pos a2',a2]
     ·by_cases a2:a.kids=[]
      ·have a1':a.exprs.length≠0:=fun h=>a1 (List.length_eq_zero_iff.1 h)
       simp[gro_pos a1',groB_pos a1',a1,a2,Ex.cellsL,Pn.cellsL]at hc' r2
       by_cases h0:i=0
       ·subst h0;simp[K2,he,hc,intsL,hi,r2,hc',wrap_1,take_snoc h3,Ex.cellsL,Pn.cellsL,Pn.cells_eq a,gro_pos a1',groB_pos a1',a1,a2]
       ·simp[K2,he,hc,intsL,gro_pos h0,groB_pos h0,jk_pos h0,hi,r2,hc',w2,take_snoc h3,Ex.cellsL,Pn.cellsL,Pn.cellsL_snoc,hl1,hl2,List.take_take,Pn.cells_eq a,h0,gro_pos a1',groB_pos a1',a1,a2]
      ·have a1':a.exprs.length≠0:=fun h=>a1 (List.length_eq_zero_iff.1 h)
       have a2':a.kids.length≠0:=fun h=>a2 (List.length_eq_zero_iff.1 h)
       simp[gro_pos a1',groB_pos a1',a1,gro_pos a2',groB_pos a2',a2,Ex.cellsL,Pn.cellsL]at hc' r2
       by_cases h0:i=0
       ·subst h0;simp[K2,he,hc,intsL,hi,r2,hc',wrap_1,take_snoc h3,Ex.cellsL,Pn.cellsL,Pn.cells_eq a,gro_pos a1',groB_pos a1',a1,gro_pos a2',groB_pos a2',a2]
       ·simp[K2,he,hc,intsL,gro_pos h0,groB_pos h0,jk_pos h0,hi,r2,hc',w2,take_snoc h3,Ex.cellsL,Pn.cellsL,Pn.cellsL_snoc,hl1,hl2,List.take_take,Pn.cells_eq a,h0,gro_pos a1',groB_pos a1',a1,gro_pos a2',groB_pos a2',a2]
   | succ n =>
    have he:p.exprs.take (n+1)=p.exprs:=List.take_of_length_le (by omega)
    simp[KX,hn,he,hc,intsL]
    rw[loop_to (K2 p) p.kids.length (by simp[K2,hn,hc,intsL,Ex.cellsL])]
    ·rw[execA_loop]
     cases hm:p.kids.length with
     | zero =>
      have hk:p.kids=[]:=List.length_eq_zero_iff.1 hm
      simp[K2,hn,hc,intsL,hk,Ex.cellsL,Pn.cellsL,pcX,pcS]
     | succ m =>
      have hk:p.kids.take (m+1)=p.kids:=List.take_of_length_le (by omega)
      simp[K2,hn,hc,intsL,hm,hk,Ex.cellsL,pcX,pcS]
    ·intro i hi
     have h3:=List.getElem?_eq_getElem hi
     have hc':=ih _ (List.mem_of_getElem? h3)
     have r2:=Pn.cellsL_nth h3
     generalize p.kids[i]=a at h3 hc' r2
     have w2:IntKind.i64.wrap ((i:Int)+1)=i+1:=wrap64 (by omega) (by omega)
     rw[Pn.cells_eq]at r2 hc'
     simp only[pcX,pcS]at hc'
     have hl1:(i+1)*88≤140737488355328:=by omega
     have hl2:min i p.kids.length=i:=by omega
     by_cases a1:a.exprs=[]
     ·by_cases a2:a.kids=[]
      ·simp[a1,a2,Ex.cellsL,Pn.cellsL]at hc' r2
       by_cases h0:i=0
       ·subst h0;simp[K2,hn,hc,intsL,hi,r2,hc',wrap_1,take_snoc h3,Ex.cellsL,Pn.cellsL,Pn.cells_eq a,a1,a2]
       ·simp[K2,hn,hc,intsL,gro_pos h0,groB_pos h0,jk_pos h0,hi,r2,hc',w2,take_snoc h3,Ex.cellsL,Pn.cellsL,Pn.cellsL_snoc,hl1,hl2,List.take_take,Pn.cells_eq a,h0,a1,a2]
      ·have a2':a.kids.length≠0:=fun h=>a2 (List.length_eq_zero_iff.1 h)
       simp[a1,gro_pos a2',groB_pos a2',a2,Ex.cellsL,Pn.cellsL]at hc' r2
       by_cases h0:i=0
       ·subst h0;simp[K2,hn,hc,intsL,hi,r2,hc',wrap_1,take_snoc h3,Ex.cellsL,Pn.cellsL,Pn.cells_eq a,a1,gro_pos a2',groB_pos a2',a2]
       ·simp[K2,hn,hc,intsL,gro_pos h0,groB_pos h0,jk_pos h0,hi,r2,hc',w2,take_snoc h3,Ex.cellsL,Pn.cellsL,Pn.cellsL_snoc,hl1,hl2,List.take_take,Pn.cells_eq a,h0,a1,gro_pos a2',groB_pos a2',a2]
     ·by_cases a2:a.kids=[]
      ·have a1':a.exprs.length≠0:=fun h=>a1 (List.length_eq_zero_iff.1 h)
       simp[gro_pos a1',groB_pos a1',a1,a2,Ex.cellsL,Pn.cellsL]at hc' r2
       by_cases h0:i=0
       ·subst h0;simp[K2,hn,hc,intsL,hi,r2,hc',wrap_1,take_snoc h3,Ex.cellsL,Pn.cellsL,Pn.cells_eq a,gro_pos a1',groB_pos a1',a1,a2]
       ·simp[K2,hn,hc,intsL,gro_pos h0,groB_pos h0,jk_pos h0,hi,r2,hc',w2,take_snoc h3,Ex.cellsL,Pn.cellsL,Pn.cellsL_snoc,hl1,hl2,List.take_take,Pn.cells_eq a,h0,gro_pos a1',groB_pos a1',a1,a2]
      ·have a1':a.exprs.length≠0:=fun h=>a1 (List.length_eq_zero_iff.1 h)
       have a2':a.kids.length≠0:=fun h=>a2 (List.length_eq_zero_iff.1 h)
       simp[gro_pos a1',groB_pos a1',a1,gro_pos a2',groB_pos a2',a2,Ex.cellsL,Pn.cellsL]at hc' r2
       by_cases h0:i=0
       ·subst h0;simp[K2,hn,hc,intsL,hi,r2,hc',wrap_1,take_snoc h3,Ex.cellsL,Pn.cellsL,Pn.cells_eq a,gro_pos a1',groB_pos a1',a1,gro_pos a2',groB_pos a2',a2]
       ·simp[K2,hn,hc,intsL,gro_pos h0,groB_pos h0,jk_pos h0,hi,r2,hc',w2,take_snoc h3,Ex.cellsL,Pn.cellsL,Pn.cellsL_snoc,hl1,hl2,List.take_take,Pn.cells_eq a,h0,gro_pos a1',groB_pos a1',a1,gro_pos a2',groB_pos a2',a2]
  ·intro i hi
   have h3:=List.getElem?_eq_getElem hi
   have hc':=copyExpr_eq _ (t2 _ (List.mem_of_getElem? h3))
   have r2:=Ex.cellsL_nth h3
   generalize p.exprs[i]=a at h3 hc' r2
   have w2:IntKind.i64.wrap ((i:Int)+1)=i+1:=wrap64 (by omega) (by omega)
   rw[Ex.cells_eq]at r2 hc'
   by_cases h0:i=0
   ·subst h0;simp[KX,hc,intsL,hi,r2,hc',wrap_1,take_snoc h3,Ex.cellsL,Ex.cells_eq a]
   ·simp[KX,hc,intsL,gro_pos h0,groB_pos h0,jk_pos h0,hi,r2,hc',w2,take_snoc h3,Ex.cellsL_snoc,show min i p.exprs.length=i by omega,show(i+1)*56≤140737488355328 by omega,List.take_take,Ex.cells_eq a,h0]
 simp[hc,show p.cols.length*8≤140737488355328 by omega]
 rw[loop_to (KX p) p.exprs.length (by simp[KX,hc])]
 ·rw[execA_loop]
  cases hn:p.exprs.length with
  | zero =>
   have he:p.exprs=[]:=List.length_eq_zero_iff.1 hn
   simp[KX,he,hc,Ex.cellsL]
   rw[loop_to (K2 p) p.kids.length (by simp[K2,he,hc,Ex.cellsL])]
   ·rw[execA_loop]
    cases hm:p.kids.length with
    | zero =>
     have hk:p.kids=[]:=List.length_eq_zero_iff.1 hm
     simp[K2,he,hc,hk,Ex.cellsL,Pn.cellsL,pcX,pcS]
    | succ m =>
     have hk:p.kids.take (m+1)=p.kids:=List.take_of_length_le (by omega)
     simp[K2,he,hc,hm,hk,Ex.cellsL,pcX,pcS]
   ·intro i hi
    have h3:=List.getElem?_eq_getElem hi
    have hc':=ih _ (List.mem_of_getElem? h3)
    have r2:=Pn.cellsL_nth h3
    generalize p.kids[i]=a at h3 hc' r2
    have w2:IntKind.i64.wrap ((i:Int)+1)=i+1:=wrap64 (by omega) (by omega)
    rw[Pn.cells_eq]at r2 hc'
    simp only[pcX,pcS]at hc'
    have hl1:(i+1)*88≤140737488355328:=by omega
    have hl2:min i p.kids.length=i:=by omega
    by_cases a1:a.exprs=[]
    ·by_cases a2:a.kids=[]
     ·simp[a1,a2,Ex.cellsL,Pn.cellsL]at hc' r2
      by_cases h0:i=0
      ·subst h0;simp[K2,he,hc,hi,r2,hc',wrap_1,take_snoc h3,Ex.cellsL,Pn.cellsL,Pn.cells_eq a,a1,a2]
      ·simp[K2,he,hc,gro_pos h0,groB_pos h0,jk_pos h0,hi,r2,hc',w2,take_snoc h3,Ex.cellsL,Pn.cellsL,Pn.cellsL_snoc,hl1,hl2,List.take_take,Pn.cells_eq a,h0,a1,a2]
     ·have a2':a.kids.length≠0:=fun h=>a2 (List.length_eq_zero_iff.1 h)
      simp[a1,gro_pos a2',groB_pos a2',a2,Ex.cellsL,Pn.cellsL]at hc' r2
      by_cases h0:i=0
      ·subst h0;simp[K2,he,hc,hi,r2,hc',wrap_1,take_snoc h3,Ex.cellsL,Pn.cellsL,Pn.cells_eq a,a1,gro_pos a2',groB_pos a2',a2]
      ·simp[K2,he,hc,gro_pos h0,groB_pos h0,jk_pos h0,hi,r2,hc',w2,take_snoc h3,Ex.cellsL,Pn.cellsL,Pn.cellsL_snoc,hl1,hl2,List.take_take,Pn.cells_eq a,h0,a1,gro_pos a2',groB_pos a2',a2]
    ·by_cases a2:a.kids=[]
     ·have a1':a.exprs.length≠0:=fun h=>a1 (List.length_eq_zero_iff.1 h)
      simp[gro_pos a1',groB_pos a1',a1,a2,Ex.cellsL,Pn.cellsL]at hc' r2
      by_cases h0:i=0
      ·subst h0;simp[K2,he,hc,hi,r2,hc',wrap_1,take_snoc h3,Ex.cellsL,Pn.cellsL,Pn.cells_eq a,gro_pos a1',groB_pos a1',a1,a2]
      ·simp[K2,he,hc,gro_pos h0,groB_pos h0,jk_pos h0,hi,r2,hc',w2,take_snoc h3,Ex.cellsL,Pn.cellsL,Pn.cellsL_snoc,hl1,hl2,List.take_take,Pn.cells_eq a,h0,gro_pos a1',groB_pos a1',a1,a2]
     ·have a1':a.exprs.length≠0:=fun h=>a1 (List.length_eq_zero_iff.1 h)
      have a2':a.kids.length≠0:=fun h=>a2 (List.length_eq_zero_iff.1 h)
      simp[gro_pos a1',groB_pos a1',a1,gro_pos a2',groB_pos a2',a2,Ex.cellsL,Pn.cellsL]at hc' r2
      by_cases h0:i=0
      ·subst h0;simp[K2,he,hc,hi,r2,hc',wrap_1,take_snoc h3,Ex.cellsL,Pn.cellsL,Pn.cells_eq a,gro_pos a1',groB_pos a1',a1,gro_pos a2',groB_pos a2',a2]
      ·simp[K2,he,hc,gro_pos h0,groB_pos h0,jk_pos h0,hi,r2,hc',w2,take_snoc h3,Ex.cellsL,Pn.cellsL,Pn.cellsL_snoc,hl1,hl2,List.take_take,Pn.cells_eq a,h0,gro_pos a1',groB_pos a1',a1,gro_pos a2',groB_pos a2',a2]
  | succ n =>
   have he:p.exprs.take (n+1)=p.exprs:=List.take_of_length_le (by omega)
   simp[KX,hn,he,hc]
   rw[loop_to (K2 p) p.kids.length (by simp[K2,hn,hc,Ex.cellsL])]
   ·rw[execA_loop]
    cases hm:p.kids.length with
    | zero =>
     have hk:p.kids=[]:=List.length_eq_zero_iff.1 hm
     simp[K2,hn,hc,hk,Ex.cellsL,Pn.cellsL,pcX,pcS]
    | succ m =>
     have hk:p.kids.take (m+1)=p.kids:=List.take_of_length_le (by omega)
     simp[K2,hn,hc,hm,hk,Ex.cellsL,pcX,pcS]
   ·intro i hi
    have h3:=List.getElem?_eq_getElem hi
    have hc':=ih _ (List.mem_of_getElem? h3)
    have r2:=Pn.cellsL_nth h3
    generalize p.kids[i]=a at h3 hc' r2
    have w2:IntKind.i64.wrap ((i:Int)+1)=i+1:=wrap64 (by omega) (by omega)
    rw[Pn.cells_eq]at r2 hc'
    simp only[pcX,pcS]at hc'
    have hl1:(i+1)*88≤140737488355328:=by omega
    have hl2:min i p.kids.length=i:=by omega
    by_cases a1:a.exprs=[]
    ·by_cases a2:a.kids=[]
     ·simp[a1,a2,Ex.cellsL,Pn.cellsL]at hc' r2
      by_cases h0:i=0
      ·subst h0;simp[K2,hn,hc,hi,r2,hc',wrap_1,take_snoc h3,Ex.cellsL,Pn.cellsL,Pn.cells_eq a,a1,a2]
      ·simp[K2,hn,hc,gro_pos h0,groB_pos h0,jk_pos h0,hi,r2,hc',w2,take_snoc h3,Ex.cellsL,Pn.cellsL,Pn.cellsL_snoc,hl1,hl2,List.take_take,Pn.cells_eq a,h0,a1,a2]
     ·have a2':a.kids.length≠0:=fun h=>a2 (List.length_eq_zero_iff.1 h)
      simp[a1,gro_pos a2',groB_pos a2',a2,Ex.cellsL,Pn.cellsL]at hc' r2
      by_cases h0:i=0
      ·subst h0;simp[K2,hn,hc,hi,r2,hc',wrap_1,take_snoc h3,Ex.cellsL,Pn.cellsL,Pn.cells_eq a,a1,gro_pos a2',groB_pos a2',a2]
      ·simp[K2,hn,hc,gro_pos h0,groB_pos h0,jk_pos h0,hi,r2,hc',w2,take_snoc h3,Ex.cellsL,Pn.cellsL,Pn.cellsL_snoc,hl1,hl2,List.take_take,Pn.cells_eq a,h0,a1,gro_pos a2',groB_pos a2',a2]
    ·by_cases a2:a.kids=[]
     ·have a1':a.exprs.length≠0:=fun h=>a1 (List.length_eq_zero_iff.1 h)
      simp[gro_pos a1',groB_pos a1',a1,a2,Ex.cellsL,Pn.cellsL]at hc' r2
      by_cases h0:i=0
      ·subst h0;simp[K2,hn,hc,hi,r2,hc',wrap_1,take_snoc h3,Ex.cellsL,Pn.cellsL,Pn.cells_eq a,gro_pos a1',groB_pos a1',a1,a2]
      ·simp[K2,hn,hc,gro_pos h0,groB_pos h0,jk_pos h0,hi,r2,hc',w2,take_snoc h3,Ex.cellsL,Pn.cellsL,Pn.cellsL_snoc,hl1,hl2,List.take_take,Pn.cells_eq a,h0,gro_pos a1',groB_pos a1',a1,a2]
     ·have a1':a.exprs.length≠0:=fun h=>a1 (List.length_eq_zero_iff.1 h)
      have a2':a.kids.length≠0:=fun h=>a2 (List.length_eq_zero_iff.1 h)
      simp[gro_pos a1',groB_pos a1',a1,gro_pos a2',groB_pos a2',a2,Ex.cellsL,Pn.cellsL]at hc' r2
      by_cases h0:i=0
      ·subst h0;simp[K2,hn,hc,hi,r2,hc',wrap_1,take_snoc h3,Ex.cellsL,Pn.cellsL,Pn.cells_eq a,gro_pos a1',groB_pos a1',a1,gro_pos a2',groB_pos a2',a2]
      ·simp[K2,hn,hc,gro_pos h0,groB_pos h0,jk_pos h0,hi,r2,hc',w2,take_snoc h3,Ex.cellsL,Pn.cellsL,Pn.cellsL_snoc,hl1,hl2,List.take_take,Pn.cells_eq a,h0,gro_pos a1',groB_pos a1',a1,gro_pos a2',groB_pos a2',a2]
 ·intro i hi
  have h3:=List.getElem?_eq_getElem hi
  have hc':=copyExpr_eq _ (t2 _ (List.mem_of_getElem? h3))
  have r2:=Ex.cellsL_nth h3
  generalize p.exprs[i]=a at h3 hc' r2
  have w2:IntKind.i64.wrap ((i:Int)+1)=i+1:=wrap64 (by omega) (by omega)
  rw[Ex.cells_eq]at r2 hc'
  by_cases h0:i=0
  ·subst h0;simp[KX,hc,hi,r2,hc',wrap_1,take_snoc h3,Ex.cellsL,Ex.cells_eq a]
  ·simp[KX,hc,gro_pos h0,groB_pos h0,jk_pos h0,hi,r2,hc',w2,take_snoc h3,Ex.cellsL_snoc,show min i p.exprs.length=i by omega,show(i+1)*56≤140737488355328 by omega,List.take_take,Ex.cells_eq a,h0]
theorem copyPlan_eq:∀ (p:Pn),p.thin→callA C0 123 [.i (.agg p.cells)] []=some (pcX p,pcS p):=by
 intro p
 induction p using Pn.ind with
 | h k t es cs ks ih =>
  intro ht
  exact copyPlan_step ht fun a ha=>ih a ha (((Pn.thin_iff _).1 ht).2.2.2.2 a ha)
def vB (x:Bool) (v:Pn):Option Blk:=if x=true then some (.fbox v.cells)else some (.box (impI v.cells))
set_option maxHeartbeats 4000000
end Go.Proofs.YtiailccmofdhfaaGreat.P
namespace Go.Proofs.YtiailccmofdhfaaGreat
open Go Go.Av
set_option maxRecDepth 4000
noncomputable def primP:FuncId→Option (List AV→StL→Option (AV×StL))
 | 1000000007=>none
 | 71=>none
 | 119=>none
 | 120=>none
 | 54=>none
 | 53=>none
 | 102=>some (lookC (callA C0) 102)
 | 90=>some (frz1 (callA C0) 90)
 | 126=>some (frz1 (callA C0) 126)
 | 123=>some (frzO (callA C0) 123)
 | g=>some (callA C0 g)
def ownP:FuncId→Bool
 | 102=>true
 | g=>ownA g
@[simp] theorem ownP_eq (g:FuncId):ownP g=if g=102 then true else ownA g:=by
  unfold ownP;split
  ·rfl
  ·rename_i h;rw[if_neg h]
noncomputable def CP:Ctx:={ P:=Tryz.prog,G:=GS,ownArgs:=ownP,keepRes:=keepR,eqT:=eqTy,prim:=primP }
@[simp] theorem CP_P:CP.P=Tryz.prog:=(rfl)
@[simp] theorem CP_G (f):CP.G f=GS f:=(rfl)
@[simp] theorem CP_o (f):CP.ownArgs f=ownP f:=(rfl)
@[simp] theorem CP_k (f):CP.keepRes f=keepR f:=(rfl)
@[simp] theorem CP_e (f):CP.eqT f=eqTy f:=(rfl)
@[simp] theorem CP_t:CP.tree=false:=(rfl)
theorem primP0:PrimOk CP:=by
 have h0:=callA_sound sound0
 have key:∀ g q,CP.prim g=some q→g≠yldF∧(q=callA C0 g∨q=lookC (callA C0) g∨q=frz1 (callA C0) g∨q=frzO (callA C0) g):=by
  intro g q h
  have h:primP g=some q:=h
  unfold primP at h
  split at h
  all_goals first
   | (cases h;done)
   | (injection h with h;subst h;exact⟨by decide, .inr (.inl rfl)⟩)
   | (injection h with h;subst h;exact⟨by decide, .inr (.inr (.inl rfl))⟩)
   | (injection h with h;subst h;exact⟨by decide, .inr (.inr (.inr rfl))⟩)
   | (injection h with h;subst h;exact⟨by assumption, .inl rfl⟩)
 constructor
 ·intro g args st p h
  unfold primCall at h
  cases hq:CP.prim g with
  | none=>rw[hq]at h;cases h
  | some q =>
   rw[hq]at h
   obtain⟨hy,hor⟩:=key g q hq
   rcases hor with rfl|rfl|rfl|rfl
   ·exact h0.name _ _ _ _ hy h
   ·exact(look_sound h0 (r:=p.1) (stl':=p.2) h hy).1
   ·exact(frz1_sound h0 (r:=p.1) (stl':=p.2) h hy).1
   ·exact(frzO_sound h0 (r:=p.1) (stl':=p.2) h hy).1
 ·intro g args st r st' h w m φ vs hi hr hb
  unfold primCall at h
  cases hq:CP.prim g with
  | none=>rw[hq]at h;cases h
  | some q =>
   rw[hq]at h
   obtain⟨hy,hor⟩:=key g q hq
   rcases hor with rfl|rfl|rfl|rfl
   ·exact h0.calls _ _ _ _ _ hy h w m φ vs hi hr hb
   ·exact(look_sound h0 h hy).2 w m φ vs hi hr hb
   ·exact(frz1_sound h0 h hy).2 w m φ vs hi hr hb
   ·exact(frzO_sound h0 h hy).2 w m φ vs hi hr hb
theorem soundP:SoundOk CP:=sound_ok (C:=CP) ft nt eqS mo primP0
end Go.Proofs.YtiailccmofdhfaaGreat
namespace Go.Av
def canB (v:Pn) (ws:List Int) (t:Int):Bool:=decide (v.width ws≠0) && (decide (0≤t) && (decide (t<ws.length) && decide (ws[t.toNat]?=some (v.width ws))))
end Go.Av
namespace Go.Proofs.YtiailccmofdhfaaGreat.P
open Go Go.Av
set_option maxRecDepth 4000
set_option maxHeartbeats 4000000
@[simp] theorem cp_pick (a:List AV) (st:StL):callA CP 98 a st=callA C0 98 a st:=by rw[callA_prim (p:=callA C0 98) rfl]
@[simp] theorem cp_one (a:List AV) (st:StL):callA CP 124 a st=callA C0 124 a st:=by rw[callA_prim (p:=callA C0 124) rfl]
@[simp] theorem cp_cond (a:List AV) (st:StL):callA CP 122 a st=callA C0 122 a st:=by rw[callA_prim (p:=callA C0 122) rfl]
@[simp] theorem cp_expr (a:List AV) (st:StL):callA CP 167 a st=callA C0 167 a st:=by rw[callA_prim (p:=callA C0 167) rfl]
@[simp] theorem cp_filterOf (a:List AV) (st:StL):callA CP 121 a st=callA C0 121 a st:=by rw[callA_prim (p:=callA C0 121) rfl]
theorem cp_copyPlan (p:Pn) (hp:p.thin):callA CP 123 [.i (.agg p.cells)] []=some (.i (.agg p.cells),[]):=by
 have h:=copyPlan_eq p hp
 rw[callA_prim (p:=frzO (callA C0) 123) rfl]
 unfold frzO
 by_cases he:p.exprs=[]
 ·by_cases hk:p.kids=[]
  ·simp[pcX,pcS,hk,he,Pn.cellsL,Ex.cellsL]at h
   simp[h]
   rw[Pn.cells_eq];simp[hk,he,Pn.cellsL,Ex.cellsL]
  ·have hkl:p.kids.length≠0:=fun h=>hk (List.length_eq_zero_iff.1 h)
   simp[pcX,pcS,hk,he,gro_pos hkl,groB_pos hkl,Ex.cellsL]at h
   simp[h]
   rw[Pn.cells_eq];simp[hk,he,Ex.cellsL]
 ·have hel:p.exprs.length≠0:=fun h=>he (List.length_eq_zero_iff.1 h)
  by_cases hk:p.kids=[]
  ·simp[pcX,pcS,hk,he,gro_pos hel,groB_pos hel,Pn.cellsL]at h
   simp[h]
   rw[Pn.cells_eq];simp[hk,he,Pn.cellsL]
  ·have hkl:p.kids.length≠0:=fun h=>hk (List.length_eq_zero_iff.1 h)
   simp[pcX,pcS,hk,he,gro_pos hel,groB_pos hel,gro_pos hkl,groB_pos hkl]at h
   simp[h]
   rw[Pn.cells_eq]
theorem splanWidth_own {ws:List Int} (hw:∀ w∈ws,0≤w∧w≤6) (hwl:ws.length<1000000) {k:Nat} (hk0:0<k) (hk:k≤ws.length) (p:Pn) (hp:p.thin):callA CP 102 [.i (.agg p.cells), .osl 0 1 0 k, .int 8] [some (.arr 1 (intsL ws))]=some (.int (p.wd (ws.take k) 8),[some (.arr 1 (intsL ws))]):=by
 have h:=splanWidth_eq (ws:=ws.take k) (fun w hm=>hw w (List.mem_of_mem_take hm)) (by simp;omega) p (Pn.thin_lim p hp) 8 (by omega)
 rw[callA_prim (p:=lookC (callA C0) 102) rfl]
 unfold lookC
 simp at h
 simp[viewWs,viewW,h,hk,hk0,bareC]
def filtP (e:Ex) (p:Pn):Pn:=.mk 2 0 [e] [] [p]
theorem filtP_cells (e:Ex) (p:Pn):(filtP e p).cells=[.int 2, .int 0, .isl [e.cells], .isl [], .isl [p.cells]]:=by simp[filtP,Pn.cells,Ex.cellsL,intsL,Pn.cellsL]
theorem filterOf_eq (e:Ex) (p:Pn):callA C0 121 [.i (.agg e.cells), .i (.agg p.cells)] []=some (.i (.agg (filtP e p).cells),[]):=by
 rw[callA_eq rfl Tryz.func121 rfl rfl,filtP_cells,Ex.cells_eq,Pn.cells_eq]
 simp
theorem filtP_thin {e:Ex} {p:Pn} (he:e.size<1000000) (hp:p.thin):(filtP e p).thin:=by
 have:=Ex.thin_of_size e (by omega)
 simp[filtP,Pn.thin,Pn.thinL,this,hp]
noncomputable def primQ:FuncId→Option (List AV→StL→Option (AV×StL))
 | 119=>some (callA CP 119)
 | 121=>some (bodyA C0 true 121)
 | g=>primP g
noncomputable def CQ:Ctx:={ P:=Tryz.prog,G:=GS,ownArgs:=ownP,keepRes:=keepR,eqT:=eqTy,prim:=primQ }
@[simp] theorem CQ_P:CQ.P=Tryz.prog:=(rfl)
@[simp] theorem CQ_G (f):CQ.G f=GS f:=(rfl)
@[simp] theorem CQ_o (f):CQ.ownArgs f=ownP f:=(rfl)
@[simp] theorem CQ_k (f):CQ.keepRes f=keepR f:=(rfl)
@[simp] theorem CQ_e (f):CQ.eqT f=eqTy f:=(rfl)
@[simp] theorem CQ_t:CQ.tree=false:=(rfl)
theorem primQ0:PrimOk CQ:=by
 have hP:=callA_sound soundP
 constructor
 ·intro g args st p h
  unfold primCall at h
  cases hq:CQ.prim g with
  | none=>rw[hq]at h;cases h
  | some q =>
   rw[hq]at h
   have hq:primQ g=some q:=hq
   unfold primQ at hq
   split at hq
   ·injection hq with hq;subst hq;exact hP.name _ _ _ _ (by decide) h
   ·injection hq with hq;subst hq;exact(bodyA_sound sound0 (r:=p.1) (stl':=p.2) h).1
   ·exact primP0.name g args st p (by unfold primCall;rw[show CP.prim g=some q from hq];exact h)
 ·intro g args st r st' h w m φ vs hi hr hb
  unfold primCall at h
  cases hq:CQ.prim g with
  | none=>rw[hq]at h;cases h
  | some q =>
   rw[hq]at h
   have hq:primQ g=some q:=hq
   unfold primQ at hq
   split at hq
   ·injection hq with hq;subst hq;exact hP.calls _ _ _ _ _ (by decide) h w m φ vs hi hr hb
   ·injection hq with hq;subst hq;exact(bodyA_sound sound0 h).2 w m φ vs hi hr hb
   ·exact primP0.calls g args st r st' (by unfold primCall;rw[show CP.prim g=some q from hq];exact h) w m φ vs hi hr hb
theorem soundQ:SoundOk CQ:=sound_ok (C:=CQ) ft nt eqS mo primQ0
noncomputable def primR:FuncId→Option (List AV→StL→Option (AV×StL))
 | 1000000007=>none
 | 97=>none
 | 120=>none
 | 119=>some (bodyA CQ true 119)
 | 121=>some (bodyA C0 true 121)
 | 102=>some (lookX (callA C0) 102)
 | g=>primP g
def keepQ (g:FuncId):Bool:=keepR g || decide (g=120)
noncomputable def CR:Ctx:={ P:=Tryz.prog,G:=GS,ownArgs:=ownP,keepRes:=keepQ,eqT:=eqTy,prim:=primR }
@[simp] theorem CR_P:CR.P=Tryz.prog:=(rfl)
@[simp] theorem CR_G (f):CR.G f=GS f:=(rfl)
@[simp] theorem CR_o (f):CR.ownArgs f=ownP f:=(rfl)
@[simp] theorem CR_k (f):CR.keepRes f=(keepR f || decide (f=120)):=(rfl)
@[simp] theorem CR_e (f):CR.eqT f=eqTy f:=(rfl)
@[simp] theorem CR_t:CR.tree=false:=(rfl)
theorem primR0:PrimOk CR:=by
 constructor
 ·intro g args st p h
  unfold primCall at h
  cases hq:CR.prim g with
  | none=>rw[hq]at h;cases h
  | some q =>
   rw[hq]at h
   have hq:primR g=some q:=hq
   unfold primR at hq
   split at hq
   all_goals first
    | (cases hq;done)
    | (injection hq with hq;subst hq;exact(bodyA_sound soundQ (r:=p.1) (stl':=p.2) h).1)
    | (injection hq with hq;subst hq;exact(bodyA_sound sound0 (r:=p.1) (stl':=p.2) h).1)
    | (injection hq with hq;subst hq;exact(lookX_sound (callA_sound sound0) (r:=p.1) (stl':=p.2) h (by decide)).1)
    | exact primP0.name g args st p (by unfold primCall;rw[show CP.prim g=some q from hq];exact h)
 ·intro g args st r st' h w m φ vs hi hr hb
  unfold primCall at h
  cases hq:CR.prim g with
  | none=>rw[hq]at h;cases h
  | some q =>
   rw[hq]at h
   have hq:primR g=some q:=hq
   unfold primR at hq
   split at hq
   all_goals first
    | (cases hq;done)
    | (injection hq with hq;subst hq;exact(bodyA_sound soundQ h).2 w m φ vs hi hr hb)
    | (injection hq with hq;subst hq;exact(bodyA_sound sound0 h).2 w m φ vs hi hr hb)
    | (injection hq with hq;subst hq;exact(lookX_sound (callA_sound sound0) h (by decide)).2 w m φ vs hi hr hb)
    | exact primP0.calls g args st r st' (by unfold primCall;rw[show CP.prim g=some q from hq];exact h) w m φ vs hi hr hb
theorem soundR:SoundOk CR:=sound_ok (C:=CR) ft nt eqS mo primR0
end Go.Proofs.YtiailccmofdhfaaGreat.P
namespace Go.Proofs.YtiailccmofdhfaaGreat
open Go Go.Av
set_option maxRecDepth 4000
set_option maxHeartbeats 8000000
theorem tabs_ok (l:List UInt8) (hl:l.length≤2000):∀ (ws:List Int) (p:Int),(∀ w∈ws,1≤w∧w≤6)→0≤p→p+500*ws.length<400000000→∃ (ts:List Tbl) (ps:Nat→Int),ts.map Tbl.w=ws∧(∀ t∈ts,t.ok=true∧t.rows.length≤4)∧ps 0=p∧(∀ i,i≤ws.length→p≤ps i∧ps i≤p+500*i)∧∀ i t,ts[i]?=some t→callA C0 125 [.own 0 0, .int t.w, .int 4] [Rd l (ps i)]=some (.i (.agg [.int t.w, .isl (rowsL t.rows)]),[Rd l (ps (i+1))])
 | [],p,_,h0,h1=>⟨[],fun _=>p,rfl,by simp,rfl,fun i hi=>by show p≤p∧p≤p+500*(i:Int);omega,fun i v h=>by simp at h⟩
 | w::ws,p,hw,h0,h1=>by
  obtain⟨w1,w2⟩:=hw w (by simp)
  simp only[List.length_cons]at h1
  obtain⟨rs,p1,hv,q1,q2,q3,q4⟩:=randomTable_eq l hl w.toNat (by omega) (by omega) 4 (by omega) p h0 (by omega)
  obtain⟨ts,ps,a1,a5,a2,a3,a4⟩:=tabs_ok l hl ws p1 (fun x hx=>hw x (by simp[hx])) (by omega) (by omega)
  have hwn:((w.toNat:Nat):Int)=w:=by omega
  have hok:(⟨w,sortR rs⟩:Tbl).ok=true:=by
   rw[Tbl.ok_iff]
   refine⟨(okWidth_iff _).2 ⟨w1,w2⟩,by simp only[sortR_length];omega,fun r hr=>?_,sortR_srt rs⟩
   have:=q2 r (sortR_mem.1 hr)
   unfold rowOk
   simp only[Bool.and_eq_true,decide_eq_true_eq]
   exact⟨by omega,this.1⟩
  refine⟨⟨w,sortR rs⟩::ts,fun i=>match i with|0=>p|i+1=>ps i,by simp[a1],?_,rfl,?_,?_⟩
  ·intro t ht
   rcases List.mem_cons.1 ht with rfl|ht
   ·exact⟨hok,by simp only[sortR_length];omega⟩
   ·exact a5 t ht
  ·intro i hi
   cases i with
   | zero=>simp
   | succ i=>have:=a3 i (by simpa using hi);simp;omega
  ·intro i u hu
   cases i with
   | zero =>
    simp at hu;subst hu
    simp only
    rw[a2]
    rw[hwn]at hv
    simpa using hv
   | succ i=>exact a4 i u (by simpa using hu)
def RDX (l:List UInt8) (ws:List Int) (ts:List Tbl) (ps:Nat→Int) (i:Nat):AS :=
 { env:=[(0, .own 0 0),(1, .osl 1 1 0 ws.length),(4, .nils),(5, .osl 2 2 0 i),(6, .int i),(11,jk i (.bool true))],st:=[Rd l (ps i),some (.arr 1 (intsL ws)),some (.arr 2 (tblsL (ts.take i)))] }
theorem randomDatabase_eq (l:List UInt8) (hl:l.length≤2000) (ws:List Int) (hw:∀ w∈ws,1≤w∧w≤6) (hn:ws.length≤10) (p:Int) (h0:0≤p) (h1:p<300000000):∃ (ts:List Tbl) (p':Int),callA C0 72 [.own 0 0, .osl 1 1 0 ws.length] [Rd l p,some (.arr 1 (intsL ws))]=some (.osl 2 2 0 ws.length,[Rd l p',some (.arr 1 (intsL ws)),some (.arr 2 (tblsL ts))])∧ts.map Tbl.w=ws∧(∀ t∈ts,t.ok=true∧t.rows.length≤4)∧p≤p'∧p'≤p+5000:=by
 obtain⟨ts,ps,a1,a5,a2,a3,a4⟩:=tabs_ok l hl ws p hw h0 (by omega)
 have b1:=a3 ws.length (by omega)
 have htl:ts.length=ws.length:=by rw[← a1];simp
 refine⟨ts,ps ws.length,?_,a1,a5,by omega,by omega⟩
 rw[callA_eq rfl Tryz.func72 rfl rfl]
 simp
 rw[loop_to (RDX l ws ts ps) ws.length (by simp[RDX,a2,tblsL])]
 ·rw[execA_loop]
  have e1:ts.take ws.length=ts:=List.take_of_length_le (by omega)
  simp[RDX,e1]
 ·intro i hi
  obtain⟨t,ht⟩:∃ t,ts[i]?=some t:=⟨_,List.getElem?_eq_getElem (by omega)⟩
  have hd:=a4 i t ht
  have hwi:ws[i]?=some t.w:=by rw[← a1,List.getElem?_map,ht];rfl
  have k1:=intsL_nth hwi
  obtain⟨w1,w2⟩:=hw t.w (List.mem_of_getElem? hwi)
  have hT:=take_snoc ht
  have m1:¬ 1 > t.w:=by omega
  have m2:¬ t.w<1:=by omega
  have m3:¬ 6<t.w:=by omega
  have w3:IntKind.i64.wrap ((i:Int)+1)=i+1:=wrap64 (by omega) (by omega)
  have hb:(i+1)*32≤140737488355328:=by omega
  have e1:List.take i (List.take i ts)=List.take i ts:=by rw[List.take_take,Nat.min_self]
  have e1':List.take i (List.take i (ts.map Tbl.cells))=List.take i (ts.map Tbl.cells):=by rw[List.take_take,Nat.min_self]
  have hmin:min i ts.length=i:=by omega
  simp[RDX,hi,k1,m1,m2,m3,hd,hT,w3,hb,e1,e1',hmin,tblsL_append,tblsL,Tbl.cells]
end Go.Proofs.YtiailccmofdhfaaGreat
namespace Go.Proofs.YtiailccmofdhfaaGreat.P
open Go Go.Av G
theorem valsL_set (l:List Val) (i:Nat) (v:Val):(valsL l).set i [.bool v.null, .int v.n]=valsL (l.set i v):=by
 induction l generalizing i with
 | nil=>rfl
 | cons a l ih=>cases i with
  | zero=>rfl
  | succ i=>simp[valsL,ih]
set_option maxRecDepth 4000
set_option maxHeartbeats 8000000
noncomputable def primT:FuncId→Option (List AV→StL→Option (AV×StL))
 | 1000000007=>none
 | 99=>none
 | 125=>none
 | 78=>some (bodyA C0 true 78)
 | g=>some (callA C0 g)
noncomputable def CT:Ctx:={ P:=Tryz.prog,G:=GS,ownArgs:=ownA,keepRes:=keepR,eqT:=eqTy,prim:=primT }
@[simp] theorem CT_P:CT.P=Tryz.prog:=(rfl)
@[simp] theorem CT_G (f):CT.G f=GS f:=(rfl)
@[simp] theorem CT_o (f):CT.ownArgs f=ownA f:=(rfl)
@[simp] theorem CT_k (f):CT.keepRes f=keepR f:=(rfl)
@[simp] theorem CT_e (f):CT.eqT f=eqTy f:=(rfl)
@[simp] theorem CT_t:CT.tree=false:=(rfl)
theorem primT0:PrimOk CT:=by
 have hP:=callA_sound sound0
 constructor
 ·intro g args st p h
  unfold primCall at h
  cases hq:CT.prim g with
  | none=>rw[hq]at h;cases h
  | some q =>
   rw[hq]at h
   have hq:primT g=some q:=hq
   unfold primT at hq
   split at hq
   all_goals first
    | (cases hq;done)
    | (injection hq with hq;subst hq;exact(bodyA_sound sound0 (r:=p.1) (stl':=p.2) h).1)
    | (injection hq with hq;subst hq;exact hP.name _ _ _ _ (by assumption) h)
 ·intro g args st r st' h w m φ vs hi hr hb
  unfold primCall at h
  cases hq:CT.prim g with
  | none=>rw[hq]at h;cases h
  | some q =>
   rw[hq]at h
   have hq:primT g=some q:=hq
   unfold primT at hq
   split at hq
   all_goals first
    | (cases hq;done)
    | (injection hq with hq;subst hq;exact(bodyA_sound sound0 h).2 w m φ vs hi hr hb)
    | (injection hq with hq;subst hq;exact hP.calls _ _ _ _ _ (by assumption) h w m φ vs hi hr hb)
theorem soundT:SoundOk CT:=sound_ok (C:=CT) ft nt eqS mo primT0
@[simp] theorem ct_tableOf (a:List AV) (st:StL):callA CT 78 a st=bodyA C0 true 78 a st:=by rw[callA_prim (p:=bodyA C0 true 78) rfl]
@[simp] theorem ct_randomRow (a:List AV) (st:StL):callA CT 170 a st=callA C0 170 a st:=by rw[callA_prim (p:=callA C0 170) rfl]
@[simp] theorem ct_anyRow (a:List AV) (st:StL):callA CT 146 a st=callA C0 146 a st:=by rw[callA_prim (p:=callA C0 146) rfl]
@[simp] theorem ct_copyRow (a:List AV) (st:StL):callA CT 145 a st=callA C0 145 a st:=by rw[callA_prim (p:=callA C0 145) rfl]
@[simp] theorem ct_pick (a:List AV) (st:StL):callA CT 98 a st=callA C0 98 a st:=by rw[callA_prim (p:=callA C0 98) rfl]
@[simp] theorem ct_one (a:List AV) (st:StL):callA CT 124 a st=callA C0 124 a st:=by rw[callA_prim (p:=callA C0 124) rfl]
theorem tableOfK (w:Int) (l:List (List Val)) (n:Nat) (hn:n<1000000) (hn0:n≠0) (hl0:l.length≤400) (hl:∀ x∈l,x.all Val.ok=true∧x.length=n):bodyA C0 true 78 [.int w, .i (.isl (rowsL l))] []=some (.agg [.int w,gro 0 1 l.length],groB 1 (rowsL (sortR l)) l.length):=by
 rw[bodyA_eq Tryz.func78 rfl rfl]
 have h:¬ (400:Int)<l.length:=by omega
 have h':¬ 400<l.length:=by omega
 simp[h,h']
 rw[loop_to (TOX w l) l.length (by simp[TOX])]
 ·rw[execA_loop]
  by_cases h0:l.length=0
  ·have:l=[]:=List.length_eq_zero_iff.1 h0
   subst this
   simp[TOX,sortR,rowsL]
  ·have hT:(sortR l).length=l.length:=sortR_length l
   have e1:List.take l.length (sortR l)=sortR l:=List.take_of_length_le (by omega)
   simp[TOX,gro_pos h0,groB_pos h0,hT,e1]
 ·intro i hi
  have h3:=List.getElem?_eq_getElem hi
  have hm:=List.mem_of_getElem? h3
  have hsn:=foldl_insR_snoc h3
  generalize l[i]=x at h3 hm hsn
  have r1:=rowsL_nth h3
  have w2:IntKind.i64.wrap ((i:Int)+1)=i+1:=wrap64 (by omega) (by omega)
  have hlen:(sortR (l.take i)).length=i:=by rw[sortR_length];simp;omega
  have e1:List.take i (sortR (l.take i))=sortR (l.take i):=List.take_of_length_le (by omega)
  have hx0:x≠[]:=fun e=>by have:=(hl x hm).2;subst e;simp at this;omega
  have hc:=insertRow_eq (sortR (l.take i)) x (by omega) (hl x hm).1 (by rw[(hl x hm).2];exact hn) hx0 (fun y hy=>by
   have:=hl y (List.mem_of_mem_take (sortR_mem.1 hy));exact⟨this.1,by rw[this.2,(hl x hm).2]⟩) (sortR_srt _)
  rw[hlen]at hc
  by_cases h0:i=0
  ·subst h0
   have hs0:sortR ([]:List (List Val))=[]:=rfl
   simp[hs0,rowsL_nil]at hc hsn
   simp[TOX,hi,r1,hc,hsn,wrap_1]
  ·simp[TOX,gro_pos h0,groB_pos h0,hi,r1,hc,hsn,w2,hlen,e1]
theorem randomTableK (l:List UInt8) (hl:l.length≤2000) (w:Nat) (hw0:w≠0) (hw:w≤10) (m:Nat) (hm:m≤20) (p:Int) (h0:0≤p) (h1:p<500000000):∃ (rs:List (List Val)) (p':Int),callA CT 125 [.own 0 0, .int w, .int m] [Rd l p]=some (.agg [.int w,gro 1 1 rs.length],Rd l p'::groB 1 (rowsL (sortR rs)) rs.length)∧rs.length≤m∧(∀ r∈rs,r.all Val.ok=true∧r.length=w)∧p≤p'∧p'≤p+500:=by
 have wm:IntKind.i64.wrap ((m:Int)+1)=((m+1:Nat):Int):=by rw[wrap64 (by omega) (by omega)];omega
 obtain⟨k,hk,hk1,-⟩:=pick_eq l p ((m+1:Nat):Int) h0 (by omega) hl
 obtain⟨k0,k1⟩:=hk1 (by omega)
 obtain⟨n,rfl⟩:∃ n:Nat,k=n:=⟨k.toNat,by omega⟩
 obtain⟨rs,ps,a1,a5,a2,a3,a4⟩:=rows_ok l hl w hw n (p+1) (by omega) (by omega)
 have b1:=a3 n (by omega)
 have hc:=tableOfK w rs w (by omega) hw0 (by omega) a5
 refine⟨rs,ps n,?_,by omega,a5,by omega,by omega⟩
 rw[callA_eq rfl Tryz.func125 rfl rfl]
 simp[wm]
 simp at hk
 simp[hk]
 rw[loop_to (RTBX l w m rs ps n) n (by simp[RTBX,a2,rowsL_nil])]
 ·rw[execA_loop]
  have e1:rs.take n=rs:=List.take_of_length_le (by omega)
  subst a1
  by_cases hz:rs.length=0
  ·have:rs=[]:=List.length_eq_zero_iff.1 hz
   subst this
   simp[rowsL_nil]at hc
   simp[RTBX,e1,hc,rowsL_nil]
  ·have e2:(rowsL (sortR rs)).take rs.length=rowsL (sortR rs):=List.take_of_length_le (by simp[sortR_length])
   rw[gro_pos hz,groB_pos hz]at hc
   simp[RTBX,e1,hc,hz,e2,gro_pos hz,groB_pos hz]
 ·intro i hi
  obtain⟨x,hx⟩:∃ x,rs[i]?=some x:=⟨_,List.getElem?_eq_getElem (by omega)⟩
  have hd:=a4 i x hx
  have hT:=take_snoc hx
  have hpos:(0:Int)<(n:Int)-i:=by omega
  have w3:IntKind.i64.wrap ((n:Int)-i-1)=(n:Int)-(i+1):=by rw[wrap64 (by omega) (by omega)];omega
  have hb:(i+1)*24≤140737488355328:=by omega
  have e1:List.take i (List.take i rs)=List.take i rs:=by rw[List.take_take,Nat.min_self]
  have e2:x.take x.length=x:=List.take_of_length_le (by simp)
  have hmin:min i rs.length=i:=by omega
  have hlt:(i:Int)<n:=by omega
  simp[RTBX,hpos,hlt,hi,hd,hT,w3,hb,e1,e2,hmin,rowsL_append,rowsL_cons,rowsL_nil]
theorem anyRow_ok (l:List UInt8) (hl:l.length≤2000) (n:Nat) (hn0:n≠0) (hn:n≤10) (p:Int) (h0:0≤p) (h1:p<600000000):∃ (x:List Val) (p':Int),callA C0 146 [.own 0 0, .int n] [Rd l p]=some (.osl 1 2 0 x.length,[Rd l p',some (.arr 2 (valsL x))])∧x.length≤10∧p≤p'∧p'≤p+100:=by
 obtain⟨x,p1,hx,hxl,hxo,q1,q2⟩:=randomRow_eq l hl n hn p h0 (by omega)
 obtain⟨k,hk,-,-⟩:=pick_eq l p1 18 (by omega) (by omega) hl
 have e1:(valsL x).take n=valsL x:=List.take_of_length_le (by simp;omega)
 have e2:x.take n=x:=List.take_of_length_le (by omega)
 rw[hxl]at hx
 by_cases g0:k=0
 ·refine⟨[],p1+1,?_,by simp,by omega,by omega⟩
  rw[callA_eq rfl Tryz.func146 rfl rfl]
  simp[hx,hk,g0,valsL]
 by_cases g1:k=1
 ·obtain⟨y,p2,hy,hyl,hyo,q3,q4⟩:=randomRow_eq l hl 7 (by omega) (p1+1) (by omega) (by omega)
  refine⟨y,p2,?_,by omega,by omega,by omega⟩
  rw[callA_eq rfl Tryz.func146 rfl rfl]
  simp[hyl]at hy
  simp[hx,hk,g1,hy,hyl]
 by_cases g2:k=2
 ·obtain⟨j,hj,hj1,-⟩:=pick_eq l (p1+1) n (by omega) (by omega) hl
  obtain⟨j0,j1⟩:=hj1 (by omega)
  obtain⟨v,p3,hv,q5,q6⟩:=anyValue_eq l (p1+1+1) (by omega) (by omega) hl
  have hjn:j.toNat<x.length:=by omega
  have hjn':j<n:=by omega
  have hxj:=valsL_nth (List.getElem?_eq_getElem hjn)
  have hset:=valsL_set x j.toNat v
  refine⟨x.set j.toNat v,p3,?_,by simp;omega,by omega,by omega⟩
  rw[callA_eq rfl Tryz.func146 rfl rfl]
  simp[hx,hk,g2,hj,hv,j0,hjn',hxj,hset,hxl]
 ·refine⟨x,p1+1,?_,by omega,by omega,by omega⟩
  rw[callA_eq rfl Tryz.func146 rfl rfl]
  simp[hx,hk,g0,g1,g2,hxl]
theorem anyTable_ok (l:List UInt8) (hl:l.length≤2000) (w:Nat) (hw0:w≠0) (hw:w≤6) (p:Int) (h0:0≤p) (h1:p<400000000):∃ (t:Tbl) (p':Int),callA CT 99 [.own 0 0, .int w, .int 4] [Rd l p]=some (.agg [.int t.w,gro 1 1 t.rows.length],Rd l p'::groB 1 (rowsL t.rows) t.rows.length)∧t.small∧t.rows.length≤5∧p≤p'∧p'≤p+1000:=by
 obtain⟨rs,p1,hx,hrl,hro,q1,q2⟩:=randomTableK l hl w hw0 (by omega) 4 (by omega) p h0 (by omega)
 obtain⟨k,hk,-,-⟩:=pick_eq l p1 20 (by omega) (by omega) hl
 have hsl:(sortR rs).length=rs.length:=sortR_length rs
 have hsm:∀ r∈sortR rs,r.length<1000000:=fun r hr=>by have:=(hro r (sortR_mem.1 hr)).2;omega
 have te:(rowsL (sortR rs)).take rs.length=rowsL (sortR rs):=List.take_of_length_le (by simp[hsl])
 have te2:(sortR rs).take rs.length=sortR rs:=List.take_of_length_le (by omega)
 simp at hx
 by_cases g0:k=0
 ·obtain⟨x,hxx,-⟩:=one_eq l (p1+1) (by omega) (by omega) hl [[.int 0],[.int 7],[.int 2]] (by simp) (by simp) (by simp)
  simp only[List.length_cons,List.length_nil,Nat.zero_add,Nat.reduceAdd]at hxx
  refine⟨⟨x,sortR rs⟩,p1+1+1,?_,⟨by simp only[hsl];omega,hsm⟩,by simp only[hsl];omega,by omega,by omega⟩
  rw[callA_eq rfl Tryz.func99 rfl rfl]
  by_cases hz:rs.length=0
  ·rw[hz]at hx
   simp at hx
   simp[hx,hk,g0,hxx,hsl,hz]
  ·rw[gro_pos hz,groB_pos hz]at hx
   simp[hx,hk,g0,hxx,hsl,hz,te,gro_pos hz,groB_pos hz]
 by_cases g1:k=1
 ·by_cases hz:rs.length=0
  ·refine⟨⟨w,sortR rs⟩,p1+1,?_,⟨by simp only[hsl];omega,hsm⟩,by simp only[hsl];omega,by omega,by omega⟩
   rw[callA_eq rfl Tryz.func99 rfl rfl]
   rw[hz]at hx
   simp at hx
   simp[hx,hk,g1,hsl,hz]
  ·obtain⟨r,hr⟩:∃ r,(sortR rs)[0]?=some r:=⟨_,List.getElem?_eq_getElem (by omega)⟩
   have hro':=hro r (sortR_mem.1 (List.mem_of_getElem? hr))
   have hrn:=rowsL_nth hr
   have hcp:=copyRow_eq r (by omega) (fun e=>by rw[e]at hro';simp at hro';omega)
   have e2:r.take r.length=r:=List.take_of_length_le (by simp)
   have hb:(rs.length+1)*24≤140737488355328:=by omega
   have hp:(0:Int)<rs.length:=by omega
   have hp':0<rs.length:=by omega
   refine⟨⟨w,sortR rs++[r]⟩,p1+1,?_,⟨by simp only[List.length_append,hsl,List.length_singleton];omega,fun x hx=>?_⟩,by simp only[List.length_append,hsl,List.length_singleton];omega,by omega,by omega⟩
   ·rw[callA_eq rfl Tryz.func99 rfl rfl]
    rw[gro_pos hz,groB_pos hz]at hx
    simp[hx,hk,g1,hsl,hz,te,te2,hrn,hcp,e2,hb,hp,hp',rowsL_append,rowsL_cons,rowsL_nil]
   ·rcases List.mem_append.1 hx with hx|hx
    ·exact hsm x hx
    ·simp at hx;subst hx;omega
 by_cases g2:k=2
 ·by_cases hz:rs.length=0
  ·refine⟨⟨w,sortR rs⟩,p1+1,?_,⟨by simp only[hsl];omega,hsm⟩,by simp only[hsl];omega,by omega,by omega⟩
   rw[callA_eq rfl Tryz.func99 rfl rfl]
   rw[hz]at hx
   simp at hx
   simp[hx,hk,g2,hsl,hz]
  ·obtain⟨r,hr⟩:∃ r,(sortR rs)[0]?=some r:=⟨_,List.getElem?_eq_getElem (by omega)⟩
   have hrn:=rowsL_nth hr
   obtain⟨y,p2,hy,hyl,q3,q4⟩:=anyRow_ok l hl w hw0 (by omega) (p1+1) (by omega) (by omega)
   have e2:y.take y.length=y:=List.take_of_length_le (by simp)
   have hp:(0:Int)<rs.length:=by omega
   have hp':0<rs.length:=by omega
   have hst:=rowsL_set (sortR rs) 0 y
   refine⟨⟨w,(sortR rs).set 0 y⟩,p2,?_,⟨by simp only[List.length_set,hsl];omega,fun x hx=>?_⟩,by simp only[List.length_set,hsl];omega,by omega,by omega⟩
   ·rw[callA_eq rfl Tryz.func99 rfl rfl]
    rw[gro_pos hz,groB_pos hz]at hx
    have te3:(rowsL ((sortR rs).set 0 y)).take rs.length=rowsL ((sortR rs).set 0 y):=List.take_of_length_le (by simp[hsl])
    simp[hx,hk,g2,hsl,hz,te,te2,te3,hrn,hy,e2,hp,hp',hst,gro_pos hz,groB_pos hz]
   ·rcases List.mem_or_eq_of_mem_set hx with hx|rfl
    ·exact hsm x hx
    ·omega
 ·refine⟨⟨w,sortR rs⟩,p1+1,?_,⟨by simp only[hsl];omega,hsm⟩,by simp only[hsl];omega,by omega,by omega⟩
  rw[callA_eq rfl Tryz.func99 rfl rfl]
  by_cases hz:rs.length=0
  ·rw[hz]at hx
   simp at hx
   simp[hx,hk,g0,g1,g2,hsl,hz]
  ·rw[gro_pos hz,groB_pos hz]at hx
   simp[hx,hk,g0,g1,g2,hsl,hz,te,gro_pos hz,groB_pos hz]
def GOk (cs:List Int) (rows:List (List Val)):Prop:=rows.length<1000000∧cs.length<1000000∧∀ r∈rows,∀ c∈cs,0≤c∧c<r.length
theorem stS_ex {cs:List Int} {rows:List (List Val)} (h:GOk cs rows):∃ M,callA C0 213 [.osl 0 1 0 rows.length, .fn (.func 212) [.own 1 0]] [some (.arr 1 (rowsL rows)),some (.box [.i (.isl (intsL cs))])]=some (.tup [],[some (.arr 1 (rowsL M)),some (.box [.i (.isl (intsL cs))])])∧M.Perm rows∧SrtK cs M :=
 sortStable_eq rows cs rows.length rfl h.1 h.2.1 h.2.2
noncomputable def stS (cs:List Int) (rows:List (List Val)):List (List Val):=open Classical in if h:GOk cs rows then(stS_ex h).choose else rows
theorem stS_spec {cs:List Int} {rows:List (List Val)} (h:GOk cs rows):callA C0 213 [.osl 0 1 0 rows.length, .fn (.func 212) [.own 1 0]] [some (.arr 1 (rowsL rows)),some (.box [.i (.isl (intsL cs))])]=some (.tup [],[some (.arr 1 (rowsL (stS cs rows))),some (.box [.i (.isl (intsL cs))])])∧(stS cs rows).Perm rows∧SrtK cs (stS cs rows):=by
 unfold stS
 rw[dif_pos h]
 exact(stS_ex h).choose_spec
noncomputable def groupsB (es ks:List (List IV)):Option (AV×StL):=open Classical in if h:∃ p:List (List Val)×List Int,es=rowsL p.1∧ks=intsL p.2∧GOk p.2 p.1 then some (.i (.isl (grpsL (runs h.choose.2 (stS h.choose.2 h.choose.1)))),[])else none
noncomputable def groupsP:List AV→StL→Option (AV×StL)
 | [.i (.agg [.lit (.int .i64 _), .isl (e::es)]), .i (.isl ks)],[]=>groupsB (e::es) ks
 | [.i (.agg [.lit (.int .i64 _), .isl []]), .i (.isl _)],[]=>some (.i (.isl []),[])
 | _,_=>none
theorem groupsP_some {w:Int} {rows:List (List Val)} {cs:List Int} (h0:rows≠[]) (h:GOk cs rows):groupsP [.i (.agg [.int w, .isl (rowsL rows)]), .i (.isl (intsL cs))] []=some (.i (.isl (grpsL (runs cs (stS cs rows)))),[]):=by
 obtain⟨r,rs,rfl⟩:=List.exists_cons_of_ne_nil h0
 show groupsB (rowsL (r::rs)) (intsL cs)=_
 have hex:∃ p:List (List Val)×List Int,rowsL (r::rs)=rowsL p.1∧intsL cs=intsL p.2∧GOk p.2 p.1:=⟨(r::rs,cs),rfl,rfl,h⟩
 unfold groupsB
 rw[dif_pos hex]
 obtain⟨h1,h2,_⟩:=hex.choose_spec
 rw[← rowsL_inj h1,← intsL_inj h2]
theorem groups_nil (w:Int) (ks:List (List IV)):callA C0 181 [.i (.agg [.int w, .isl []]), .i (.isl ks)] []=some (.i (.isl []),[]):=by
 have hc:callA C0 211 [.i (.isl [])] []=some (.nils,[]):=by
  rw[callA_eq rfl Tryz.func211 rfl rfl];simp
 have hi:∀ ks:List (List IV),callA C0 192 [.nils, .int 0, .int 0, .fn (.func 212) [.own 0 0]] [some (.box [.i (.isl ks)])]=some (.tup [],[some (.box [.i (.isl ks)])]):=by
  intro ks
  rw[callA_eq rfl Tryz.func192 rfl rfl]
  simp[wrap_1]
  rw[execA_loop]
  simp[wrap_1]
 have hs:∀ ks:List (List IV),callA C0 223 [.nils, .int 0, .fn (.func 212) [.own 0 0]] [some (.box [.i (.isl ks)])]=some (.tup [],[some (.box [.i (.isl ks)])]):=by
  intro ks
  rw[callA_eq rfl Tryz.func223 rfl rfl]
  simp
  rw[execA_loop]
  simp[hi]
  rw[execA_loop]
  simp
 have hS:∀ ks:List (List IV),callA C0 213 [.nils, .fn (.func 212) [.own 0 0]] [some (.box [.i (.isl ks)])]=some (.tup [],[some (.box [.i (.isl ks)])]):=by
  intro ks
  rw[callA_eq rfl Tryz.func213 rfl rfl]
  simp[hs]
 rw[callA_eq rfl Tryz.func181 rfl rfl]
 simp[hc,hS]
 rw[execA_loop]
 simp
theorem groupsP_name {args:List AV} {st:StL} {q:AV×StL} (_:groupsP args st=some q):∃ fn,Tryz.prog.funcs[181]?=some fn∧fn.name≠ "runtime.NumGoroutine"∧fn.body.isSome=true:=⟨Tryz.f181,Tryz.func181,hn181,hb181⟩
theorem groupsP_calls {args:List AV} {st st':StL} {r:AV} (h:groupsP args st=some (r,st')) (w:World) (m:Mem) (φ:Pl) (vs:List Value) (hi:Inv w m φ (stOf st)) (hr:RepL m φ args vs) (h0:∀ id,φ id≠none→id<st.length):Calls Tryz.prog 181 vs.toArray w (CallPost w m φ r st'):=by
 have hφ:∀ (φ:Pl),(∀ id,φ id≠none→id<([]:StL).length)→φ=fun _=>none:=fun φ h=>by
  funext id
  cases e:φ id with
  | none=>rfl
  | some p=>exact absurd (h id (by rw[e];simp)) (by simp)
 unfold groupsP at h
 split at h
 ·rename_i w0 e es ks
  unfold groupsB at h
  split at h
  ·rename_i hex
   injection h with h;injection h with h1 h2;subst h1;subst h2
   obtain⟨g1,g2,g3⟩:=hex.choose_spec
   obtain rfl:=hφ _ h0
   obtain⟨k1,k2,k3⟩:=stS_spec g3
   have hne:hex.choose.1≠[]:=fun e=>by rw[e]at g1;simp[rowsL]at g1
   have hr':RepL m (fun _=>none) [.i (.agg [.int w0, .isl (rowsL hex.choose.1)]), .i (.isl (intsL hex.choose.2))] vs:=by rw[← g1,← g2];exact hr
   exact groups_some hne g3.1 g3.2.1 g3.2.2 k1 k2 hi hr'
  ·cases h
 ·injection h with h;injection h with h1 h2;subst h1;subst h2
  exact(callA_sound sound0).calls _ _ _ _ _ (by decide) (groups_nil _ _) w m φ vs hi hr h0
 ·cases h
noncomputable def primE:FuncId→Option (List AV→StL→Option (AV×StL))
 | 1000000007=>none
 | 3=>none
 | 4=>none
 | 5=>none
 | 6=>none
 | 7=>none
 | 8=>none
 | 9=>none
 | 10=>none
 | 11=>none
 | 12=>none
 | 13=>none
 | 14=>none
 | 15=>none
 | 16=>none
 | 17=>none
 | 18=>none
 | 19=>none
 | 20=>none
 | 21=>none
 | 22=>none
 | 23=>none
 | 24=>none
 | 28=>none
 | 37=>none
 | 52=>none
 | 56=>none
 | 99=>some (callA CT 99)
 | 25=>none
 | 27=>none
 | 58=>none
 | 100=>none
 | 64=>none
 | 42=>none
 | 41=>none
 | 32=>none
 | 38=>none
 | 80=>none
 | 79=>none
 | 130=>none
 | 65=>none
 | 113=>none
 | 147=>none
 | 174=>none
 | 148=>none
 | 177=>none
 | 149=>none
 | 178=>none
 | 150=>none
 | 180=>none
 | 112=>some (sortP 68)
 | 131=>some growP
 | 176=>some (lookV (callA C0) 176)
 | 181=>some groupsP
 | 54=>some (callA CP 54)
 | 53=>some (callA CP 53)
 | 71=>some (callA CP 71)
 | g=>some (callA CR g)
def ownE:FuncId→Bool
 | 176=>true
 | 131=>true
 | g=>ownP g
@[simp] theorem ownE_eq (g:FuncId):ownE g=if g=176 then true else if g=131 then true else ownP g:=by
  unfold ownE;split
  ·simp
  ·simp
  ·rename_i h h2;rw[if_neg h,if_neg h2]
noncomputable def CE:Ctx:={ P:=Tryz.prog,G:=GS,ownArgs:=ownE,keepRes:=keepQ,eqT:=eqTy,prim:=primE }
@[simp] theorem CE_P:CE.P=Tryz.prog:=(rfl)
@[simp] theorem CE_G (f):CE.G f=GS f:=(rfl)
@[simp] theorem CE_o (f):CE.ownArgs f=ownE f:=(rfl)
@[simp] theorem CE_k (f):CE.keepRes f=(keepR f || decide (f=120)):=(rfl)
@[simp] theorem CE_e (f):CE.eqT f=eqTy f:=(rfl)
@[simp] theorem CE_t:CE.tree=false:=(rfl)
theorem cmp_rows (a b:List Val) (_:a.all Val.ok=true) (_:b.all Val.ok=true) (h1:a.length<1000000) (h2:b.length<1000000):callA C0 68 [.i (.isl (valsL a)), .i (.isl (valsL b))] []=some (.int (rowCmp a b),[]):=compareRows_eq a b h1 h2
theorem eg68:∀ args w,(callFunc 68 args).run Tryz.prog w=.ok (.enter 68 args) w:=by
 intro args w
 unfold callFunc
 have hn:Tryz.f68.name≠ "runtime.NumGoroutine":=by decide
 have hb:Tryz.f68.body≠none:=by intro h;have:Tryz.f68.body.isSome=true:=rfl;rw[h]at this;cases this
 simp[Tryz.func68,hn,hb]
theorem sortP_name {args:List AV} {st:StL} {q:AV×StL} (_:sortP 68 args st=some q):∃ fn,Tryz.prog.funcs[112]?=some fn∧fn.name≠ "runtime.NumGoroutine"∧fn.body.isSome=true:=⟨Tryz.f112,Tryz.func112,by decide,rfl⟩
theorem growP_name {args:List AV} {st:StL} {q:AV×StL} (_:growP args st=some q):∃ fn,Tryz.prog.funcs[131]?=some fn∧fn.name≠ "runtime.NumGoroutine"∧fn.body.isSome=true:=⟨Tryz.f131,Tryz.func131,by decide,rfl⟩
theorem sortP_calls {args:List AV} {st st':StL} {r:AV} (h:sortP 68 args st=some (r,st')) (w:World) (m:Mem) (φ:Pl) (vs:List Value) (hi:Inv w m φ (stOf st)) (hr:RepL m φ args vs) (h0:∀ id,φ id≠none→id<st.length):Calls Tryz.prog 112 vs.toArray w (CallPost w m φ r st') :=
 sort_calls sound0 Tryz.sortRows (by decide) eg68 cmp_rows h w m φ vs hi hr h0
theorem growP_calls {args:List AV} {st st':StL} {r:AV} (h:growP args st=some (r,st')) (w:World) (m:Mem) (φ:Pl) (vs:List Value) (hi:Inv w m φ (stOf st)) (hr:RepL m φ args vs) (h0:∀ id,φ id≠none→id<st.length):Calls Tryz.prog 131 vs.toArray w (CallPost w m φ r st') :=
 grow_calls (C:=C0) Tryz.growRows (z:=.slice none 0 0) (i0:=((Tryz.prog.info? 41).getD default)) (by kernel_rfl) (by kernel_rfl) (by kernel_rfl) (by decide) (by decide) (by decide) h w m φ vs hi hr h0
theorem primE0:PrimOk CE:=by
 have hP:=callA_sound soundP
 have hR:=callA_sound soundR
 have hT:=callA_sound soundT
 constructor
 ·intro g args st p h
  unfold primCall at h
  cases hq:CE.prim g with
  | none=>rw[hq]at h;cases h
  | some q =>
   rw[hq]at h
   have hq:primE g=some q:=hq
   unfold primE at hq
   split at hq
   all_goals first
    | (cases hq;done)
    | (injection hq with hq;subst hq;exact sortP_name h)
    | (injection hq with hq;subst hq;exact growP_name h)
    | (injection hq with hq;subst hq;exact groupsP_name h)
    | (injection hq with hq;subst hq;exact(lookV_sound (callA_sound sound0) (r:=p.1) (stl':=p.2) h (by decide)).1)
    | (injection hq with hq;subst hq;exact hP.name _ _ _ _ (by decide) h)
    | (injection hq with hq;subst hq;exact hT.name _ _ _ _ (by decide) h)
    | (injection hq with hq;subst hq;exact hR.name _ _ _ _ (by assumption) h)
 ·intro g args st r st' h w m φ vs hi hr hb
  unfold primCall at h
  cases hq:CE.prim g with
  | none=>rw[hq]at h;cases h
  | some q =>
   rw[hq]at h
   have hq:primE g=some q:=hq
   unfold primE at hq
   split at hq
   all_goals first
    | (cases hq;done)
    | (injection hq with hq;subst hq;exact sortP_calls h w m φ vs hi hr hb)
    | (injection hq with hq;subst hq;exact growP_calls h w m φ vs hi hr hb)
    | (injection hq with hq;subst hq;exact groupsP_calls h w m φ vs hi hr hb)
    | (injection hq with hq;subst hq;exact(lookV_sound (callA_sound sound0) h (by decide)).2 w m φ vs hi hr hb)
    | (injection hq with hq;subst hq;exact hP.calls _ _ _ _ _ (by decide) h w m φ vs hi hr hb)
    | (injection hq with hq;subst hq;exact hT.calls _ _ _ _ _ (by decide) h w m φ vs hi hr hb)
    | (injection hq with hq;subst hq;exact hR.calls _ _ _ _ _ (by assumption) h w m φ vs hi hr hb)
theorem soundE:SoundOk CE:=sound_ok (C:=CE) ft nt eqS mo primE0
theorem copiedOwn_eq (a:List Val) (h0:a≠[]) (hl:a.length<1000000):callA C0 111 [.osl 0 2 0 a.length] [some (.arr 2 (valsL a))]=some (.i (.isl (valsL a)),[some (.arr 2 (valsL a))]):=by
 have hb:16*(a.length:Int)≤281474976710656:=by omega
 have hb2:16*a.length≤281474976710656:=by omega
 have e1:List.take a.length (valsL a)=valsL a:=List.take_of_length_le (by simp)
 have h0':a.length≠0:=fun e=>h0 (List.length_eq_zero_iff.1 e)
 rw[callA_eq rfl Tryz.func111 rfl rfl]
 simp[h0,h0',hb,hb2,e1,over]
@[simp] theorem ce_copied (a:List AV) (st:StL):callA CE 111 a st=callA C0 111 a st:=by
  rw[callA_prim (p:=callA CR 111) rfl,callA_prim (p:=callA C0 111) rfl]
@[simp] theorem ce_sort (a:List AV) (st:StL):callA CE 112 a st=sortP 68 a st:=by
  rw[callA_prim (p:=sortP 68) rfl]
structure Yc (R:Rng) (cs:List AV) (w:Int):Prop where
 ids:cs=[.own 1 0, .own 2 0, .own 3 0, .junk, .junk, .junk]
 c00:∀ r:List Val,r≠[]→r.length<1000000→callA CE yldF [.fn (.yield 0) [.own 0 0], .i (.isl (valsL r))] [some (.loop R cs .ready),some (.box [.int w]),some (.box [.int 0, .nils]),some (.box [.nils])]=some (.bool true,[some (.loop R cs .ready),some (.box [.int w]),some (.box [.int 0, .nils]),some (.box [.osl 4 1 0 1]),some (.arr 1 [[.isl (valsL r)]])])
 c10:∀ (r:List Val) (n:Nat) (l:List (List Val)),r≠[]→r.length<1000000→l.length=n→n≠0→n<400→callA CE yldF [.fn (.yield 0) [.own 0 0], .i (.isl (valsL r))] [some (.loop R cs .ready),some (.box [.int w]),some (.box [.int 0, .nils]),some (.box [.osl 4 1 0 n]),some (.arr 1 (rowsL l))]=some (.bool true,[some (.loop R cs .ready),some (.box [.int w]),some (.box [.int 0, .nils]),some (.box [.osl 5 1 0 (n+1)]),none,some (.arr 1 (rowsL l++[[.isl (valsL r)]]))])
 c01:∀ r:List Val,r≠[]→r.length<1000000→callA CE yldF [.fn (.yield 0) [.own 0 0], .osl 4 2 0 r.length] [some (.loop R cs .ready),some (.box [.int w]),some (.box [.int 0, .nils]),some (.box [.nils]),some (.arr 2 (valsL r))]=some (.bool true,[some (.loop R cs .ready),some (.box [.int w]),some (.box [.int 0, .nils]),some (.box [.osl 5 1 0 1]),some (.arr 2 (valsL r)),some (.arr 1 [[.isl (valsL r)]])])
 c11:∀ (r:List Val) (n:Nat) (l:List (List Val)),r≠[]→r.length<1000000→l.length=n→n≠0→n<400→callA CE yldF [.fn (.yield 0) [.own 0 0], .osl 5 2 0 r.length] [some (.loop R cs .ready),some (.box [.int w]),some (.box [.int 0, .nils]),some (.box [.osl 4 1 0 n]),some (.arr 1 (rowsL l)),some (.arr 2 (valsL r))]=some (.bool true,[some (.loop R cs .ready),some (.box [.int w]),some (.box [.int 0, .nils]),some (.box [.osl 6 1 0 (n+1)]),none,some (.arr 2 (valsL r)),some (.arr 1 (rowsL l++[[.isl (valsL r)]]))])
def itO (R:Rng) (cs:List AV) (w:Int) (bx:StL) (rows:List (List Val)):StL :=
 some (.loop R cs .ready)::some (.box [.int w])::some (.box [.int 0, .nils])::some (.box [gro (4+bx.length) 1 rows.length])::(bx++groB 1 (rowsL rows) rows.length)
theorem collect_one (w:Int) (it:FuncId) (hit:it≠yldF) (bs:List AV) (rows:List (List Val)) (hl:rows.length≤400) (ho:oksL rows)
 (h:∀ R cs,Yc R cs w→callA CE it [.fn (.yield 0) [.own 0 0], .own 4 0] [some (.loop R cs .ready),some (.box [.int w]),some (.box [.int 0, .nils]),some (.box [.nils]),some (.box bs)]=some (.tup [],itO R cs w [some (.box bs)] rows)) (hbs:idsOfL bs=[]) (hrb:∀ r,renL r bs=bs) :
 callA CE 64 [.int w, .fn (.func it) [.own 0 0]] [some (.box bs)]=some (.i (.agg [.int w, .isl (rowsL (sortR rows))]),[some (.box bs)]):=by
 rw[callA_eq rfl Tryz.func64 rfl rfl]
 simp[hbs,hrb,noRange,readsC,tmpsC,tmpsOs,tmpsO,Op.operands,Call.operands,hit]
 generalize hR:Rng.mk [0,1,2,4,5,6,7,8,11] _ [8] _ _=R
 have hY:Yc R [.own 1 0, .own 2 0, .own 3 0, .junk, .junk, .junk] w:=by
  clear h
  refine⟨rfl,?_,?_,?_,?_⟩
  ·intro r h0 hl
   have hc:=copiedRow_eq r h0 hl
   subst hR
   rw[callA_yld]
   simp[hc]
  ·intro r n l h0 hl hn hn0 hn4
   have hc:=copiedRow_eq r h0 hl
   have e1:(rowsL l).take n=rowsL l:=List.take_of_length_le (by simp;omega)
   have e2:l.take n=l:=List.take_of_length_le (by omega)
   have n4:¬ (n:Int)=400:=by omega
   have n4':¬ n=400:=by omega
   have hb:(n+1)*24≤140737488355328:=by omega
   subst hR
   rw[callA_yld]
   simp[hc,e1,e2,n4,n4',hb,hn]
  ·intro r h0 hl
   have hc:=copiedOwn_eq r h0 hl
   subst hR
   rw[callA_yld]
   simp[hc]
  ·intro r n l h0 hl hn hn0 hn4
   have hc:=copiedOwn_eq r h0 hl
   have e1:(rowsL l).take n=rowsL l:=List.take_of_length_le (by simp;omega)
   have e2:l.take n=l:=List.take_of_length_le (by omega)
   have n4:¬ (n:Int)=400:=by omega
   have n4':¬ n=400:=by omega
   have hb:(n+1)*24≤140737488355328:=by omega
   subst hR
   rw[callA_yld]
   simp[hc,e1,e2,n4,n4',hb,hn]
 have h':=h R _ hY
 clear hR hY h
 have hrl:sortR rows=rows→True:=fun _=>trivial
 by_cases hz:rows.length=0
 ·have:rows=[]:=List.length_eq_zero_iff.1 hz
  subst this
  simp[itO]at h'
  simp[h',hbs,hrb,sortP_nil,sortR,rowsL_nil]
 ·have hs:=sortP_some (g0:=68) (n:=rows.length) (fun e=>hz (by rw[e];rfl)) rfl (by omega) ho
  have e1:List.take rows.length (sortR rows)=sortR rows:=List.take_of_length_le (by rw[sortR_length];omega)
  simp[itO,gro_pos hz,groB_pos hz]at h'
  simp[h',hbs,hrb,hs,sortR_length,e1]
theorem collect_two (w:Int) (it:FuncId) (hit:it≠yldF) (bs bs2:List AV) (rows:List (List Val)) (hl:rows.length≤400) (ho:oksL rows)
 (h:∀ R cs,Yc R cs w→callA CE it [.fn (.yield 0) [.own 0 0], .own 4 0, .own 5 0] [some (.loop R cs .ready),some (.box [.int w]),some (.box [.int 0, .nils]),some (.box [.nils]),some (.box bs),some (.box bs2)]=some (.tup [],itO R cs w [some (.box bs),some (.box bs2)] rows)) (hbs:idsOfL bs=[]) (hrbs:∀ r,renL r bs=bs) (hbs2:idsOfL bs2=[]) (hrbs2:∀ r,renL r bs2=bs2) :
 callA CE 64 [.int w, .fn (.func it) [.own 0 0, .own 1 0]] [some (.box bs),some (.box bs2)]=some (.i (.agg [.int w, .isl (rowsL (sortR rows))]),[some (.box bs),some (.box bs2)]):=by
 rw[callA_eq rfl Tryz.func64 rfl rfl]
 simp[hbs,hrbs,hbs2,hrbs2,noRange,readsC,tmpsC,tmpsOs,tmpsO,Op.operands,Call.operands,hit]
 generalize hR:Rng.mk [0,1,2,4,5,6,7,8,11] _ [8] _ _=R
 have hY:Yc R [.own 1 0, .own 2 0, .own 3 0, .junk, .junk, .junk] w:=by
  clear h
  refine⟨rfl,?_,?_,?_,?_⟩
  ·intro r h0 hl
   have hc:=copiedRow_eq r h0 hl
   subst hR
   rw[callA_yld]
   simp[hc]
  ·intro r n l h0 hl hn hn0 hn4
   have hc:=copiedRow_eq r h0 hl
   have e1:(rowsL l).take n=rowsL l:=List.take_of_length_le (by simp;omega)
   have e2:l.take n=l:=List.take_of_length_le (by omega)
   have n4:¬ (n:Int)=400:=by omega
   have n4':¬ n=400:=by omega
   have hb:(n+1)*24≤140737488355328:=by omega
   subst hR
   rw[callA_yld]
   simp[hc,e1,e2,n4,n4',hb,hn]
  ·intro r h0 hl
   have hc:=copiedOwn_eq r h0 hl
   subst hR
   rw[callA_yld]
   simp[hc]
  ·intro r n l h0 hl hn hn0 hn4
   have hc:=copiedOwn_eq r h0 hl
   have e1:(rowsL l).take n=rowsL l:=List.take_of_length_le (by simp;omega)
   have e2:l.take n=l:=List.take_of_length_le (by omega)
   have n4:¬ (n:Int)=400:=by omega
   have n4':¬ n=400:=by omega
   have hb:(n+1)*24≤140737488355328:=by omega
   subst hR
   rw[callA_yld]
   simp[hc,e1,e2,n4,n4',hb,hn]
 have h':=h R _ hY
 clear hR hY h
 have hrl:sortR rows=rows→True:=fun _=>trivial
 by_cases hz:rows.length=0
 ·have:rows=[]:=List.length_eq_zero_iff.1 hz
  subst this
  simp[itO]at h'
  simp[h',hbs,hrbs,hbs2,hrbs2,sortP_nil,sortR,rowsL_nil]
 ·have hs:=sortP_some (g0:=68) (n:=rows.length) (fun e=>hz (by rw[e];rfl)) rfl (by omega) ho
  have e1:List.take rows.length (sortR rows)=sortR rows:=List.take_of_length_le (by rw[sortR_length];omega)
  simp[itO,gro_pos hz,groB_pos hz]at h'
  simp[h',hbs,hrbs,hbs2,hrbs2,hs,sortR_length,e1]
theorem collect_three (w:Int) (it:FuncId) (hit:it≠yldF) (bs bs2 bs3:List AV) (rows:List (List Val)) (hl:rows.length≤400) (ho:oksL rows)
 (h:∀ R cs,Yc R cs w→callA CE it [.fn (.yield 0) [.own 0 0], .own 4 0, .own 5 0, .own 6 0] [some (.loop R cs .ready),some (.box [.int w]),some (.box [.int 0, .nils]),some (.box [.nils]),some (.box bs),some (.box bs2),some (.box bs3)]=some (.tup [],itO R cs w [some (.box bs),some (.box bs2),some (.box bs3)] rows)) (hbs:idsOfL bs=[]) (hrbs:∀ r,renL r bs=bs) (hbs2:idsOfL bs2=[]) (hrbs2:∀ r,renL r bs2=bs2) (hbs3:idsOfL bs3=[]) (hrbs3:∀ r,renL r bs3=bs3) :
 callA CE 64 [.int w, .fn (.func it) [.own 0 0, .own 1 0, .own 2 0]] [some (.box bs),some (.box bs2),some (.box bs3)]=some (.i (.agg [.int w, .isl (rowsL (sortR rows))]),[some (.box bs),some (.box bs2),some (.box bs3)]):=by
 rw[callA_eq rfl Tryz.func64 rfl rfl]
 simp[hbs,hrbs,hbs2,hrbs2,hbs3,hrbs3,noRange,readsC,tmpsC,tmpsOs,tmpsO,Op.operands,Call.operands,hit]
 generalize hR:Rng.mk [0,1,2,4,5,6,7,8,11] _ [8] _ _=R
 have hY:Yc R [.own 1 0, .own 2 0, .own 3 0, .junk, .junk, .junk] w:=by
  clear h
  refine⟨rfl,?_,?_,?_,?_⟩
  ·intro r h0 hl
   have hc:=copiedRow_eq r h0 hl
   subst hR
   rw[callA_yld]
   simp[hc]
  ·intro r n l h0 hl hn hn0 hn4
   have hc:=copiedRow_eq r h0 hl
   have e1:(rowsL l).take n=rowsL l:=List.take_of_length_le (by simp;omega)
   have e2:l.take n=l:=List.take_of_length_le (by omega)
   have n4:¬ (n:Int)=400:=by omega
   have n4':¬ n=400:=by omega
   have hb:(n+1)*24≤140737488355328:=by omega
   subst hR
   rw[callA_yld]
   simp[hc,e1,e2,n4,n4',hb,hn]
  ·intro r h0 hl
   have hc:=copiedOwn_eq r h0 hl
   subst hR
   rw[callA_yld]
   simp[hc]
  ·intro r n l h0 hl hn hn0 hn4
   have hc:=copiedOwn_eq r h0 hl
   have e1:(rowsL l).take n=rowsL l:=List.take_of_length_le (by simp;omega)
   have e2:l.take n=l:=List.take_of_length_le (by omega)
   have n4:¬ (n:Int)=400:=by omega
   have n4':¬ n=400:=by omega
   have hb:(n+1)*24≤140737488355328:=by omega
   subst hR
   rw[callA_yld]
   simp[hc,e1,e2,n4,n4',hb,hn]
 have h':=h R _ hY
 clear hR hY h
 have hrl:sortR rows=rows→True:=fun _=>trivial
 by_cases hz:rows.length=0
 ·have:rows=[]:=List.length_eq_zero_iff.1 hz
  subst this
  simp[itO]at h'
  simp[h',hbs,hrbs,hbs2,hrbs2,hbs3,hrbs3,sortP_nil,sortR,rowsL_nil]
 ·have hs:=sortP_some (g0:=68) (n:=rows.length) (fun e=>hz (by rw[e];rfl)) rfl (by omega) ho
  have e1:List.take rows.length (sortR rows)=sortR rows:=List.take_of_length_le (by rw[sortR_length];omega)
  simp[itO,gro_pos hz,groB_pos hz]at h'
  simp[h',hbs,hrbs,hbs2,hrbs2,hbs3,hrbs3,hs,sortR_length,e1]
abbrev rowsI (l:List (List Val)):Prop:=∀ r∈l,r≠[]∧r.length<1000000
def VLX (R:Rng) (cs:List AV) (w:Int) (rows:List (List Val)) (i:Nat):AS :=
 { env:=[(0, .fn (.yield 0) [.own 0 0]),(1, .own 4 0),(4,jk i (.isl (valsL ((rows[i-1]?).getD [])))),(5, .i (.isl (rowsL rows))),(6, .int rows.length),(7, .int i),(8,jk i (.bool true)),(14,jk i (.bool false))],st:=itO R cs w [some (.box [.i (.isl (rowsL rows))])] (rows.take i) }
theorem values_it {R:Rng} {cs:List AV} {w:Int} (hY:Yc R cs w) (rows:List (List Val)) (hl:rows.length≤400) (hr:rowsI rows) :
 callA CE 130 [.fn (.yield 0) [.own 0 0], .own 4 0] [some (.loop R cs .ready),some (.box [.int w]),some (.box [.int 0, .nils]),some (.box [.nils]),some (.box [.i (.isl (rowsL rows))])]=some (.tup [],itO R cs w [some (.box [.i (.isl (rowsL rows))])] rows):=by
 obtain⟨rfl,c00,c10,-,-⟩:=hY
 rw[callA_eq rfl Tryz.func130 rfl rfl]
 simp
 rw[loop_to (VLX R [.own 1 0, .own 2 0, .own 3 0, .junk, .junk, .junk] w rows) rows.length (by simp[VLX,itO])]
 ·rw[execA_loop]
  have e1:rows.take rows.length=rows:=List.take_of_length_le (by simp)
  by_cases hz:rows.length=0
  ·simp[VLX,itO,e1,hz]
  ·simp[VLX,itO,e1,hz,gro_pos hz,groB_pos hz]
 ·intro i hi
  obtain⟨x,hx⟩:∃ x,rows[i]?=some x:=⟨_,List.getElem?_eq_getElem hi⟩
  have hxn:=rowsL_nth hx
  obtain⟨_,hg⟩:=List.getElem?_eq_some_iff.1 hx
  obtain⟨hx0,hxl⟩:=hr x (List.mem_of_getElem? hx)
  have hT:=take_snoc hx
  have w3:IntKind.i64.wrap ((i:Int)+1)=i+1:=wrap64 (by omega) (by omega)
  have hmin:min i rows.length=i:=by omega
  have hmin2:min (i+1) rows.length=i+1:=by omega
  by_cases h0:i=0
  ·subst h0
   have hy:=c00 x hx0 hxl
   simp at hT
   simp[VLX,itO,hi,hxn,hy,hT,hx,hg,wrap_1,rowsL_cons,rowsL_nil]
  ·have hy:=c10 x i (rows.take i) hx0 hxl (by simp;omega) h0 (by omega)
   simp[VLX,itO,hi,hxn,hy,hT,hx,hg,w3,h0,gro_pos h0,groB_pos h0,hmin,hmin2,rowsL_append,rowsL_cons,rowsL_nil]
@[simp] theorem ce_compareRows (a:List AV) (st:StL):callA CE 68 a st=callA C0 68 a st:=by
  rw[callA_prim (p:=callA CR 68) rfl,callA_prim (p:=callA C0 68) rfl]
@[simp] theorem ce_truthOf (a:List AV) (st:StL):callA CE 175 a st=callA C0 175 a st:=by
  rw[callA_prim (p:=callA CR 175) rfl,callA_prim (p:=callA C0 175) rfl]
@[simp] theorem ce_value (a:List AV) (st:StL):callA CE 176 a st=lookV (callA C0) 176 a st:=by
  rw[callA_prim (p:=lookV (callA C0) 176) rfl]
def DRX (R:Rng) (cs:List AV) (w:Int) (rows:List (List Val)) (i:Nat):AS :=
 { env:=[(0, .fn (.yield 0) [.own 0 0]),(1, .own 4 0),(3,jk i (.int ((i:Int)-1))),(4,jk i (.isl (valsL ((rows[i-1]?).getD [])))),(5, .i (.isl (rowsL rows))),(6, .int rows.length),(7, .int i),(8,jk i (.bool true)),(23,jk i (.bool (decide (i-1≠0∧rowCmp ((rows[i-1-1]?).getD []) ((rows[i-1]?).getD [])=0)))),(27,jk i (.bool false))],st:=itO R cs w [some (.box [.i (.isl (rowsL rows))])] (dedup (rows.take i)) }
theorem dedup_ne:∀ {l:List (List Val)},l≠[]→dedup l≠[]
 | [],h=>absurd rfl h
 | a::l,_=>by simp[dedup]
theorem different_it {R:Rng} {cs:List AV} {w:Int} (hY:Yc R cs w) (rows:List (List Val)) (hl:rows.length≤400) (hr:rowsI rows) :
 callA CE 113 [.fn (.yield 0) [.own 0 0], .own 4 0] [some (.loop R cs .ready),some (.box [.int w]),some (.box [.int 0, .nils]),some (.box [.nils]),some (.box [.i (.isl (rowsL rows))])]=some (.tup [],itO R cs w [some (.box [.i (.isl (rowsL rows))])] (dedup rows)):=by
 obtain⟨rfl,c00,c10,-,-⟩:=hY
 rw[callA_eq rfl Tryz.func113 rfl rfl]
 simp
 rw[loop_to (DRX R [.own 1 0, .own 2 0, .own 3 0, .junk, .junk, .junk] w rows) rows.length (by simp[DRX,itO,dedup])]
 ·rw[execA_loop]
  have e1:rows.take rows.length=rows:=List.take_of_length_le (by simp)
  have hd:=(dedup_sub rows).length_le
  by_cases hz:rows.length=0
  ·have:rows=[]:=List.length_eq_zero_iff.1 hz
   subst this
   simp[DRX,itO,dedup]
  ·have hz2:(dedup rows).length≠0:=fun e=>dedup_ne (fun e=>hz (by rw[e];rfl)) (List.length_eq_zero_iff.1 e)
   simp[DRX,itO,e1,hz,gro_pos hz2,groB_pos hz2]
 ·intro i hi
  obtain⟨x,hx⟩:∃ x,rows[i]?=some x:=⟨_,List.getElem?_eq_getElem hi⟩
  have hxn:=rowsL_nth hx
  obtain⟨_,hg⟩:=List.getElem?_eq_some_iff.1 hx
  obtain⟨hx0,hxl⟩:=hr x (List.mem_of_getElem? hx)
  have hT:=dedup_at hx
  have w3:IntKind.i64.wrap ((i:Int)+1)=i+1:=wrap64 (by omega) (by omega)
  by_cases h0:i=0
  ·subst h0
   have hy:=c00 x hx0 hxl
   simp at hT
   simp[dedup,hg]at hT
   simp[DRX,itO,hi,hxn,hy,hT,hx,hg,wrap_1,rowsL_cons,rowsL_nil,dedup]
  ·obtain⟨p,hp⟩:∃ p,rows[i-1]?=some p:=⟨_,List.getElem?_eq_getElem (by omega)⟩
   have hpn:=rowsL_nth hp
   obtain⟨_,hgp⟩:=List.getElem?_eq_some_iff.1 hp
   have hc:=compareRows_eq p x (hr p (List.mem_of_getElem? hp)).2 hxl
   have hne:dedup (rows.take i)≠[]:=dedup_ne fun e=>h0 (by have:=congrArg List.length e;rw[List.length_take]at this;simp only[List.length_nil]at this;omega)
   have hnl:(dedup (rows.take i)).length≠0:=fun e=>hne (List.length_eq_zero_iff.1 e)
   have hlt:(dedup (rows.take i)).length<400:=by
    have:=(dedup_sub (rows.take i)).length_le
    rw[List.length_take]at this
    omega
   have hy:=c10 x _ (dedup (rows.take i)) hx0 hxl rfl hnl hlt
   have wm:IntKind.i64.wrap ((i:Int)-1)=((i-1:Nat):Int):=by rw[wrap64 (by omega) (by omega)];omega
   have hi1:i-1<rows.length:=by omega
   have hpos:(0:Int)<i:=by omega
   have hpos':0<i:=by omega
   rw[hp]at hT
   simp only[Option.getD_some]at hT
   simp only[DRX]
   generalize dedup (rows.take i)=D at *
   by_cases hk:rowCmp p x=0
   ·simp[h0,hk]at hT
    simp[itO,hi,hxn,hT,hx,hg,w3,h0,jk_pos h0,gro_pos hnl,groB_pos hnl,hpn,hp,hgp,hc,hk,wm,hi1,hpos,hpos']
   ·simp[h0,hk]at hT
    simp[itO,hi,hxn,hy,hT,hx,hg,w3,h0,jk_pos h0,gro_pos hnl,groB_pos hnl,hpn,hp,hgp,hc,hk,wm,hi1,hpos,hpos',rowsL_append,rowsL_cons,rowsL_nil]
theorem lookV_value {e:Ex} {row:List Val} {w:Int} (hw:w=row.length) (hr:row.all Val.ok=true) (he:e.wf w=true):lookV (callA C0) 176 [.i (.iref e.cells), .i (.isl (valsL row))] []=some (.i (.agg [.bool (e.ev row).null, .int (e.ev row).n]),[]):=by
 have h:=value_eq row hw hr e he
 simp[lookV,viewXs,viewX,viewN,viewW,h,mfR,bareL,bareC]
theorem lookV_own {e:Ex} {row:List Val} {w:Int} (hw:w=row.length) (h0:row≠[]) (hr:row.all Val.ok=true) (he:e.wf w=true):lookV (callA C0) 176 [.i (.iref e.cells), .osl 0 2 0 row.length] [some (.arr 2 (valsL row))]=some (.i (.agg [.bool (e.ev row).null, .int (e.ev row).n]),[some (.arr 2 (valsL row))]):=by
 have h:=value_eq row hw hr e he
 have h1:0<row.length:=List.length_pos_iff.2 h0
 have h2:(valsL row).take row.length=valsL row:=List.take_of_length_le (by simp)
 simp[lookV,viewXs,viewX,viewN,viewW,h,h1,h2,mfR,bareL,bareC]
def FLX (R:Rng) (cs:List AV) (w:Int) (t:Tbl) (p:Pn) (e:Ex) (i:Nat):AS :=
 { env:=[(0, .fn (.yield 0) [.own 0 0]),(1, .own 4 0),(2, .own 5 0),(5,jk i (.isl (valsL ((t.rows[i-1]?).getD [])))),(7, .i (.isl (rowsL t.rows))),(8, .int t.rows.length),(9, .int i),(10,jk i (.bool true)),(27,jk i (.bool false))],st:=itO R cs w [some (.box [.i (.int t.w), .i (.isl (rowsL t.rows))]),some (.box [.i (.iref p.cells)])] ((t.rows.take i).filter (isT e)) }
theorem filtered_it {R:Rng} {cs:List AV} {w:Int} (hY:Yc R cs w) (t:Tbl) (p:Pn) (e:Ex) (hp:p.exprs[0]?=some e) (ht:t.ok=true) (he:e.wf t.w=true) :
 callA CE 174 [.fn (.yield 0) [.own 0 0], .own 4 0, .own 5 0] [some (.loop R cs .ready),some (.box [.int w]),some (.box [.int 0, .nils]),some (.box [.nils]),some (.box [.i (.int t.w), .i (.isl (rowsL t.rows))]),some (.box [.i (.iref p.cells)])]=some (.tup [],itO R cs w [some (.box [.i (.int t.w), .i (.isl (rowsL t.rows))]),some (.box [.i (.iref p.cells)])] (t.rows.filter (isT e))):=by
 obtain⟨rfl,c00,c10,-,-⟩:=hY
 obtain⟨ht1,ht2,ht3,-⟩:=(Tbl.ok_iff t).1 ht
 obtain⟨htw1,htw2⟩:=(okWidth_iff _).1 ht1
 have hen:=Ex.cellsL_nth hp
 have hel:0<p.exprs.length:=(List.getElem?_eq_some_iff.1 hp).1
 rw[callA_eq rfl Tryz.func174 rfl rfl]
 rw[Pn.cells_eq p]
 simp
 rw[loop_to (FLX R [.own 1 0, .own 2 0, .own 3 0, .junk, .junk, .junk] w t p e) t.rows.length (by rw[show FLX R [.own 1 0, .own 2 0, .own 3 0, .junk, .junk, .junk] w t p e 0=_ from rfl];simp only[FLX];rw[Pn.cells_eq p];simp[itO])]
 ·rw[execA_loop]
  have e1:t.rows.take t.rows.length=t.rows:=List.take_of_length_le (by simp)
  simp only[FLX]
  rw[Pn.cells_eq p,e1]
  generalize t.rows.filter (isT e)=D
  by_cases hz:D.length=0<;>by_cases hz2:t.rows.length=0<;>simp[itO,hz,hz2,gro_pos,groB_pos]
 ·intro i hi
  obtain⟨x,hx⟩:∃ x,t.rows[i]?=some x:=⟨_,List.getElem?_eq_getElem hi⟩
  have hxn:=rowsL_nth hx
  obtain⟨_,hg⟩:=List.getElem?_eq_some_iff.1 hx
  have hxo:=ht3 x (List.mem_of_getElem? hx)
  unfold rowOk at hxo
  simp only[Bool.and_eq_true,decide_eq_true_eq]at hxo
  have hx0:x≠[]:=fun e=>by rw[e]at hxo;simp at hxo;omega
  have hxl:x.length<1000000:=by omega
  have hv:=lookV_value (w:=t.w) hxo.1.symm hxo.2 he
  have htr:=truthOf_eq (e.ev x).null (e.ev x).n
  have hT:(t.rows.take (i+1)).filter (isT e)=(t.rows.take i).filter (isT e)++if isT e x=true then [x]else []:=by
   rw[take_snoc hx,List.filter_append];simp[List.filter];split<;>simp_all
  have w3:IntKind.i64.wrap ((i:Int)+1)=i+1:=wrap64 (by omega) (by omega)
  have hDl:((t.rows.take i).filter (isT e)).length<400:=by
   have:=List.length_filter_le (isT e) (t.rows.take i)
   rw[List.length_take]at this
   omega
  simp only[FLX]
  rw[Pn.cells_eq p,Ex.cells_eq e]at *
  generalize (t.rows.take i).filter (isT e)=D at *
  by_cases hk:(e.ev x).tr=2
  ·have hkT:isT e x=true:=by simp[isT,hk]
   rw[hkT]at hT
   by_cases hz:D.length=0
   ·have:D=[]:=List.length_eq_zero_iff.1 hz
    subst this
    have hy:=c00 x hx0 hxl
    simp at hT
    by_cases h0:i=0
    ·subst h0;simp at hT;simp[itO,hi,hxn,hT,hx,hg,w3,wrap_1,hen,hel,hv,htr,hk,hy,rowsL_cons,rowsL_nil]
    ·simp[itO,hi,hxn,hT,hx,hg,w3,wrap_1,hen,hel,hv,htr,hk,h0,hy,rowsL_cons,rowsL_nil]
   ·have hy:=c10 x _ D hx0 hxl rfl hz hDl
    simp at hT
    by_cases h0:i=0
    ·subst h0;simp at hT;simp[itO,hi,hxn,hT,hx,hg,w3,wrap_1,hen,hel,hv,htr,hk,hy,gro_pos hz,groB_pos hz,rowsL_append,rowsL_cons,rowsL_nil]
    ·simp[itO,hi,hxn,hT,hx,hg,w3,wrap_1,hen,hel,hv,htr,hk,h0,hy,gro_pos hz,groB_pos hz,rowsL_append,rowsL_cons,rowsL_nil]
  ·have hkT:isT e x=false:=by simp[isT,hk]
   rw[hkT]at hT
   simp at hT
   by_cases h0:i=0
   ·subst h0;simp at hT;by_cases hz:D.length=0<;>simp[itO,hi,hxn,hT,hx,hg,w3,wrap_1,hen,hel,hv,htr,hk,hz,gro_pos,groB_pos]
   ·by_cases hz:D.length=0<;>simp[itO,hi,hxn,hT,hx,hg,w3,wrap_1,hen,hel,hv,htr,hk,h0,hz,gro_pos,groB_pos]
def itB (R:Rng) (cs:List AV) (w:Int) (bx:StL) (rows:List (List Val)) (out:List Val):StL :=
 some (.loop R cs .ready)::some (.box [.int w])::some (.box [.int 0, .nils])::some (.box [gro (4+bx.length) 1 rows.length])::(bx++(groB 1 (rowsL rows) rows.length++[some (.arr 2 (valsL out))]))
def oId (b:Nat) (rows:List (List Val)):Nat:=if rows.length=0 then b else b+1
theorem valsL_repl (n:Nat) (v:Val):valsL (List.replicate n v)=List.replicate n [.bool v.null, .int v.n]:=by
 induction n with
 | zero=>rfl
 | succ n ih=>simp[List.replicate_succ,valsL,ih]
theorem half_row {es:List Ex} {O x:List Val} {j:Nat} {e:Ex} (h:es[j]?=some e) (hO:O.length=es.length):((es.map (Ex.ev x)).take j++O.drop j).set j (e.ev x)=(es.map (Ex.ev x)).take (j+1)++O.drop (j+1)∧∃ o,((es.map (Ex.ev x)).take j++O.drop j)[j]?=some o:=by
 have hj:=(List.getElem?_eq_some_iff.1 h).1
 have hd:O.drop j=O[j]'(by omega)::O.drop (j+1):=List.drop_eq_getElem_cons (by omega)
 rw[← List.map_take,← List.map_take]
 have hl:((es.take j).map (Ex.ev x)).length=j:=by simp;omega
 rw[hd]
 refine⟨?_,_,nth_mid _ _ _ hl.symm⟩
 rw[set_mid _ _ _ _ hl.symm,take_snoc h]
 simp
def PLX (R:Rng) (cs:List AV) (w:Int) (t:Tbl) (p:Pn) (i:Nat) (O:List Val) (x6 x7:IV) (g:AV):AS :=
 { env:=[(0, .fn (.yield 0) [.own 0 0]),(1, .own 4 0),(2, .own 5 0),(4, .osl (oId 6 (t.rows.take i)) 2 0 p.exprs.length),(6,jk i x6),(7,jk i x7),(15, .i (.isl (rowsL t.rows))),(16, .int t.rows.length),(17, .int i),(18,g),(25,jk i (.int p.exprs.length)),(26,jk i (.int p.exprs.length)),(27,jk i (.bool false)),(44,jk i (.bool false))],
   st:=itB R cs w [some (.box [.i (.iref p.cells)]),some (.box [.i (.int t.w), .i (.isl (rowsL t.rows))])] ((t.rows.take i).map fun r=>p.exprs.map (Ex.ev r)) O }
def PIX (R:Rng) (cs:List AV) (w:Int) (t:Tbl) (p:Pn) (i:Nat) (x:List Val) (O:List Val) (x7:IV) (j:Nat):AS :=
 { env:=[(0, .fn (.yield 0) [.own 0 0]),(1, .own 4 0),(2, .own 5 0),(4, .osl (oId 6 (t.rows.take i)) 2 0 p.exprs.length),(6, .i (.isl (valsL x))),(7,if j=0 then jk i x7 else .int ((j:Int)-1)),(15, .i (.isl (rowsL t.rows))),(16, .int t.rows.length),(17, .int i),(18, .bool true),(25, .int p.exprs.length),(26, .int j),(27,if j=0 then jk i (.bool false)else .bool true),(44,jk i (.bool false))],
   st:=itB R cs w [some (.box [.i (.iref p.cells)]),some (.box [.i (.int t.w), .i (.isl (rowsL t.rows))])] ((t.rows.take i).map fun r=>p.exprs.map (Ex.ev r)) ((p.exprs.map (Ex.ev x)).take j++O.drop j) }
theorem projected_it {R:Rng} {cs:List AV} {w:Int} (hY:Yc R cs w) (t:Tbl) (p:Pn) (ht:t.ok=true) (hn:1≤p.exprs.length) (hn2:p.exprs.length<100) (he:∀ e∈p.exprs,e.wf t.w=true) :
 callA CE 177 [.fn (.yield 0) [.own 0 0], .own 4 0, .own 5 0] [some (.loop R cs .ready),some (.box [.int w]),some (.box [.int 0, .nils]),some (.box [.nils]),some (.box [.i (.iref p.cells)]),some (.box [.i (.int t.w), .i (.isl (rowsL t.rows))])]=some (.tup [],itO R cs w [some (.box [.i (.iref p.cells)]),some (.box [.i (.int t.w), .i (.isl (rowsL t.rows))])] (t.rows.map fun r=>p.exprs.map (Ex.ev r))):=by
 obtain⟨rfl,-,-,c01,c11⟩:=hY
 obtain⟨ht1,ht2,ht3,-⟩:=(Tbl.ok_iff t).1 ht
 obtain⟨htw1,htw2⟩:=(okWidth_iff _).1 ht1
 have hb:16*(p.exprs.length:Int)≤281474976710656:=by omega
 have hb2:16*p.exprs.length≤281474976710656:=by omega
 have hn0:p.exprs.length≠0:=by omega
 have hn0':p.exprs≠[]:=fun e=>hn0 (by rw[e];rfl)
 rw[callA_eq rfl Tryz.func177 rfl rfl]
 have hrep:=valsL_repl p.exprs.length ⟨false,0⟩
 simp only at hrep
 have h0:PLX R [.own 1 0, .own 2 0, .own 3 0, .junk, .junk, .junk] w t p 0 (List.replicate p.exprs.length ⟨false,0⟩) (.int 0) (.int 0) .junk=PLX R [.own 1 0, .own 2 0, .own 3 0, .junk, .junk, .junk] w t p 0 (List.replicate p.exprs.length ⟨false,0⟩) (.int 0) (.int 0) .junk:=rfl
 conv at h0=>lhs;simp only[PLX,itB,hrep]
 rw[Pn.cells_eq p]at h0 ⊢
 simp[oId]at h0
 simp[hb,hb2]
 rw[h0]
 rw[← Pn.cells_eq p]
 clear h0
 generalize hX:execA CE _ _ (Code.loop _) _=X
 have key:∃ rr,X=some rr∧∃ (O:List Val) (x6 x7:IV),rr=(.exit 0,PLX R [.own 1 0, .own 2 0, .own 3 0, .junk, .junk, .junk] w t p t.rows.length O x6 x7 (.bool false)):=by
  rw[← hX]
  refine loop_wf (fun d St=>∃ (i:Nat) (O:List Val) (x6 x7:IV),St=PLX R [.own 1 0, .own 2 0, .own 3 0, .junk, .junk, .junk] w t p i O x6 x7 (jk i (.bool true))∧i≤t.rows.length∧O.length=p.exprs.length∧d=t.rows.length-i) ?_ _ _ ⟨0,_,_,_,rfl,by omega,by simp,rfl⟩
  rintro d St ⟨i,O,x6,x7,rfl,hiN,hO,hd⟩
  by_cases hi:i<t.rows.length
  ·left
   obtain⟨x,hx⟩:∃ x,t.rows[i]?=some x:=⟨_,List.getElem?_eq_getElem hi⟩
   have hxn:=rowsL_nth hx
   have hxo:=ht3 x (List.mem_of_getElem? hx)
   unfold rowOk at hxo
   simp only[Bool.and_eq_true,decide_eq_true_eq]at hxo
   have w3:IntKind.i64.wrap ((i:Int)+1)=i+1:=wrap64 (by omega) (by omega)
   obtain⟨Q0,hQ⟩:∃ Q0:AS→Prop,∀ S1,Q0 S1↔∃ (O':List Val) (x6 x7:IV),S1=PLX R [.own 1 0, .own 2 0, .own 3 0, .junk, .junk, .junk] w t p (i+1) O' x6 x7 (.bool true)∧O'.length=p.exprs.length:=⟨fun S1=>_,fun S1=>Iff.rfl⟩
   refine step_of Q0 ?_ (fun S1 hS1=>by
    obtain⟨O',x6,x7,rfl,e1⟩:=(hQ S1).1 hS1
    exact⟨t.rows.length-(i+1),by omega,i+1,O',x6,x7,rfl,by omega,e1,rfl⟩)
   simp only[PLX,itB,oId]
   rw[Pn.cells_eq p]
   have htk:(t.rows.take i).length=i:=by simp;omega
   have wj:∀ j:Nat,j<100→IntKind.i64.wrap ((j:Int)+1)=j+1:=fun j hj=>wrap64 (by omega) (by omega)
   have inner:∀ j,j<p.exprs.length→∃ e o,p.exprs[j]?=some e∧nthE (Ex.cellsL p.exprs) j=some e.cells∧lookV (callA C0) 176 [.i (.iref e.cells), .i (.isl (valsL x))] []=some (.i (.agg [.bool (e.ev x).null, .int (e.ev x).n]),[])∧nthE (valsL ((p.exprs.map (Ex.ev x)).take j++O.drop j)) j=some [.bool (Val.null o), .int (Val.n o)]∧(valsL ((p.exprs.map (Ex.ev x)).take j++O.drop j)).set j [.bool (e.ev x).null, .int (e.ev x).n]=valsL ((p.exprs.map (Ex.ev x)).take (j+1)++O.drop (j+1)):=by
    intro j hj
    have h3:=List.getElem?_eq_getElem hj
    obtain⟨q1,o,q2⟩:=half_row (x:=x) h3 hO
    exact⟨_,o,h3,Ex.cellsL_nth h3,lookV_value (w:=t.w) hxo.1.symm hxo.2 (he _ (List.mem_of_getElem? h3)),valsL_nth q2,by rw[valsL_set,q1]⟩
   have hT:(t.rows.take (i+1)).map (fun r=>p.exprs.map (Ex.ev r))=(t.rows.take i).map (fun r=>p.exprs.map (Ex.ev r))++[p.exprs.map (Ex.ev x)]:=by rw[take_snoc hx,List.map_append];rfl
   have hTl:(t.rows.take (i+1)).length=i+1:=by simp;omega
   have hmin:min i t.rows.length=i:=by omega
   have hmin2:min (i+1) t.rows.length=i+1:=by omega
   have htk2:(p.exprs.map (Ex.ev x)).take p.exprs.length=p.exprs.map (Ex.ev x):=List.take_of_length_le (by simp)
   have hdr:O.drop p.exprs.length=[]:=List.drop_eq_nil_of_le (by omega)
   have hr0:p.exprs.map (Ex.ev x)≠[]:=by simpa using hn0'
   by_cases hz:i=0
   ·have hy:=c01 (p.exprs.map (Ex.ev x)) hr0 (by simp;omega)
    simp at hy
    subst hz
    simp at hT
    simp[hi,hxn]
    rw[loop_to (PIX R [.own 1 0, .own 2 0, .own 3 0, .junk, .junk, .junk] w t p 0 x O x7) p.exprs.length (by simp[PIX,itB,oId,Pn.cells_eq p])]
    ·rw[execA_loop]
     simp[PIX,itB,oId,Pn.cells_eq p,htk2,hdr,hy,hn0,wrap_1]
     rw[hQ]
     refine⟨p.exprs.map (Ex.ev x), .isl (valsL x), .int ((p.exprs.length:Int)-1),?_,by simp⟩
     simp[PLX,itB,oId,Pn.cells_eq p,hT,hmin2,rowsL_cons,rowsL_nil]
    ·intro j hj
     obtain⟨e,o,q1,q2,q3,q4,q5⟩:=inner j hj
     have wjj:=wj j (by omega)
     rw[Ex.cells_eq e]at q2 q3
     by_cases hj0:j=0
     ·subst hj0
      simp at q4 q5
      simp[PIX,itB,oId,Pn.cells_eq p,hj,q2,q3,q4,q5,wrap_1]
     ·simp[PIX,itB,oId,Pn.cells_eq p,hj,q2,q3,q4,q5,wjj,hj0]
   ·have hy:=c11 (p.exprs.map (Ex.ev x)) i ((t.rows.take i).map fun r=>p.exprs.map (Ex.ev r)) hr0 (by simp;omega) (by simp;omega) hz (by omega)
    simp[List.map_take]at hy hT
    simp[hi,hxn,hz,hmin,gro_pos hz,groB_pos hz,jk_pos hz]
    rw[loop_to (PIX R [.own 1 0, .own 2 0, .own 3 0, .junk, .junk, .junk] w t p i x O x7) p.exprs.length (by simp[PIX,itB,oId,Pn.cells_eq p,hz,hmin,gro_pos hz,groB_pos hz,jk_pos hz])]
    ·rw[execA_loop]
     simp[PIX,itB,oId,Pn.cells_eq p,htk2,hdr,hy,hn0,w3,hz,hmin,gro_pos hz,groB_pos hz,jk_pos hz]
     rw[hQ]
     refine⟨p.exprs.map (Ex.ev x), .isl (valsL x), .int ((p.exprs.length:Int)-1),?_,by simp⟩
     simp[PLX,itB,oId,Pn.cells_eq p,hT,hmin,hmin2,rowsL_append,rowsL_cons,rowsL_nil]
    ·intro j hj
     obtain⟨e,o,q1,q2,q3,q4,q5⟩:=inner j hj
     have wjj:=wj j (by omega)
     rw[Ex.cells_eq e]at q2 q3
     by_cases hj0:j=0
     ·subst hj0
      simp at q4 q5
      simp[PIX,itB,oId,Pn.cells_eq p,hj,q2,q3,q4,q5,wrap_1,hz,hmin,gro_pos hz,groB_pos hz,jk_pos hz]
     ·simp[PIX,itB,oId,Pn.cells_eq p,hj,q2,q3,q4,q5,wjj,hj0,hz,hmin,gro_pos hz,groB_pos hz,jk_pos hz]
  ·right
   have hieq:i=t.rows.length:=by omega
   subst hieq
   refine⟨.exit 0,PLX R [.own 1 0, .own 2 0, .own 3 0, .junk, .junk, .junk] w t p t.rows.length O x6 x7 (.bool false),?_,by simp,O,x6,x7,rfl⟩
   simp only[PLX,itB,oId]
   rw[Pn.cells_eq p]
   by_cases hz:t.rows.length=0<;>simp[hz,gro_pos,groB_pos]
 obtain⟨rr,rfl,O,x6,x7,rfl⟩:=key
 simp only[PLX,itB,oId,itO]
 rw[Pn.cells_eq p]
 by_cases hz:t.rows.length=0<;>simp[hz,gro_pos,groB_pos]
theorem valsL_drop:∀ (n:Nat) (l:List Val),(valsL l).drop n=valsL (l.drop n)
 | 0,l=>rfl
 | n+1,[]=>rfl
 | n+1,v::l=>by simp only[valsL,List.drop_succ_cons];exact valsL_drop n l
theorem over_valsL (O s:List Val) (k:Nat):over (valsL O) k (valsL s)=valsL (O.take k++(s++O.drop (k+s.length))):=by
 unfold over
 rw[valsL_take,valsL_drop,valsL_length,valsL_append,valsL_append,List.append_assoc]
theorem over_first {O x:List Val} {A:Nat} (h:x.length=A):over (valsL O) 0 (valsL x)=valsL (x++O.drop A):=by
 rw[over_valsL];simp[h]
theorem over_second {O x s:List Val} {A:Nat} (h:x.length=A) (hO:O.length≤s.length):over (valsL (x++O)) A (valsL s)=valsL (x++s):=by
 rw[over_valsL,← h,List.take_left,List.drop_eq_nil_of_le (by simp;omega),List.append_nil]
theorem null_set {O x:List Val} {A B j:Nat} (h:x.length=A) (hO:O.length=B) (hj:j<B):(x++(List.replicate j (⟨true,0⟩:Val)++O.drop j)).set (A+j) ⟨true,0⟩=x++(List.replicate (j+1) (⟨true,0⟩:Val)++O.drop (j+1))∧∃ o,(x++(List.replicate j (⟨true,0⟩:Val)++O.drop j))[A+j]?=some o:=by
 have hd:O.drop j=O[j]'(by omega)::O.drop (j+1):=List.drop_eq_getElem_cons (by omega)
 have e:x++(List.replicate j (⟨true,0⟩:Val)++O.drop j)=(x++List.replicate j ⟨true,0⟩)++(O[j]'(by omega)::O.drop (j+1)):=by rw[hd,List.append_assoc]
 have hl:A+j=(x++List.replicate j (⟨true,0⟩:Val)).length:=by simp;omega
 rw[e]
 refine⟨?_,_,nth_mid _ _ _ hl⟩
 rw[set_mid _ _ _ _ hl,List.replicate_succ']
 simp
def jf (f:Nat→Nat×IV) (t:Nat):AV:=jk (f t).1 (f t).2
def JX (R:Rng) (cs:List AV) (w:Int) (a b:Tbl) (p:Pn) (W:Nat) (L:List (List Val)) (O:List Val) (i:Int) (f:Nat→Nat×IV):AS :=
 { env:=[(0, .fn (.yield 0) [.own 0 0]),(1, .own 4 0),(2, .own 5 0),(3, .own 6 0),(5, .osl (oId 7 L) 2 0 W),(7,jf f 7),(8,jf f 8),(10,jf f 10),(11,jf f 11),(19, .i (.isl (rowsL a.rows))),(20, .int a.rows.length),(21, .int i),(22,jf f 22),(29,jf f 29),(30,jf f 30),(31,jf f 31),(32,jf f 32),(49,jf f 49),(53,jf f 53),(62,jf f 62),(68,jf f 68),(78,jf f 78)],
   st:=itB R cs w [some (.box [.i (.int a.w), .i (.isl (rowsL a.rows))]),some (.box [.i (.int b.w), .i (.isl (rowsL b.rows))]),some (.box [.i (.iref p.cells)])] L O }
@[simp] theorem ce_null (a:List AV) (st:StL):callA CE 179 a st=callA C0 179 a st:=by
  rw[callA_prim (p:=callA CR 179) rfl,callA_prim (p:=callA C0 179) rfl]
theorem null_eq:callA C0 179 [] []=some (.i (.agg [.bool true, .int 0]),[]):=by
 rw[callA_eq rfl Tryz.func179 rfl rfl]
 simp
def NX (R:Rng) (cs:List AV) (w:Int) (a b:Tbl) (p:Pn) (A B:Nat) (L:List (List Val)) (x O2:List Val) (i:Int) (f:Nat→Nat×IV) (j:Nat):AS :=
 JX R cs w a b p (A+B) L (x++(List.replicate j ⟨true,0⟩++O2.drop j)) i (upd (upd (upd f 62 (1, .bool false)) 11 (1, .int ((A:Int)+j))) 68 (if j=0 then f 68 else(1, .bool true)))
theorem joined_it {R:Rng} {cs:List AV} {w:Int} (hY:Yc R cs w) (a b:Tbl) (p:Pn) (e:Ex) (hp:p.exprs[0]?=some e) (hk:p.kind=4∨p.kind=5) (ha:a.ok=true) (hb:b.ok=true) (he:e.wf (a.w+b.w)=true) (hN:(joinR e (decide (p.kind=5)) a b).length≤400) :
 callA CE 178 [.fn (.yield 0) [.own 0 0], .own 4 0, .own 5 0, .own 6 0] [some (.loop R cs .ready),some (.box [.int w]),some (.box [.int 0, .nils]),some (.box [.nils]),some (.box [.i (.int a.w), .i (.isl (rowsL a.rows))]),some (.box [.i (.int b.w), .i (.isl (rowsL b.rows))]),some (.box [.i (.iref p.cells)])]=some (.tup [],itO R cs w [some (.box [.i (.int a.w), .i (.isl (rowsL a.rows))]),some (.box [.i (.int b.w), .i (.isl (rowsL b.rows))]),some (.box [.i (.iref p.cells)])] (joinR e (decide (p.kind=5)) a b)):=by
 obtain⟨rfl,-,-,c01,c11⟩:=hY
 obtain⟨ha1,ha2,ha3,-⟩:=(Tbl.ok_iff a).1 ha
 obtain⟨haw1,haw2⟩:=(okWidth_iff _).1 ha1
 obtain⟨hb1,hb2,hb3,-⟩:=(Tbl.ok_iff b).1 hb
 obtain⟨hbw1,hbw2⟩:=(okWidth_iff _).1 hb1
 obtain⟨A,hA⟩:∃ A:Nat,a.w=A:=⟨a.w.toNat,by omega⟩
 obtain⟨B,hB⟩:∃ B:Nat,b.w=B:=⟨b.w.toNat,by omega⟩
 have hen:=Ex.cellsL_nth hp
 have hel:0<p.exprs.length:=(List.getElem?_eq_some_iff.1 hp).1
 have wAB:IntKind.i64.wrap ((A:Int)+B)=((A+B:Nat):Int):=by rw[wrap64 (by omega) (by omega)];omega
 have hbb:16*((A+B:Nat):Int)≤281474976710656:=by omega
 have hbb2:16*(A+B)≤281474976710656:=by omega
 have hbb3:16*((A:Int)+B)≤281474976710656:=by omega
 have hpos:(0:Int)≤(A:Int)+B:=by omega
 have htn:((A:Int)+B).toNat=A+B:=by omega
 have hAB:(A:Int)≤(A:Int)+B:=by omega
 have hrep:=valsL_repl (A+B) ⟨false,0⟩
 simp only at hrep
 rw[callA_eq rfl Tryz.func178 rfl rfl]
 rw[Pn.cells_eq p]
 simp[hA,hB,wAB,hbb,hbb2,hbb3,hpos,htn]
 generalize hX:execA CE _ _ (Code.loop _) _=X
 have hJl:∀ i x,a.rows[i]?=some x→(a.rows.take (i+1)).flatMap (joinL e (decide (p.kind=5)) b.w b.rows)=(a.rows.take i).flatMap (joinL e (decide (p.kind=5)) b.w b.rows)++joinL e (decide (p.kind=5)) b.w b.rows x∧((a.rows.take i).flatMap (joinL e (decide (p.kind=5)) b.w b.rows)).length+(joinL e (decide (p.kind=5)) b.w b.rows x).length≤400:=by
  intro i x hx
  have h1:(a.rows.take (i+1)).flatMap (joinL e (decide (p.kind=5)) b.w b.rows)=(a.rows.take i).flatMap (joinL e (decide (p.kind=5)) b.w b.rows)++joinL e (decide (p.kind=5)) b.w b.rows x:=by rw[take_snoc hx];simp
  refine⟨h1,?_⟩
  have h2:joinR e (decide (p.kind=5)) a b=(a.rows.take (i+1)).flatMap (joinL e (decide (p.kind=5)) b.w b.rows)++(a.rows.drop (i+1)).flatMap (joinL e (decide (p.kind=5)) b.w b.rows):=by
   rw[← List.flatMap_append,List.take_append_drop];rfl
  rw[h2,h1]at hN
  simp only[List.length_append]at hN
  omega
 have hfin:(a.rows.take a.rows.length).flatMap (joinL e (decide (p.kind=5)) b.w b.rows)=joinR e (decide (p.kind=5)) a b:=by rw[List.take_of_length_le (Nat.le_refl _)];rfl
 have key:∃ rr,X=some rr∧∃ (O:List Val) (f:Nat→Nat×IV),f 22=(1, .bool false)∧rr=(.exit 0,JX R [.own 1 0, .own 2 0, .own 3 0, .junk, .junk, .junk] w a b p (A+B) (joinR e (decide (p.kind=5)) a b) O a.rows.length f):=by
  rw[← hX]
  clear hX
  refine loop_wf (fun d St=>∃ (i:Nat) (O:List Val) (f:Nat→Nat×IV),St=JX R [.own 1 0, .own 2 0, .own 3 0, .junk, .junk, .junk] w a b p (A+B) ((a.rows.take i).flatMap (joinL e (decide (p.kind=5)) b.w b.rows)) O i f∧i≤a.rows.length∧O.length=A+B∧d=a.rows.length-i) ?_ _ _ ⟨0,List.replicate (A+B) ⟨false,0⟩,fun _=>(0, .int 0),by simp[JX,jf,itB,oId,hA,hB,hrep,rowsL_nil,Pn.cells_eq p],by omega,by simp,rfl⟩
  rintro d St ⟨i,O,f,rfl,hiN,hO,hd⟩
  by_cases hi:i<a.rows.length
  ·left
   obtain⟨x,hx⟩:∃ x,a.rows[i]?=some x:=⟨_,List.getElem?_eq_getElem hi⟩
   have hxn:=rowsL_nth hx
   have hxo:=ha3 x (List.mem_of_getElem? hx)
   unfold rowOk at hxo
   simp only[Bool.and_eq_true,decide_eq_true_eq]at hxo
   obtain⟨hJ1,hJ2⟩:=hJl i x hx
   have w3:IntKind.i64.wrap ((i:Int)+1)=i+1:=wrap64 (by omega) (by omega)
   obtain⟨Q0,hQ⟩:∃ Q0:AS→Prop,∀ S1,Q0 S1↔∃ (O:List Val) (f:Nat→Nat×IV),S1=JX R [.own 1 0, .own 2 0, .own 3 0, .junk, .junk, .junk] w a b p (A+B) ((a.rows.take (i+1)).flatMap (joinL e (decide (p.kind=5)) b.w b.rows)) O ((i:Int)+1) f∧O.length=A+B:=⟨fun S1=>_,fun S1=>Iff.rfl⟩
   refine step_of Q0 ?_ (fun S1 hS1=>by
    obtain⟨O',f',rfl,e1⟩:=(hQ S1).1 hS1
    exact⟨a.rows.length-(i+1),by omega,i+1,O',f',rfl,by omega,e1,rfl⟩)
   rw[hJ1]at hQ
   generalize (a.rows.take i).flatMap (joinL e (decide (p.kind=5)) b.w b.rows)=L at *
   have hxl:x.length=A:=by omega
   have hov1:=over_first (O:=O) hxl
   have hxt:List.take (A+B) x=x:=List.take_of_length_le (by omega)
   have hOl:A+B≤O.length:=by omega
   have htr:=fun r:List Val=>truthOf_eq (e.ev r).null (e.ev r).n
   obtain⟨O1,hO1,hO1l⟩:∃ O1,O1=O.drop A∧O1.length=B:=⟨_,rfl,by simp;omega⟩
   rw[← hO1]at hov1
   simp only[JX,itB,oId]
   rw[Pn.cells_eq p]
   have hMp:∀ j:Nat,(joinM e (b.rows.take j) x).length≤(joinL e (decide (p.kind=5)) b.w b.rows x).length:=by
    intro j
    have h1:(joinM e (b.rows.take j) x).length≤(joinM e b.rows x).length:=by
     have:joinM e b.rows x=joinM e (b.rows.take j) x++joinM e (b.rows.drop j) x:=by
      unfold joinM;rw[← List.filter_append,← List.map_append,List.take_append_drop]
     rw[this,List.length_append];omega
    refine Nat.le_trans h1 ?_
    unfold joinL
    split
    ·rename_i hc
     simp only[Bool.and_eq_true,List.isEmpty_iff]at hc
     rw[hc.2];simp
    ·exact Nat.le_refl _
   have round:∀ {G:List Nat} {na:Nat} {bd:Code} (f0:Nat→Nat×IV) (S0:AS) (h0:S0=JX R [.own 1 0, .own 2 0, .own 3 0, .junk, .junk, .junk] w a b p (A+B) L (x++O1) i f0) (h7:f0 7=(1, .isl (valsL x))) (h8:f0 8=(1, .bool false)) (h22:f0 22=(1, .bool true)) (h29:f0 29=(1, .isl (rowsL b.rows))) (h30:f0 30=(1, .int b.rows.length)) (h31:f0 31=(1, .int 0))
    (hstep:∀ (j:Nat) (s:List Val) (LL:List (List Val)) (O2:List Val) (f1:Nat→Nat×IV) (m:Bool),b.rows[j]?=some s→s.length=B→s.all Val.ok=true→O2.length=B→LL.length+(if isT e (x++s)=true then 1 else 0)≤400→f1 7=(1, .isl (valsL x))→f1 8=(1, .bool m)→f1 22=(1, .bool true)→f1 29=(1, .isl (rowsL b.rows))→f1 30=(1, .int b.rows.length)→f1 31=(1, .int j) →
     ∃ f2:Nat→Nat×IV,execA CE G na bd (JX R [.own 1 0, .own 2 0, .own 3 0, .junk, .junk, .junk] w a b p (A+B) LL (x++O2) i f1)=some (.normal,JX R [.own 1 0, .own 2 0, .own 3 0, .junk, .junk, .junk] w a b p (A+B) (LL++if isT e (x++s)=true then [x++s]else []) (x++s) i f2)∧f2 7=(1, .isl (valsL x))∧f2 8=(1, .bool (m || isT e (x++s)))∧f2 22=(1, .bool true)∧f2 29=(1, .isl (rowsL b.rows))∧f2 30=(1, .int b.rows.length)∧f2 31=(1, .int ((j:Int)+1)))
    (hlast:∀ (LL:List (List Val)) (O2:List Val) (f1:Nat→Nat×IV),f1 7=(1, .isl (valsL x))→f1 22=(1, .bool true)→f1 29=(1, .isl (rowsL b.rows))→f1 30=(1, .int b.rows.length)→f1 31=(1, .int b.rows.length)→execA CE G na bd (JX R [.own 1 0, .own 2 0, .own 3 0, .junk, .junk, .junk] w a b p (A+B) LL (x++O2) i f1)=some (.exit 2,JX R [.own 1 0, .own 2 0, .own 3 0, .junk, .junk, .junk] w a b p (A+B) LL (x++O2) i (upd f1 32 (1, .bool false)))),
    ∃ rr,execA CE G na (.loop bd) S0=some rr∧∃ (O2:List Val) (f1:Nat→Nat×IV),rr=(.exit 2,JX R [.own 1 0, .own 2 0, .own 3 0, .junk, .junk, .junk] w a b p (A+B) (L++joinM e b.rows x) (x++O2) i f1)∧O2.length=B∧f1 7=(1, .isl (valsL x))∧f1 8=(1, .bool (decide (joinM e b.rows x≠[])))∧f1 22=(1, .bool true):=by
    intro G na bd f0 S0 h0 h7 h8 h22 h29 h30 h31 hstep hlast
    subst h0
    refine loop_wf (fun d St=>∃ (j:Nat) (O2:List Val) (f1:Nat→Nat×IV),St=JX R [.own 1 0, .own 2 0, .own 3 0, .junk, .junk, .junk] w a b p (A+B) (L++joinM e (b.rows.take j) x) (x++O2) i f1∧O2.length=B∧j≤b.rows.length∧f1 7=(1, .isl (valsL x))∧f1 8=(1, .bool (decide (joinM e (b.rows.take j) x≠[])))∧f1 22=(1, .bool true)∧f1 29=(1, .isl (rowsL b.rows))∧f1 30=(1, .int b.rows.length)∧f1 31=(1, .int j)∧d=b.rows.length-j) ?_ _ _ ⟨0,O1,f0,by simp[joinM],hO1l,by omega,h7,by simp[h8,joinM],h22,h29,h30,h31,rfl⟩
    rintro d St ⟨j,O2,f1,rfl,hO2,hjM,g7,g8,g22,g29,g30,g31,hd⟩
    by_cases hj:j<b.rows.length
    ·left
     obtain⟨s,hs⟩:∃ s,b.rows[j]?=some s:=⟨_,List.getElem?_eq_getElem hj⟩
     have hso:=hb3 s (List.mem_of_getElem? hs)
     unfold rowOk at hso
     simp only[Bool.and_eq_true,decide_eq_true_eq]at hso
     have hsn:=joinM_snoc (e:=e) hs x
     have hlen:=hMp (j+1)
     rw[hsn]at hlen
     simp only[List.length_append]at hlen
     obtain⟨f2,k1,k7,k8,k22,k29,k30,k31⟩:=hstep j s (L++joinM e (b.rows.take j) x) O2 f1 _ hs (by omega) hso.2 hO2 (by
      rw[List.length_append]
      have:(if isT e (x++s)=true then [x++s]else []).length=if isT e (x++s)=true then 1 else 0:=by split<;>rfl
      omega) g7 g8 g22 g29 g30 g31
     refine⟨_,b.rows.length-(j+1),k1,by omega,j+1,s,f2,?_,by omega,by omega,k7,?_,k22,k29,k30,by rw[k31];rfl,rfl⟩
     ·rw[hsn,List.append_assoc]
     ·rw[k8,hsn]
      cases isT e (x++s)<;>simp
    ·right
     have hjeq:j=b.rows.length:=by omega
     subst hjeq
     rw[List.take_of_length_le (Nat.le_refl _)]at *
     exact⟨_,_,hlast _ _ _ g7 g22 g29 g30 g31,by simp,O2,_,rfl,hO2,by simp[upd,g7],by simp[upd,g8],by simp[upd,g22]⟩
   by_cases hz:L.length=0
   rotate_left
   ·simp[jf,hi,hxn,hov1,hxt,hOl,hz,gro_pos hz,groB_pos hz]
    generalize hY:execA CE _ _ (Code.loop _) _=Y
    have key2:∃ rr,Y=some rr∧∃ (O2:List Val) (f1:Nat→Nat×IV),rr=(.exit 2,JX R [.own 1 0, .own 2 0, .own 3 0, .junk, .junk, .junk] w a b p (A+B) (L++joinM e b.rows x) (x++O2) i f1)∧O2.length=B∧f1 7=(1, .isl (valsL x))∧f1 8=(1, .bool (decide (joinM e b.rows x≠[])))∧f1 22=(1, .bool true):=by
     rw[← hY]
     clear hY hQ
     refine round (upd (upd (upd (upd (upd (upd f 7 (1, .isl (valsL x))) 8 (1, .bool false)) 22 (1, .bool true)) 29 (1, .isl (rowsL b.rows))) 30 (1, .int b.rows.length)) 31 (1, .int 0)) _ ?_ (by simp[upd]) (by simp[upd]) (by simp[upd]) (by simp[upd]) (by simp[upd]) (by simp[upd]) ?_ ?_
     ·simp[JX,jf,itB,oId,Pn.cells_eq p,hz,gro_pos,groB_pos]
     ·intro j s LL O2 f1 m hs hsl hso hO2 hLL g7 g8 g22 g29 g30 g31
      have hjM:=(List.getElem?_eq_some_iff.1 hs).1
      have hsn:=rowsL_nth hs
      have hov2:=over_second (O:=O2) hxl (s:=s) (by omega)
      have hst:List.take (A+B-A) s=s:=List.take_of_length_le (by omega)
      have hst':List.take B s=s:=List.take_of_length_le (by omega)
      have hxsl:(x++s).length=A+B:=by simp;omega
      have hxO:(x++O2).length=A+B:=by simp;omega
      have hxO':x.length+O2.length=A+B:=by omega
      have hxsl':x.length+s.length=A+B:=by omega
      have hxs0:x++s≠[]:=fun e=>by rw[e]at hxsl;simp at hxsl;omega
      have hv:=lookV_own (e:=e) (row:=x++s) (w:=a.w+b.w) (by rw[hxsl];omega) hxs0 (by rw[List.all_append,hxo.2,hso];rfl) he
      rw[hxsl]at hv
      have ht:=htr (x++s)
      have w4:IntKind.i64.wrap ((j:Int)+1)=j+1:=wrap64 (by omega) (by omega)
      rw[Ex.cells_eq e]at hv hen
      by_cases hT:isT e (x++s)=true
      ·have htr2:(e.ev (x++s)).tr=2:=by simpa [isT]using hT
       simp only[hT,if_true]at hLL ⊢
       generalize (e.ev (x++s))=V at *
       refine⟨upd (upd (upd (upd (upd (upd f1 8 (1, .bool true)) 10 (1, .isl (valsL s))) 31 (1, .int ((j:Int)+1))) 32 (1, .bool true)) 49 (1, .bool false)) 53 (1, .bool false),?_,by simp[upd,g7],by simp[upd],by simp[upd,g22],by simp[upd,g29],by simp[upd,g30],by simp[upd]⟩
       by_cases hzL:LL.length=0
       ·have hy:=c01 (x++s) hxs0 (by omega)
        rw[hxsl]at hy
        have hLn:LL=[]:=List.length_eq_zero_iff.1 hzL
        subst hLn
        simp[JX,jf,itB,oId,Pn.cells_eq p,g7,g8,g22,g29,g30,g31,hjM,hsn,hA,hAB,hov2,hst,hst',hxO',hen,hel,hv,ht,w4,htr2,hy,rowsL_append,rowsL_cons,rowsL_nil]
       ·have hy:=c11 (x++s) _ LL hxs0 (by omega) rfl hzL (by omega)
        rw[hxsl]at hy
        simp[JX,jf,itB,oId,Pn.cells_eq p,g7,g8,g22,g29,g30,g31,hjM,hsn,hA,hAB,hov2,hst,hst',hxO',hen,hel,hv,ht,w4,htr2,hy,hzL,gro_pos hzL,groB_pos hzL,rowsL_append,rowsL_cons,rowsL_nil]
      ·have hT':isT e (x++s)=false:=by simpa using hT
       have htr2:¬ (e.ev (x++s)).tr=2:=by simpa [isT]using hT
       simp only[hT',Bool.false_eq_true,if_false,List.append_nil,Bool.or_false]at hLL ⊢
       generalize (e.ev (x++s))=V at *
       refine⟨upd (upd (upd (upd f1 10 (1, .isl (valsL s))) 31 (1, .int ((j:Int)+1))) 32 (1, .bool true)) 49 (1, .bool true),?_,by simp[upd,g7],by simp[upd,g8],by simp[upd,g22],by simp[upd,g29],by simp[upd,g30],by simp[upd]⟩
       by_cases hzL:LL.length=0
       ·simp[JX,jf,itB,oId,Pn.cells_eq p,g7,g8,g22,g29,g30,g31,hjM,hsn,hA,hAB,hov2,hst,hst',hxO',hen,hel,hv,ht,w4,htr2,hzL]
       ·simp[JX,jf,itB,oId,Pn.cells_eq p,g7,g8,g22,g29,g30,g31,hjM,hsn,hA,hAB,hov2,hst,hst',hxO',hen,hel,hv,ht,w4,htr2,hzL,gro_pos hzL,groB_pos hzL]
     ·intro LL O2 f1 g7 g22 g29 g30 g31
      by_cases hzL:LL.length=0
      ·simp[JX,jf,itB,oId,Pn.cells_eq p,g7,g22,g29,g30,g31,hzL]
      ·simp[JX,jf,itB,oId,Pn.cells_eq p,g7,g22,g29,g30,g31,hzL,gro_pos hzL,groB_pos hzL]
    clear hY round
    obtain⟨rr,rfl,O2,f1,rfl,hO2,g7,g8,g22⟩:=key2
    have hxO:x.length+O2.length=A+B:=by omega
    have hxO2:(x++O2).length=A+B:=by simp;omega
    by_cases hm:joinM e b.rows x=[]
    ·by_cases h4:p.kind=4
     ·have hJ0:joinL e (decide (p.kind=5)) b.w b.rows x=[]:=by simp[joinL,h4,hm]
      rw[hJ0]at hQ
      simp[JX,jf,itB,oId,Pn.cells_eq p,g7,g8,g22,hm,h4,w3,hz,gro_pos,groB_pos]
      rw[hQ]
      refine⟨x++O2,upd f1 62 (1, .bool true),?_,hxO2⟩
      simp[JX,jf,itB,oId,Pn.cells_eq p,g7,g8,g22,hm,h4,hz,gro_pos,groB_pos]
     ·have h5:p.kind=5:=hk.resolve_left h4
      have hJ0:joinL e (decide (p.kind=5)) b.w b.rows x=[x++List.replicate B ⟨true,0⟩]:=by simp[joinL,h5,hm,nullsV,hB]
      rw[hJ0]at hQ hJ2
      simp only[List.length_singleton]at hJ2
      simp[JX,jf,itB,oId,Pn.cells_eq p,g7,g8,g22,hm,h5,w3,hz,gro_pos,groB_pos,hA]
      rw[loop_to (NX R [.own 1 0, .own 2 0, .own 3 0, .junk, .junk, .junk] w a b p A B L x O2 i f1) B (by simp[NX,JX,jf,itB,oId,Pn.cells_eq p,g7,g8,g22,hm,h5,hz,gro_pos,groB_pos,hA])]
      ·rw[execA_loop]
       have hdr:O2.drop B=[]:=List.drop_eq_nil_of_le (by omega)
       have hrl:(x++List.replicate B (⟨true,0⟩:Val)).length=A+B:=by simp;omega
       have hr0:x++List.replicate B (⟨true,0⟩:Val)≠[]:=fun e=>by rw[e]at hrl;simp at hrl;omega
       have hB0:B≠0:=by omega
       have nlt:¬ (A:Int)+B<(A:Int)+B:=by omega
       have hy:=c11 (x++List.replicate B ⟨true,0⟩) _ L hr0 (by omega) rfl hz (by omega)
       rw[hrl]at hy
       simp[NX,JX,jf,itB,oId,Pn.cells_eq p,g7,g8,g22,hm,hz,gro_pos,groB_pos,hA,hdr,hy,hB0,nlt,w3]
       rw[hQ]
       refine⟨x++List.replicate B ⟨true,0⟩,upd (upd (upd (upd f1 62 (1, .bool false)) 11 (1, .int ((A:Int)+B))) 68 (1, .bool false)) 78 (1, .bool false),?_,hrl⟩
       simp[JX,jf,itB,oId,Pn.cells_eq p,g7,g8,g22,hm,hz,gro_pos,groB_pos,hA,rowsL_append,rowsL_cons,rowsL_nil]
      ·intro j hj
       obtain⟨q1,o,q2⟩:=null_set (O:=O2) hxl hO2 hj
       have q3:=valsL_nth q2
       have q4:(valsL (x++(List.replicate j ⟨true,0⟩++O2.drop j))).set (A+j) [.bool true, .int 0]=valsL (x++(List.replicate (j+1) ⟨true,0⟩++O2.drop (j+1))):=by
        have:=valsL_set (x++(List.replicate j ⟨true,0⟩++O2.drop j)) (A+j) ⟨true,0⟩
        simp only at this
        rw[this,q1]
       have w5:IntKind.i64.wrap ((A:Int)+j+1)=(A:Int)+(j+1):=by rw[wrap64 (by omega) (by omega)];omega
       have k0:0≤(A:Int)+j:=by omega
       have k1:(A:Int)+j<(A:Int)+B:=by omega
       have k2:((A:Int)+j).toNat=A+j:=by omega
       have k3:A+j<A+B:=by omega
       have w50:IntKind.i64.wrap ((A:Int)+1)=(A:Int)+1:=wrap64 (by omega) (by omega)
       by_cases hj0:j=0
       ·subst hj0
        simp at q3 q4 k1 k3
        have k1:(A:Int)<(A:Int)+B:=by omega
        have k3:A<A+B:=by omega
        simp[NX,JX,jf,itB,oId,Pn.cells_eq p,g7,g8,g22,hm,hz,gro_pos,groB_pos,hA,null_eq,hj,q3,q4,w50,k1,k3]
        done
       ·simp[NX,JX,jf,itB,oId,Pn.cells_eq p,g7,g8,g22,hm,hz,gro_pos,groB_pos,hA,null_eq,hj,hj0,q3,q4,w5,k0,k1,k2,k3]
        done
    ·have hJ0:joinL e (decide (p.kind=5)) b.w b.rows x=joinM e b.rows x:=by
      unfold joinL
      rw[if_neg]
      simp[hm]
     rw[hJ0]at hQ
     have hzM:¬ (L++joinM e b.rows x).length=0:=fun e=>hm (by have:=List.length_eq_zero_iff.1 e;simp at this;exact this.2)
     generalize L++joinM e b.rows x=LM at *
     simp[JX,jf,itB,oId,Pn.cells_eq p,g7,g8,g22,hm,w3,hzM,gro_pos hzM,groB_pos hzM]
     rw[hQ]
     refine⟨x++O2,upd f1 62 (1, .bool true),?_,hxO2⟩
     simp[JX,jf,itB,oId,Pn.cells_eq p,g7,g8,g22,hm,hzM,gro_pos hzM,groB_pos hzM]
   ·simp[jf,hi,hxn,hov1,hxt,hOl,hz]
    generalize hY:execA CE _ _ (Code.loop _) _=Y
    have key2:∃ rr,Y=some rr∧∃ (O2:List Val) (f1:Nat→Nat×IV),rr=(.exit 2,JX R [.own 1 0, .own 2 0, .own 3 0, .junk, .junk, .junk] w a b p (A+B) (L++joinM e b.rows x) (x++O2) i f1)∧O2.length=B∧f1 7=(1, .isl (valsL x))∧f1 8=(1, .bool (decide (joinM e b.rows x≠[])))∧f1 22=(1, .bool true):=by
     rw[← hY]
     clear hY hQ
     refine round (upd (upd (upd (upd (upd (upd f 7 (1, .isl (valsL x))) 8 (1, .bool false)) 22 (1, .bool true)) 29 (1, .isl (rowsL b.rows))) 30 (1, .int b.rows.length)) 31 (1, .int 0)) _ ?_ (by simp[upd]) (by simp[upd]) (by simp[upd]) (by simp[upd]) (by simp[upd]) (by simp[upd]) ?_ ?_
     ·simp[JX,jf,itB,oId,Pn.cells_eq p,hz,gro_pos,groB_pos]
     ·intro j s LL O2 f1 m hs hsl hso hO2 hLL g7 g8 g22 g29 g30 g31
      have hjM:=(List.getElem?_eq_some_iff.1 hs).1
      have hsn:=rowsL_nth hs
      have hov2:=over_second (O:=O2) hxl (s:=s) (by omega)
      have hst:List.take (A+B-A) s=s:=List.take_of_length_le (by omega)
      have hst':List.take B s=s:=List.take_of_length_le (by omega)
      have hxsl:(x++s).length=A+B:=by simp;omega
      have hxO:(x++O2).length=A+B:=by simp;omega
      have hxO':x.length+O2.length=A+B:=by omega
      have hxsl':x.length+s.length=A+B:=by omega
      have hxs0:x++s≠[]:=fun e=>by rw[e]at hxsl;simp at hxsl;omega
      have hv:=lookV_own (e:=e) (row:=x++s) (w:=a.w+b.w) (by rw[hxsl];omega) hxs0 (by rw[List.all_append,hxo.2,hso];rfl) he
      rw[hxsl]at hv
      have ht:=htr (x++s)
      have w4:IntKind.i64.wrap ((j:Int)+1)=j+1:=wrap64 (by omega) (by omega)
      rw[Ex.cells_eq e]at hv hen
      by_cases hT:isT e (x++s)=true
      ·have htr2:(e.ev (x++s)).tr=2:=by simpa [isT]using hT
       simp only[hT,if_true]at hLL ⊢
       generalize (e.ev (x++s))=V at *
       refine⟨upd (upd (upd (upd (upd (upd f1 8 (1, .bool true)) 10 (1, .isl (valsL s))) 31 (1, .int ((j:Int)+1))) 32 (1, .bool true)) 49 (1, .bool false)) 53 (1, .bool false),?_,by simp[upd,g7],by simp[upd],by simp[upd,g22],by simp[upd,g29],by simp[upd,g30],by simp[upd]⟩
       by_cases hzL:LL.length=0
       ·have hy:=c01 (x++s) hxs0 (by omega)
        rw[hxsl]at hy
        have hLn:LL=[]:=List.length_eq_zero_iff.1 hzL
        subst hLn
        simp[JX,jf,itB,oId,Pn.cells_eq p,g7,g8,g22,g29,g30,g31,hjM,hsn,hA,hAB,hov2,hst,hst',hxO',hen,hel,hv,ht,w4,htr2,hy,rowsL_append,rowsL_cons,rowsL_nil]
       ·have hy:=c11 (x++s) _ LL hxs0 (by omega) rfl hzL (by omega)
        rw[hxsl]at hy
        simp[JX,jf,itB,oId,Pn.cells_eq p,g7,g8,g22,g29,g30,g31,hjM,hsn,hA,hAB,hov2,hst,hst',hxO',hen,hel,hv,ht,w4,htr2,hy,hzL,gro_pos hzL,groB_pos hzL,rowsL_append,rowsL_cons,rowsL_nil]
      ·have hT':isT e (x++s)=false:=by simpa using hT
       have htr2:¬ (e.ev (x++s)).tr=2:=by simpa [isT]using hT
       simp only[hT',Bool.false_eq_true,if_false,List.append_nil,Bool.or_false]at hLL ⊢
       generalize (e.ev (x++s))=V at *
       refine⟨upd (upd (upd (upd f1 10 (1, .isl (valsL s))) 31 (1, .int ((j:Int)+1))) 32 (1, .bool true)) 49 (1, .bool true),?_,by simp[upd,g7],by simp[upd,g8],by simp[upd,g22],by simp[upd,g29],by simp[upd,g30],by simp[upd]⟩
       by_cases hzL:LL.length=0
       ·simp[JX,jf,itB,oId,Pn.cells_eq p,g7,g8,g22,g29,g30,g31,hjM,hsn,hA,hAB,hov2,hst,hst',hxO',hen,hel,hv,ht,w4,htr2,hzL]
       ·simp[JX,jf,itB,oId,Pn.cells_eq p,g7,g8,g22,g29,g30,g31,hjM,hsn,hA,hAB,hov2,hst,hst',hxO',hen,hel,hv,ht,w4,htr2,hzL,gro_pos hzL,groB_pos hzL]
     ·intro LL O2 f1 g7 g22 g29 g30 g31
      by_cases hzL:LL.length=0
      ·simp[JX,jf,itB,oId,Pn.cells_eq p,g7,g22,g29,g30,g31,hzL]
      ·simp[JX,jf,itB,oId,Pn.cells_eq p,g7,g22,g29,g30,g31,hzL,gro_pos hzL,groB_pos hzL]
    clear hY round
    obtain⟨rr,rfl,O2,f1,rfl,hO2,g7,g8,g22⟩:=key2
    have hxO:x.length+O2.length=A+B:=by omega
    have hxO2:(x++O2).length=A+B:=by simp;omega
    by_cases hm:joinM e b.rows x=[]
    ·by_cases h4:p.kind=4
     ·have hJ0:joinL e (decide (p.kind=5)) b.w b.rows x=[]:=by simp[joinL,h4,hm]
      rw[hJ0]at hQ
      simp[JX,jf,itB,oId,Pn.cells_eq p,g7,g8,g22,hm,h4,w3,hz,gro_pos,groB_pos]
      rw[hQ]
      refine⟨x++O2,upd f1 62 (1, .bool true),?_,hxO2⟩
      simp[JX,jf,itB,oId,Pn.cells_eq p,g7,g8,g22,hm,h4,hz,gro_pos,groB_pos]
     ·have h5:p.kind=5:=hk.resolve_left h4
      have hJ0:joinL e (decide (p.kind=5)) b.w b.rows x=[x++List.replicate B ⟨true,0⟩]:=by simp[joinL,h5,hm,nullsV,hB]
      rw[hJ0]at hQ hJ2
      simp only[List.length_singleton]at hJ2
      simp[JX,jf,itB,oId,Pn.cells_eq p,g7,g8,g22,hm,h5,w3,hz,gro_pos,groB_pos,hA]
      rw[loop_to (NX R [.own 1 0, .own 2 0, .own 3 0, .junk, .junk, .junk] w a b p A B L x O2 i f1) B (by simp[NX,JX,jf,itB,oId,Pn.cells_eq p,g7,g8,g22,hm,h5,hz,gro_pos,groB_pos,hA])]
      ·rw[execA_loop]
       have hdr:O2.drop B=[]:=List.drop_eq_nil_of_le (by omega)
       have hrl:(x++List.replicate B (⟨true,0⟩:Val)).length=A+B:=by simp;omega
       have hr0:x++List.replicate B (⟨true,0⟩:Val)≠[]:=fun e=>by rw[e]at hrl;simp at hrl;omega
       have hB0:B≠0:=by omega
       have nlt:¬ (A:Int)+B<(A:Int)+B:=by omega
       have hy:=c01 (x++List.replicate B ⟨true,0⟩) hr0 (by omega)
       rw[hrl]at hy
       have hLn:L=[]:=List.length_eq_zero_iff.1 hz
       rw[hLn]at hQ ⊢
       simp[NX,JX,jf,itB,oId,Pn.cells_eq p,g7,g8,g22,hm,hA,hdr,hy,hB0,nlt,w3]
       rw[hQ]
       refine⟨x++List.replicate B ⟨true,0⟩,upd (upd (upd (upd f1 62 (1, .bool false)) 11 (1, .int ((A:Int)+B))) 68 (1, .bool false)) 78 (1, .bool false),?_,hrl⟩
       simp[JX,jf,itB,oId,Pn.cells_eq p,g7,g8,g22,hm,hA,rowsL_append,rowsL_cons,rowsL_nil]
      ·intro j hj
       obtain⟨q1,o,q2⟩:=null_set (O:=O2) hxl hO2 hj
       have q3:=valsL_nth q2
       have q4:(valsL (x++(List.replicate j ⟨true,0⟩++O2.drop j))).set (A+j) [.bool true, .int 0]=valsL (x++(List.replicate (j+1) ⟨true,0⟩++O2.drop (j+1))):=by
        have:=valsL_set (x++(List.replicate j ⟨true,0⟩++O2.drop j)) (A+j) ⟨true,0⟩
        simp only at this
        rw[this,q1]
       have w5:IntKind.i64.wrap ((A:Int)+j+1)=(A:Int)+(j+1):=by rw[wrap64 (by omega) (by omega)];omega
       have k0:0≤(A:Int)+j:=by omega
       have k1:(A:Int)+j<(A:Int)+B:=by omega
       have k2:((A:Int)+j).toNat=A+j:=by omega
       have k3:A+j<A+B:=by omega
       have w50:IntKind.i64.wrap ((A:Int)+1)=(A:Int)+1:=wrap64 (by omega) (by omega)
       by_cases hj0:j=0
       ·subst hj0
        simp at q3 q4 k1 k3
        have k1:(A:Int)<(A:Int)+B:=by omega
        have k3:A<A+B:=by omega
        simp[NX,JX,jf,itB,oId,Pn.cells_eq p,g7,g8,g22,hm,hz,gro_pos,groB_pos,hA,null_eq,hj,q3,q4,w50,k1,k3]
        done
       ·simp[NX,JX,jf,itB,oId,Pn.cells_eq p,g7,g8,g22,hm,hz,gro_pos,groB_pos,hA,null_eq,hj,hj0,q3,q4,w5,k0,k1,k2,k3]
        done
    ·have hJ0:joinL e (decide (p.kind=5)) b.w b.rows x=joinM e b.rows x:=by
      unfold joinL
      rw[if_neg]
      simp[hm]
     rw[hJ0]at hQ
     have hzM:¬ (L++joinM e b.rows x).length=0:=fun e=>hm (by have:=List.length_eq_zero_iff.1 e;simp at this;exact this.2)
     generalize L++joinM e b.rows x=LM at *
     simp[JX,jf,itB,oId,Pn.cells_eq p,g7,g8,g22,hm,w3,hzM,gro_pos hzM,groB_pos hzM]
     rw[hQ]
     refine⟨x++O2,upd f1 62 (1, .bool true),?_,hxO2⟩
     simp[JX,jf,itB,oId,Pn.cells_eq p,g7,g8,g22,hm,hzM,gro_pos hzM,groB_pos hzM]
  ·right
   have hieq:i=a.rows.length:=by omega
   subst hieq
   refine⟨.exit 0,JX R [.own 1 0, .own 2 0, .own 3 0, .junk, .junk, .junk] w a b p (A+B) (joinR e (decide (p.kind=5)) a b) O a.rows.length (upd f 22 (1, .bool false)),?_,by simp,O,_,by simp[upd],rfl⟩
   rw[hfin]
   simp only[JX,itB,oId]
   rw[Pn.cells_eq p]
   generalize joinR e (decide (p.kind=5)) a b=L
   by_cases hz:L.length=0<;>simp[jf,hz,gro_pos,groB_pos]
 obtain⟨rr,rfl,O,f,hf,rfl⟩:=key
 simp only[JX,itB,oId,itO]
 rw[Pn.cells_eq p]
 generalize joinR e (decide (p.kind=5)) a b=L
 by_cases hz:L.length=0<;>simp[jf,hf,hz,gro_pos,groB_pos,hA,hB]
@[simp] theorem ce_picked (a:List AV) (st:StL):callA CE 182 a st=callA C0 182 a st:=by
  rw[callA_prim (p:=callA CR 182) rfl,callA_prim (p:=callA C0 182) rfl]
@[simp] theorem ce_number (a:List AV) (st:StL):callA CE 183 a st=callA C0 183 a st:=by
  rw[callA_prim (p:=callA CR 183) rfl,callA_prim (p:=callA C0 183) rfl]
@[simp] theorem ce_groupsOf (a:List AV) (st:StL):callA CE 181 a st=groupsP a st:=by
  rw[callA_prim (p:=groupsP) rfl]
theorem number_eq (n:Int):callA C0 183 [.int n] []=some (.i (.agg [.bool false, .int n]),[]):=by
 rw[callA_eq rfl Tryz.func183 rfl rfl]
 simp
noncomputable def grsP (cs:List Int) (rows:List (List Val)):List (List (List Val)):=runs cs (stS cs rows)
theorem groupsP_all (w:Int) {cs:List Int} {rows:List (List Val)} (h:GOk cs rows):groupsP [.i (.agg [.int w, .isl (rowsL rows)]), .i (.isl (intsL cs))] []=some (.i (.isl (grpsL (grsP cs rows))),[]):=by
 by_cases h0:rows=[]
 ·subst h0
  have h1:=(stS_spec h).2.1.length_eq
  have:stS cs []=[]:=List.length_eq_zero_iff.1 h1
  unfold grsP
  rw[this];rfl
 ·exact groupsP_some h0 h
theorem grsP_ne {cs:List Int} {rows:List (List Val)} (h:GOk cs rows):(∀ g∈grsP cs rows,g≠[]∧g.length<1000000∧∀ r∈g,r∈rows)∧(grsP cs rows).length≤rows.length:=by
 obtain⟨k1,k2,k3⟩:=stS_spec h
 obtain⟨f1,f2,f3⟩:=runs_flat cs _ (stS cs rows) rfl
 have f4:∀ g∈grsP cs rows,∀ r∈g,r∈rows:=fun g hg r hr=>by
  have:r∈(runs cs (stS cs rows)).flatten:=List.mem_flatten.2 ⟨g,hg,hr⟩
  rw[f1]at this
  exact k2.mem_iff.1 this
 refine⟨fun g hg=>⟨?_,?_,f4 g hg⟩,by rw[← k2.length_eq];exact f3⟩
 ·have gen:∀ (n:Nat) (l:List (List Val)),l.length=n→∀ g∈runs cs l,g≠[]:=by
   intro n
   induction n with
   | zero=>intro l hl g hg;have:l=[]:=List.length_eq_zero_iff.1 hl
           subst this;simp[runs]at hg
   | succ n ih =>
    intro l hl g hg
    have hne:l≠[]:=fun e=>by subst e;simp at hl
    obtain⟨l',x,rfl⟩:∃ l' x,l=l'++[x]:=⟨l.dropLast,l.getLast hne,(List.dropLast_concat_getLast hne).symm⟩
    have ih':=ih l' (by simpa using hl)
    rw[runs_snoc]at hg
    cases hp:l'.getLast? with
    | none =>
     rw[hp]at hg
     simp only[List.mem_append,List.mem_singleton]at hg
     rcases hg with hg|rfl
     ·exact ih' g hg
     ·simp
    | some q =>
     rw[hp]at hg
     dsimp only at hg
     split at hg
     ·simp only[List.mem_append,List.mem_singleton]at hg
      rcases hg with hg|rfl
      ·exact ih' g (List.dropLast_subset _ hg)
      ·simp
     ·simp only[List.mem_append,List.mem_singleton]at hg
      rcases hg with hg|rfl
      ·exact ih' g hg
      ·simp
  exact gen _ _ rfl g hg
 ·have:=mem_len hg
  rw[show(grsP cs rows).flatten=stS cs rows from f1,k2.length_eq]at this
  have:=h.1
  omega
noncomputable def GRX (R:Rng) (cs:List AV) (w:Int) (t:Tbl) (p:Pn) (i:Nat):AS :=
 { env:=[(0, .fn (.yield 0) [.own 0 0]),(1, .own 4 0),(2, .own 5 0),(5,jk i (.isl (rowsL (((grsP p.cols t.rows)[i-1]?).getD [])))),(11, .i (.isl (grpsL (grsP p.cols t.rows)))),(12, .int (grsP p.cols t.rows).length),(13, .int i),(14,jk i (.bool true)),(32,jk i (.bool false))],st:=itO R cs w [some (.box [.i (.int t.w), .i (.isl (rowsL t.rows))]),some (.box [.i (.iref p.cells)])] (((grsP p.cols t.rows).take i).map fun g=>numRow (pairG p.cols g)) }
theorem grouped_it {R:Rng} {cs:List AV} {w:Int} (hY:Yc R cs w) (t:Tbl) (p:Pn) (ht:t.ok=true) (hc:p.cols.length<100) (hcr:∀ c∈p.cols,0≤c∧c<t.w) :
 callA CE 180 [.fn (.yield 0) [.own 0 0], .own 4 0, .own 5 0] [some (.loop R cs .ready),some (.box [.int w]),some (.box [.int 0, .nils]),some (.box [.nils]),some (.box [.i (.int t.w), .i (.isl (rowsL t.rows))]),some (.box [.i (.iref p.cells)])]=some (.tup [],itO R cs w [some (.box [.i (.int t.w), .i (.isl (rowsL t.rows))]),some (.box [.i (.iref p.cells)])] ((grsP p.cols t.rows).map fun g=>numRow (pairG p.cols g))):=by
 obtain⟨rfl,-,-,c01,c11⟩:=hY
 obtain⟨ht1,ht2,ht3,-⟩:=(Tbl.ok_iff t).1 ht
 obtain⟨htw1,htw2⟩:=(okWidth_iff _).1 ht1
 have hrw:∀ r∈t.rows,(r.length:Int)=t.w:=fun r hr=>by
  have:=ht3 r hr
  unfold rowOk at this
  simp only[Bool.and_eq_true,decide_eq_true_eq]at this
  exact this.1
 have hok:GOk p.cols t.rows:=⟨by omega,by omega,fun r hr c hc=>by have:=hcr c hc;have:=hrw r hr;omega⟩
 have hg:=groupsP_all t.w hok
 obtain⟨hgn,hgl⟩:=grsP_ne hok
 rw[callA_eq rfl Tryz.func180 rfl rfl]
 rw[Pn.cells_eq p]
 simp[hg]
 rw[loop_to (GRX R [.own 1 0, .own 2 0, .own 3 0, .junk, .junk, .junk] w t p) (grsP p.cols t.rows).length (by simp[GRX,itO,Pn.cells_eq p])]
 ·rw[execA_loop]
  simp only[GRX,itO]
  rw[Pn.cells_eq p]
  generalize grsP p.cols t.rows=gs at *
  have e1:gs.take gs.length=gs:=List.take_of_length_le (by simp)
  by_cases hz:gs.length=0<;>simp[hz,e1,gro_pos,groB_pos]
 ·intro i hi
  simp only[GRX,itO]
  rw[Pn.cells_eq p]
  generalize grsP p.cols t.rows=gs at *
  obtain⟨g,hx⟩:∃ g,gs[i]?=some g:=⟨_,List.getElem?_eq_getElem hi⟩
  have hxn:=grpsL_nth hx
  obtain⟨_,hgg⟩:=List.getElem?_eq_some_iff.1 hx
  obtain⟨hg0,hg1,hg2⟩:=hgn g (List.mem_of_getElem? hx)
  obtain⟨r,g',rfl⟩:=List.exists_cons_of_ne_nil hg0
  have hrl:=hrw r (hg2 r (by simp))
  have hpk:=picked_eq r p.cols (by omega) fun c hc=>by have:=hcr c hc;omega
  have hnm:=number_eq ((g'.length:Int)+1)
  have hnr:numRow (pairG p.cols (r::g'))=pickV p.cols r++[⟨false,((g'.length:Int)+1)⟩]:=by simp[numRow,pairG]
  have hpl:(pickV p.cols r).length=p.cols.length:=by simp[pickV]
  have hT:(gs.take (i+1)).map (fun g=>numRow (pairG p.cols g))=(gs.take i).map (fun g=>numRow (pairG p.cols g))++[numRow (pairG p.cols (r::g'))]:=by rw[take_snoc hx,List.map_append];rfl
  rw[hnr]at hT
  have hvs:valsL (pickV p.cols r++[⟨false,((g'.length:Int)+1)⟩])=valsL (pickV p.cols r)++[[.bool false, .int ((g'.length:Int)+1)]]:=valsL_snoc _ _
  have hrl2:(pickV p.cols r++[(⟨false,((g'.length:Int)+1)⟩:Val)]).length=p.cols.length+1:=by simp[pickV]
  have htk:(valsL (pickV p.cols r)).take p.cols.length=valsL (pickV p.cols r):=List.take_of_length_le (by simp[pickV])
  have htk2:(pickV p.cols r).take p.cols.length=pickV p.cols r:=List.take_of_length_le (by simp[pickV])
  have hr0:pickV p.cols r++[(⟨false,((g'.length:Int)+1)⟩:Val)]≠[]:=by simp
  have hbb:(p.cols.length+1)*16≤140737488355328:=by omega
  have w3:IntKind.i64.wrap ((i:Int)+1)=i+1:=wrap64 (by omega) (by omega)
  simp only[List.map_take]at hT ⊢
  have hmin:min i gs.length=i:=by omega
  have hmin2:min (i+1) gs.length=i+1:=by omega
  have hDl:(List.take i (gs.map fun g=>numRow (pairG p.cols g))).length=i:=by simp;omega
  generalize List.take i (gs.map fun g=>numRow (pairG p.cols g))=D at *
  by_cases hc0:p.cols.length=0
  ·have hcn:p.cols=[]:=List.length_eq_zero_iff.1 hc0
   have hp0:pickV p.cols r=[]:=by rw[hcn];rfl
   rw[hp0]at hT hvs hr0 hrl2
   rw[hc0]at hrl2
   rw[hcn]at hpk
   rw[hcn]at hT
   have hv1:valsL [(⟨false,(g'.length:Int)+1⟩:Val)]=[[.bool false, .int ((g'.length:Int)+1)]]:=rfl
   simp[intsL,valsL,pickV]at hpk
   simp only[hcn]
   by_cases hz:i=0
   ·subst hz
    have hDn:D=[]:=List.length_eq_zero_iff.1 hDl
    subst hDn
    have hy:=c01 _ hr0 (by simp)
    simp[hv1]at hy
    simp[hi,hxn,rowsL_cons,hpk,hnm,hy,hT,hgg,wrap_1,intsL,hv1,hmin2,rowsL_nil]
    done
   ·have hy:=c11 _ i D hr0 (by simp) hDl hz (by omega)
    simp[hv1]at hy
    have hzD:D.length≠0:=by omega
    simp[hi,hxn,rowsL_cons,hpk,hnm,hy,hT,hgg,w3,intsL,hv1,hz,hDl,hmin,hmin2,gro_pos hz,groB_pos hz,rowsL_append,rowsL_nil]
    done
  ·rw[gro_pos hc0,groB_pos hc0]at hpk
   by_cases hz:i=0
   ·subst hz
    have hDn:D=[]:=List.length_eq_zero_iff.1 hDl
    subst hDn
    have hy:=c01 _ hr0 (by rw[hrl2];omega)
    rw[hrl2,hvs]at hy
    simp[hi,hxn,rowsL_cons,hpk,hnm,hy,hT,hgg,wrap_1,htk,htk2,hbb,hpl,hvs,hmin2,rowsL_nil]
    done
   ·have hy:=c11 _ i D hr0 (by rw[hrl2];omega) hDl hz (by omega)
    rw[hrl2,hvs]at hy
    simp[hi,hxn,rowsL_cons,hpk,hnm,hy,hT,hgg,w3,htk,htk2,hbb,hpl,hvs,hz,hDl,hmin,hmin2,gro_pos hz,groB_pos hz,rowsL_append,rowsL_nil]
    done
theorem values_mk (es:List (List IV)):callA CE 79 [.i (.isl es)] []=some (.fn (.func 130) [.own 0 0],[some (.box [.i (.isl es)])]):=by
 rw[callA_eq rfl Tryz.func79 rfl rfl]
 simp
theorem different_mk (es:List (List IV)):callA CE 65 [.i (.isl es)] []=some (.fn (.func 113) [.own 0 0],[some (.box [.i (.isl es)])]):=by
 rw[callA_eq rfl Tryz.func65 rfl rfl]
 simp
theorem filtered_mk (cs:List IV) (w:Int) (es:List (List IV)):callA CE 147 [.i (.iref cs), .i (.agg [.int w, .isl es])] []=some (.fn (.func 174) [.own 0 0, .own 1 0],[some (.box [.i (.int w), .i (.isl es)]),some (.box [.i (.iref cs)])]):=by
 rw[callA_eq rfl Tryz.func147 rfl rfl]
 simp
theorem projected_mk (cs:List IV) (w:Int) (es:List (List IV)):callA CE 148 [.i (.iref cs), .i (.agg [.int w, .isl es])] []=some (.fn (.func 177) [.own 0 0, .own 1 0],[some (.box [.i (.iref cs)]),some (.box [.i (.int w), .i (.isl es)])]):=by
 rw[callA_eq rfl Tryz.func148 rfl rfl]
 simp
theorem grouped_mk (cs:List IV) (w:Int) (es:List (List IV)):callA CE 150 [.i (.iref cs), .i (.agg [.int w, .isl es])] []=some (.fn (.func 180) [.own 0 0, .own 1 0],[some (.box [.i (.int w), .i (.isl es)]),some (.box [.i (.iref cs)])]):=by
 rw[callA_eq rfl Tryz.func150 rfl rfl]
 simp
theorem joined_mk (cs:List IV) (w w2:Int) (es es2:List (List IV)):callA CE 149 [.i (.iref cs), .i (.agg [.int w, .isl es]), .i (.agg [.int w2, .isl es2])] []=some (.fn (.func 178) [.own 0 0, .own 1 0, .own 2 0],[some (.box [.i (.int w), .i (.isl es)]),some (.box [.i (.int w2), .i (.isl es2)]),some (.box [.i (.iref cs)])]):=by
 rw[callA_eq rfl Tryz.func149 rfl rfl]
 simp
@[simp] theorem ce_Grow (a:List AV) (st:StL):callA CE 131 a st=growP a st:=by
  rw[callA_prim (p:=growP) rfl]
theorem concat_eq (a b:List (List Val)) (ha:a.length≤400) (hb:b.length≤400):callA CE 80 [.i (.isl [[.isl (rowsL a)],[.isl (rowsL b)]])] []=some (.i (.isl (rowsL (a++b))),[]):=by
 have w1:IntKind.i64.wrap (a.length:Int)=a.length:=wrap64 (by omega) (by omega)
 have w2:IntKind.i64.wrap ((a.length:Int)+b.length)=(a.length:Int)+b.length:=wrap64 (by omega) (by omega)
 have n1:¬ (a.length:Int)<0:=by omega
 have n2:¬ (a.length:Int)+b.length<0:=by omega
 rw[callA_eq rfl Tryz.func80 rfl rfl]
 simp
 rw[execA_loop]
 simp[w1,n1,wrap_1]
 rw[execA_loop]
 simp[w2,n2,wrap64 (show -9223372036854775808≤(2:Int)by omega) (by omega)]
 rw[execA_loop]
 have ta:(rowsL a).take a.length=rowsL a:=List.take_of_length_le (by simp)
 have tab2:(rowsL a++rowsL b).take (a.length+b.length)=rowsL a++rowsL b:=List.take_of_length_le (by simp)
 have hb1:a.length*24≤140737488355328:=by omega
 have hb2:(a.length+b.length)*24≤140737488355328:=by omega
 have w3:IntKind.i64.wrap 2=2:=wrap64 (by omega) (by omega)
 by_cases h0:(a.length:Int)+b.length=0
 ·have ha0:a=[]:=List.length_eq_zero_iff.1 (by omega)
  have hb0:b=[]:=List.length_eq_zero_iff.1 (by omega)
  subst ha0;subst hb0
  simp[growP]
  rw[execA_loop]
  simp[wrap_1,rowsL_nil]
  rw[execA_loop]
  simp[w3,rowsL_nil]
  rw[execA_loop]
  simp
 ·have hg:growP [.nils, .int ((a.length:Int)+b.length)] []=some (.osl 0 1 0 0,[some (.arr 1 [])]):=by
   have h1:0<(a.length:Int)+b.length∧(a.length:Int)+b.length≤1000000:=by omega
   simp[growP,h0,h1]
  simp[hg]
  rw[execA_loop]
  simp[wrap_1,hb1]
  rw[execA_loop]
  simp[w3,hb2,ta]
  rw[execA_loop]
  simp[rowsL_append,tab2]
theorem oksL_of {t:Tbl} (h:t.ok=true):oksL t.rows∧rowsI t.rows:=by
 obtain⟨h1,h2,h3,-⟩:=(Tbl.ok_iff t).1 h
 obtain⟨w1,w2⟩:=(okWidth_iff _).1 h1
 have key:∀ r∈t.rows,(r.length:Int)=t.w∧r.all Val.ok=true:=fun r hr=>by
  have:=h3 r hr
  unfold rowOk at this
  simpa using this
 exact⟨fun r hr=>⟨(key r hr).2,by have:=(key r hr).1;omega⟩,fun r hr=>⟨fun e=>by have:=(key r hr).1;rw[e]at this;simp at this;omega,by have:=(key r hr).1;omega⟩⟩
theorem result_eq {ws:List Int} {db:List Tbl} (hws:ws=db.map Tbl.w) (hdb:∀ t∈db,t.ok=true):∀ (p:Pn) (lv:Nat),p.wd ws lv≠0→p.fit db=true→∀ c:Int,0≤c→c+p.cost db<1000000000 →
 callA CE 100 [.i (.iref p.cells), .i (.isl (tblsL db)), .own 0 0] [some (.box [.int c])]=some (.i (.agg [.int (p.evP db).w, .isl (rowsL (p.evP db).rows)]),[some (.box [.int (c+p.cost db)])]):=by
 intro p
 induction p using Pn.ind with
 | h k t es cs ks ih =>
  intro lv h hfit c hc0 hcc
  have hsh:=wd_shape h
  generalize hp:Pn.mk k t es cs ks=p at hsh h hfit hcc
  have hk:ks=p.kids:=by rw[← hp];rfl
  subst hk
  have hfi:=(Pn.fit_iff db p).1 hfit
  cases hsh with
  | scan t W h0 h1 hW =>
   rw[hws,List.getElem?_map]at h1
   obtain⟨s,hs,rfl⟩:=Option.map_eq_some_iff.1 h1
   have hok:=hdb s (List.mem_of_getElem? hs)
   obtain⟨o1,o2⟩:=oksL_of hok
   have hs4:s.rows.length≤400:=((Tbl.ok_iff s).1 hok).2.1
   have hcl:=collect_one s.w 130 (by decide) [.i (.isl (rowsL s.rows))] s.rows hs4 o1 (fun R cs hY=>values_it hY s.rows hs4 o2) rfl (fun r=>rfl)
   have hmk:=values_mk (rowsL s.rows)
   have q:=tblsL_nth hs
   have hl:=(List.getElem?_eq_some_iff.1 hs).1
   have hl':t<(db.length:Int):=by omega
   have hco:((Pn.scan t).cost db:Int)=s.rows.length:=by rw[Pn.cost_eq,evP_scan,hs];simp[Pn.scan,Pn.costL,tab_rows hs4,sortR_length]
   rw[hco]at hcc ⊢
   have wc:IntKind.i64.wrap (c+s.rows.length)=c+s.rows.length:=wrap64 (by omega) (by omega)
   rw[callA_eq rfl Tryz.func100 rfl rfl,evP_scan,hs]
   simp[Pn.scan,Pn.cells_mk,Pn.cellsL,h0,hl,hl',q,tab_w]
   rw[execA_loop]
   simp[h0,hl,hl',q,hmk,hcl,wc,tab_rows hs4,sortR_length]
   done
  | filt m e a h1 ha he =>
   obtain⟨hg1,hg2⟩:=ev_good hws hdb a m ha
   have hraw:((a.evP db).rows.filter (isT e)).length≤400:=hfi.1
   have hco:((filt e a).cost db:Int)=a.cost db+((a.evP db).rows.filter (isT e)).length:=by rw[Pn.cost_eq,evP_filt,tab_rows hraw,sortR_length];simp[filt,Pn.costL]
   rw[hco]at hcc ⊢
   have i1:=ih a (by simp[filt]) m ha (hfi.2 a (by simp[filt])) c hc0 (by omega)
   obtain⟨o1,o2⟩:=oksL_of hg1
   have hfl:=filtered_mk (filt e a).cells (a.evP db).w (rowsL (a.evP db).rows)
   have hcl:=collect_two (a.evP db).w 174 (by decide) [.i (.int (a.evP db).w), .i (.isl (rowsL (a.evP db).rows))] [.i (.iref (filt e a).cells)] ((a.evP db).rows.filter (isT e)) hraw (fun r hr=>o1 r (List.mem_filter.1 hr).1) (fun R cs hY=>filtered_it hY (a.evP db) (filt e a) e rfl hg1 (by rw[hg2];exact ok_wf he)) rfl (fun r=>rfl) rfl (fun r=>rfl)
   have wc:IntKind.i64.wrap (c+(a.cost db+((a.evP db).rows.filter (isT e)).length))=c+(a.cost db+((a.evP db).rows.filter (isT e)).length):=wrap64 (by omega) (by omega)
   rw[callA_eq rfl Tryz.func100 rfl rfl,evP_filt,tab_rows hraw,tab_w]
   simp only[filt,Pn.cells_mk,Pn.cellsL,Ex.cellsL,intsL]at hfl hcl ⊢
   rw[Pn.cells_eq a,Ex.cells_eq e]at hfl hcl
   rw[Pn.cells_eq a]at i1
   generalize (a.evP db).rows.filter (isT e)=rows at *
   simp[Pn.cells_eq a,Ex.cells_eq e]
   rw[execA_loop]
   simp[i1,wrap_1]
   rw[execA_loop]
   simp[hfl,hcl,wc,sortR_length,Int.add_assoc]
   done
  | proj m es a h1 ha hl he =>
   obtain⟨hg1,hg2⟩:=ev_good hws hdb a m ha
   obtain⟨hG1,-⟩:=ev_good hws hdb (proj es a) lv h
   have hraw:((a.evP db).rows.map fun r=>es.map (Ex.ev r)).length≤400:=hfi.1
   obtain⟨hl1,hl2⟩:=(okWidth_iff _).1 hl
   obtain⟨o1,o2⟩:=oksL_of hG1
   rw[evP_proj,tab_rows hraw]at o1 o2
   have hco:((proj es a).cost db:Int)=a.cost db+((a.evP db).rows.map fun r=>es.map (Ex.ev r)).length:=by rw[Pn.cost_eq,evP_proj,tab_rows hraw,sortR_length];simp[proj,Pn.costL]
   rw[hco]at hcc ⊢
   have i1:=ih a (by simp[proj]) m ha (hfi.2 a (by simp[proj])) c hc0 (by omega)
   have hfl:=projected_mk (proj es a).cells (a.evP db).w (rowsL (a.evP db).rows)
   have hcl:=collect_two (es.length:Int) 177 (by decide) [.i (.iref (proj es a).cells)] [.i (.int (a.evP db).w), .i (.isl (rowsL (a.evP db).rows))] ((a.evP db).rows.map fun r=>es.map (Ex.ev r)) hraw (fun r hr=>o1 r (sortR_mem.2 hr)) (fun R cs hY=>projected_it hY (a.evP db) (proj es a) hg1 (show 1≤es.length by omega) (show es.length<100 by omega) (fun e hm=>by rw[hg2];exact ok_wf (he e hm))) rfl (fun r=>rfl) rfl (fun r=>rfl)
   have wc:IntKind.i64.wrap (c+(a.cost db+((a.evP db).rows.map fun r=>es.map (Ex.ev r)).length))=c+(a.cost db+((a.evP db).rows.map fun r=>es.map (Ex.ev r)).length):=wrap64 (by omega) (by omega)
   rw[callA_eq rfl Tryz.func100 rfl rfl,evP_proj,tab_rows hraw,tab_w]
   simp only[proj,Pn.cells_mk,Pn.cellsL,intsL]at hfl hcl ⊢
   rw[Pn.cells_eq a]at hfl hcl
   rw[Pn.cells_eq a]at i1
   generalize ((a.evP db).rows.map fun r=>es.map (Ex.ev r))=rows at *
   simp[Pn.cells_eq a]
   rw[execA_loop]
   simp[i1,wrap_1]
   rw[execA_loop]
   simp[hfl,hcl,wc,sortR_length,Int.add_assoc]
   done
  | pair m k e a b h1 hk ha hb hl he =>
   obtain⟨hg1,hg2⟩:=ev_good hws hdb a m ha
   obtain⟨hg3,hg4⟩:=ev_good hws hdb b m hb
   obtain⟨hG1,-⟩:=ev_good hws hdb (pairP k e a b) lv h
   have hraw:(joinR e (decide (k=5)) (a.evP db) (b.evP db)).length≤400:=by have:=hfi.1;rwa [raw_pair db hk]at this
   obtain⟨o1,o2⟩:=oksL_of hG1
   rw[evP_pair db hk,tab_rows hraw]at o1 o2
   have hco:((pairP k e a b).cost db:Int)=a.cost db+b.cost db+(joinR e (decide (k=5)) (a.evP db) (b.evP db)).length:=by rw[Pn.cost_eq,evP_pair db hk,tab_rows hraw,sortR_length];simp[pairP,Pn.costL]
   rw[hco]at hcc ⊢
   have i1:=ih a (by simp[pairP]) m ha (hfi.2 a (by simp[pairP])) c hc0 (by omega)
   have i2:=ih b (by simp[pairP]) m hb (hfi.2 b (by simp[pairP])) (c+a.cost db) (by omega) (by omega)
   obtain⟨w1,w2⟩:=(okWidth_iff _).1 ((Tbl.ok_iff _).1 hg1).1
   obtain⟨w3,w4⟩:=(okWidth_iff _).1 ((Tbl.ok_iff _).1 hg3).1
   have ww:IntKind.i64.wrap ((a.evP db).w+(b.evP db).w)=(a.evP db).w+(b.evP db).w:=wrap64 (by omega) (by omega)
   have hfl:=joined_mk (pairP k e a b).cells (a.evP db).w (b.evP db).w (rowsL (a.evP db).rows) (rowsL (b.evP db).rows)
   have hcl:=collect_three ((a.evP db).w+(b.evP db).w) 178 (by decide) [.i (.int (a.evP db).w), .i (.isl (rowsL (a.evP db).rows))] [.i (.int (b.evP db).w), .i (.isl (rowsL (b.evP db).rows))] [.i (.iref (pairP k e a b).cells)] (joinR e (decide (k=5)) (a.evP db) (b.evP db)) hraw (fun r hr=>o1 r (sortR_mem.2 hr)) (fun R cs hY=>joined_it hY (a.evP db) (b.evP db) (pairP k e a b) e rfl hk hg1 hg3 (by rw[hg2,hg4];exact ok_wf he) hraw) rfl (fun r=>rfl) rfl (fun r=>rfl) rfl (fun r=>rfl)
   have wc:IntKind.i64.wrap (c+(a.cost db+(b.cost db+(joinR e (decide (k=5)) (a.evP db) (b.evP db)).length)))=c+(a.cost db+(b.cost db+(joinR e (decide (k=5)) (a.evP db) (b.evP db)).length)):=wrap64 (by omega) (by omega)
   have w22:IntKind.i64.wrap 2=2:=wrap64 (by omega) (by omega)
   rw[callA_eq rfl Tryz.func100 rfl rfl,evP_pair db hk,tab_rows hraw,tab_w]
   simp only[pairP,Pn.cells_mk,Pn.cellsL,Ex.cellsL,intsL]at hfl hcl ⊢
   rw[Pn.cells_eq a,Pn.cells_eq b,Ex.cells_eq e]at hfl hcl
   rw[Pn.cells_eq a]at i1
   rw[Pn.cells_eq b]at i2
   generalize joinR e (decide (k=5)) (a.evP db) (b.evP db)=rows at *
   rcases hk with rfl|rfl
   all_goals
    simp[Pn.cells_eq a,Pn.cells_eq b,Ex.cells_eq e]
    rw[execA_loop]
    simp[i1,wrap_1]
    rw[execA_loop]
    simp[i2,w22]
    rw[execA_loop]
    simp[ww,hfl,hcl,wc,sortR_length,Int.add_assoc]
    done
  | union m a b h1 ha hb =>
   have hb':b.wd ws m≠0:=by rw[hb];exact ha
   obtain⟨hg1,hg2⟩:=ev_good hws hdb a m ha
   obtain⟨hg3,hg4⟩:=ev_good hws hdb b m hb'
   obtain⟨hG1,-⟩:=ev_good hws hdb (unionP a b) lv h
   have hraw:((a.evP db).rows++(b.evP db).rows).length≤400:=hfi.1
   obtain⟨o1,o2⟩:=oksL_of hG1
   rw[evP_union,tab_rows hraw]at o1 o2
   have hco:((unionP a b).cost db:Int)=a.cost db+b.cost db+((a.evP db).rows++(b.evP db).rows).length:=by rw[Pn.cost_eq,evP_union,tab_rows hraw,sortR_length];simp[unionP,Pn.costL]
   rw[hco]at hcc ⊢
   have i1:=ih a (by simp[unionP]) m ha (hfi.2 a (by simp[unionP])) c hc0 (by omega)
   have i2:=ih b (by simp[unionP]) m hb' (hfi.2 b (by simp[unionP])) (c+a.cost db) (by omega) (by omega)
   have hcc2:=concat_eq (a.evP db).rows (b.evP db).rows ((Tbl.ok_iff _).1 hg1).2.1 ((Tbl.ok_iff _).1 hg3).2.1
   have hfl:=values_mk (rowsL ((a.evP db).rows++(b.evP db).rows))
   have hcl:=collect_one (a.evP db).w 130 (by decide) [.i (.isl (rowsL ((a.evP db).rows++(b.evP db).rows)))] ((a.evP db).rows++(b.evP db).rows) hraw (fun r hr=>o1 r (sortR_mem.2 hr)) (fun R cs hY=>values_it hY _ hraw fun r hr=>o2 r (sortR_mem.2 hr)) rfl (fun r=>rfl)
   have wc:IntKind.i64.wrap (c+(a.cost db+(b.cost db+((a.evP db).rows++(b.evP db).rows).length)))=c+(a.cost db+(b.cost db+((a.evP db).rows++(b.evP db).rows).length)):=wrap64 (by omega) (by omega)
   have w22:IntKind.i64.wrap 2=2:=wrap64 (by omega) (by omega)
   rw[callA_eq rfl Tryz.func100 rfl rfl,evP_union,tab_rows hraw,tab_w]
   simp only[unionP,Pn.cells_mk,Pn.cellsL,Ex.cellsL,intsL]
   rw[Pn.cells_eq a]at i1
   rw[Pn.cells_eq b]at i2
   generalize ((a.evP db).rows++(b.evP db).rows)=rows at *
   simp[Pn.cells_eq a,Pn.cells_eq b]
   rw[execA_loop]
   simp[i1,wrap_1]
   rw[execA_loop]
   simp[i2,w22]
   rw[execA_loop]
   simp[hcc2,hfl,hcl,wc,sortR_length,Int.add_assoc]
   done
  | dist m a h1 ha =>
   obtain⟨hg1,hg2⟩:=ev_good hws hdb a m ha
   obtain⟨hG1,-⟩:=ev_good hws hdb (.mk 7 0 [] [] [a]) lv h
   have hraw:(dedup (a.evP db).rows).length≤400:=hfi.1
   obtain⟨o1,o2⟩:=oksL_of hG1
   rw[evP_dist,tab_rows hraw]at o1 o2
   have hco:((Pn.mk 7 0 [] [] [a]).cost db:Int)=a.cost db+(dedup (a.evP db).rows).length:=by rw[Pn.cost_eq,evP_dist,tab_rows hraw,sortR_length];simp[Pn.costL]
   rw[hco]at hcc ⊢
   have i1:=ih a (by simp) m ha (hfi.2 a (by simp)) c hc0 (by omega)
   have hfl:=different_mk (rowsL (a.evP db).rows)
   have hcl:=collect_one (a.evP db).w 113 (by decide) [.i (.isl (rowsL (a.evP db).rows))] (dedup (a.evP db).rows) hraw (fun r hr=>o1 r (sortR_mem.2 hr)) (fun R cs hY=>different_it hY _ ((Tbl.ok_iff _).1 hg1).2.1 (oksL_of hg1).2) rfl (fun r=>rfl)
   have wc:IntKind.i64.wrap (c+(a.cost db+(dedup (a.evP db).rows).length))=c+(a.cost db+(dedup (a.evP db).rows).length):=wrap64 (by omega) (by omega)
   rw[callA_eq rfl Tryz.func100 rfl rfl,evP_dist,tab_rows hraw,tab_w]
   simp only[Pn.cells_mk,Pn.cellsL,Ex.cellsL,intsL]
   rw[Pn.cells_eq a]at i1
   generalize dedup (a.evP db).rows=rows at *
   simp[Pn.cells_eq a]
   rw[execA_loop]
   simp[i1,wrap_1]
   rw[execA_loop]
   simp[hfl,hcl,wc,sortR_length,Int.add_assoc]
   done
  | group m cs a h1 ha hc ho =>
   obtain⟨hg1,hg2⟩:=ev_good hws hdb a m ha
   obtain⟨hG1,-⟩:=ev_good hws hdb (.mk 8 0 [] cs [a]) lv h
   have hcr:∀ c∈cs,0≤c∧c<(a.evP db).w:=by rw[hg2];exact colsOk_rng ho
   obtain⟨t1,t2,t3,-⟩:=(Tbl.ok_iff _).1 hg1
   have hok:GOk cs (a.evP db).rows:=⟨by omega,by omega,fun r hr c hc=>by
    have:=hcr c hc
    have h2:=t3 r hr
    unfold rowOk at h2
    simp only[Bool.and_eq_true,decide_eq_true_eq]at h2
    omega⟩
   obtain⟨-,k2,k3⟩:=stS_spec hok
   have hperm:((grsP cs (a.evP db).rows).map fun g=>numRow (pairG cs g)).Perm (groupRows cs (a.evP db).rows):=runs_rows k2 (fun r hr=>rowOk_ok (pickV_ok (t3 r hr) hcr)) (srtK_map k3)
   have hraw:(groupRows cs (a.evP db).rows).length≤400:=hfi.1
   have hraw2:((grsP cs (a.evP db).rows).map fun g=>numRow (pairG cs g)).length≤400:=by rw[hperm.length_eq];exact hraw
   obtain⟨o1,o2⟩:=oksL_of hG1
   rw[evP_group,tab_rows hraw]at o1 o2
   have hsort:sortR (groupRows cs (a.evP db).rows)=sortR ((grsP cs (a.evP db).rows).map fun g=>numRow (pairG cs g)):=(sortR_congr hperm fun r hr=>(o1 r (sortR_mem.2 (hperm.mem_iff.1 hr))).1).symm
   have hco:((Pn.mk 8 0 [] cs [a]).cost db:Int)=a.cost db+((grsP cs (a.evP db).rows).map fun g=>numRow (pairG cs g)).length:=by rw[Pn.cost_eq,evP_group,tab_rows hraw,sortR_length,hperm.length_eq];simp[Pn.costL]
   rw[hco]at hcc ⊢
   have i1:=ih a (by simp) m ha (hfi.2 a (by simp)) c hc0 (by omega)
   have hfl:=grouped_mk (Pn.mk 8 0 [] cs [a]).cells (a.evP db).w (rowsL (a.evP db).rows)
   have hcl:=collect_two ((cs.length:Int)+1) 180 (by decide) [.i (.int (a.evP db).w), .i (.isl (rowsL (a.evP db).rows))] [.i (.iref (Pn.mk 8 0 [] cs [a]).cells)] ((grsP cs (a.evP db).rows).map fun g=>numRow (pairG cs g)) hraw2 (fun r hr=>o1 r (sortR_mem.2 (hperm.mem_iff.1 hr))) (fun R cs' hY=>grouped_it hY (a.evP db) (Pn.mk 8 0 [] cs [a]) hg1 (show cs.length<100 by omega) hcr) rfl (fun r=>rfl) rfl (fun r=>rfl)
   have wc:IntKind.i64.wrap (c+(a.cost db+((grsP cs (a.evP db).rows).map fun g=>numRow (pairG cs g)).length))=c+(a.cost db+((grsP cs (a.evP db).rows).map fun g=>numRow (pairG cs g)).length):=wrap64 (by omega) (by omega)
   have ww:IntKind.i64.wrap ((cs.length:Int)+1)=(cs.length:Int)+1:=wrap64 (by omega) (by omega)
   rw[callA_eq rfl Tryz.func100 rfl rfl,evP_group,tab_rows hraw,tab_w,hsort]
   simp only[Pn.cells_mk,Pn.cellsL,Ex.cellsL]at hfl hcl ⊢
   rw[Pn.cells_eq a]at hfl hcl
   rw[Pn.cells_eq a]at i1
   generalize ((grsP cs (a.evP db).rows).map fun g=>numRow (pairG cs g))=rows at *
   simp[Pn.cells_eq a]
   rw[execA_loop]
   simp[i1,wrap_1]
   rw[execA_loop]
   simp[ww,hfl,hcl,wc,sortR_length,Int.add_assoc]
   done
@[simp] theorem ce_widthsOf (a:List AV) (st:StL):callA CE 73 a st=callA C0 73 a st:=by
  rw[callA_prim (p:=callA CR 73) rfl,callA_prim (p:=callA C0 73) rfl]
@[simp] theorem ce_PlanWidth (a:List AV) (st:StL):callA CE 35 a st=callA C0 35 a st:=by
  rw[callA_prim (p:=callA CR 35) rfl,callA_prim (p:=callA C0 35) rfl]
theorem width_ok8 {p:Pn} {ws:List Int} (h:p.width ws≠0):okWs ws=true∧p.wd ws 8≠0∧p.width ws=p.wd ws 8:=by
 unfold Pn.width at h ⊢
 split at h
 ·rename_i hw;exact⟨hw,h,if_pos hw⟩
 ·exact absurd rfl h
theorem okWs_len {ws:List Int} (h:okWs ws=true):1≤ws.length∧ws.length≤4:=by
 unfold okWs at h
 simp only[Bool.and_eq_true,decide_eq_true_eq]at h
 exact h.1
theorem cost_small {p:Pn} {db:List Tbl} (h:evOk p db=true):(p.cost db:Int)<1000000000:=by
 unfold evOk at h
 simp only[Bool.and_eq_true,decide_eq_true_eq]at h
 obtain⟨hw,hp8,_⟩:=width_ok8 h.2
 have h1:=cost_le rfl (fun t ht=>List.all_eq_true.1 h.1 t ht) p 8 hp8
 have h2:=(Pn.wd_fit p 8 hp8).2
 omega
theorem evaluated_eq (p:Pn) (db:List Tbl) (hs:∀ t∈db,t.small) (hfit:evOk p db=true→p.fit db=true):callA CE 58 [.i (.iref p.cells), .i (.isl (tblsL db))] []=some (if evOk p db=true then .tup [.i (.agg [.int (p.evP db).w, .isl (rowsL (p.evP db).rows)]), .int (p.cost db), .bool true]else .tup [.i (.agg [.int 0, .isl []]), .int 0, .bool false],[]):=by
 have c1:=widthsOf_eq db hs
 have c2:=planWidth_eq p (db.map Tbl.w)
 rw[callA_eq rfl Tryz.func58 rfl rfl]
 by_cases hall:db.all Tbl.ok=true
 ·by_cases hlen:1≤db.length∧db.length≤4
  ·simp only[hall,hlen,and_self,decide_true,Bool.and_self,if_true]at c1
   by_cases h0:p.width (db.map Tbl.w)=0
   ·have hev:evOk p db=false:=by simp[evOk,h0]
    rw[Pn.cells_eq p]at c2 ⊢
    simp[c1,c2,h0,hev]
   ·have hev:evOk p db=true:=by simp only[evOk,hall,h0,ne_eq,not_false_eq_true,decide_true,Bool.and_self]
    obtain⟨hw,hp8,_⟩:=width_ok8 h0
    have c3:=result_eq rfl (fun t ht=>List.all_eq_true.1 hall t ht) p 8 hp8 (hfit hev) 0 (by omega) (by have:=cost_small hev;omega)
    rw[Pn.cells_eq p]at c2 c3 ⊢
    simp at c3
    simp[c1,c2,h0,hev,c3]
  ·have hev:evOk p db=false:=by
    cases he:evOk p db with
    | false=>rfl
    | true =>
     unfold evOk at he
     simp only[Bool.and_eq_true,decide_eq_true_eq]at he
     have:=okWs_len (width_ok8 he.2).1
     simp at this
     exact absurd (by omega) hlen
   simp only[hlen,decide_false,Bool.false_and,Bool.false_eq_true,if_false]at c1
   simp[c1,hev]
 ·have hev:evOk p db=false:=by simp[evOk,hall]
  simp only[hall,Bool.and_false,Bool.false_eq_true,if_false]at c1
  simp[c1,hev]
theorem EvalPlan_eq (p:Pn) (db:List Tbl) (hs:∀ t∈db,t.small) (hfit:evOk p db=true→p.fit db=true):callA CE 27 [.i (.agg p.cells), .i (.isl (tblsL db))] []=some (if evOk p db=true then .tup [.i (.agg [.int (p.evP db).w, .isl (rowsL (p.evP db).rows)]), .bool true]else .tup [.i (.agg [.int 0, .isl []]), .bool false],[]):=by
 have c1:=evaluated_eq p db hs hfit
 rw[callA_eq rfl Tryz.func27 rfl rfl]
 rw[Pn.cells_eq p]at c1 ⊢
 by_cases h:evOk p db=true<;>simp[h]at c1<;>simp[c1,h]
end Go.Proofs.YtiailccmofdhfaaGreat.P
namespace Go.Proofs.YtiailccmofdhfaaGreat.P
open Go Go.Av
set_option maxRecDepth 4000
set_option maxHeartbeats 8000000
def PSt (l:List UInt8) (ws:List Int) (k:Nat) (j u p:Int):StL:=[some (.box [.own 1 0, .osl 2 1 0 k, .int j, .int u]),Rd l p,some (.arr 1 (intsL ws))]
def PlanOk (l:List UInt8) (ws:List Int) (k d j c:Nat):Prop:=∀ p u:Int,0≤p→p+c<300000000→0≤u→u≤1→∃ (P:Pn) (p' u':Int) (j':Nat),
    callA CP 119 [.own 0 0, .int d] (PSt l ws k j u p)=some (.i (.agg P.cells),PSt l ws k j' u' p')∧Th P j j' u u'∧p≤p'∧p'≤p+c∧j'≤j∧0≤u'∧u'≤1
theorem scan_cells (t:Int):(Pn.scan t).cells=[.int 1, .int t, .isl [], .isl [], .isl []]:=by simp[Pn.scan,Pn.cells,Ex.cellsL,intsL,Pn.cellsL]
theorem plan_zero {l:List UInt8} (hl:l.length≤2000) {ws:List Int} {k:Nat} (j:Nat):PlanOk l ws k 0 j 1:=by
 intro p u h0 h1 hu0 hu1
 obtain⟨t,ht,-,-⟩:=pick_eq l p k h0 (by omega) hl
 refine⟨.scan t,p+1,u,j,?_,Th.scan (Pn.scan_thin t) _ _,by omega,by omega,by omega,by omega,by omega⟩
 rw[callA_eq rfl Tryz.func119 rfl rfl]
 simp[PSt,ht,scan_cells]
theorem plan_filter0 {l:List UInt8} (hl:l.length≤2000) {ws:List Int} {k:Nat} {d j c2:Nat} {p u t v W kk p1 u1:Int} {j1:Nat} {K:Pn} (hd:d<100) (h1:p1+400+c2<300000000) (hp1:0≤p1) (hu0:0≤u1) (hu1:u1≤1) (hW0:0≤W) (hW6:W≤6) (hKB:Th K j j1 u u1)
 (ht:callA C0 98 [.own 0 0, .int k] [Rd l p]=some (.int t,[Rd l (p+1)])) (hv:callA C0 98 [.own 0 0, .int 6] [Rd l (p+1)]=some (.int v,[Rd l (p+1+1)])) (v0:¬ v=0)
 (hkid:callA CP 119 [.own 0 0, .int d] (PSt l ws k j u (p+1+1))=some (.i (.agg K.cells),PSt l ws k j1 u1 p1))
 (hW:callA CP 102 [.i (.agg K.cells), .osl 0 1 0 k, .int 8] [some (.arr 1 (intsL ws))]=some (.int W,[some (.arr 1 (intsL ws))]))
 (hkk:callA C0 98 [.own 0 0, .int 10] [Rd l p1]=some (.int kk,[Rd l (p1+1)])) (hq:kk=0):∃ (P:Pn) (p' u':Int) (j':Nat),callA CP 119 [.own 0 0, .int ((d+1:Nat):Int)] (PSt l ws k j u p)=some (.i (.agg P.cells),PSt l ws k j' u' p')∧Th P j j' u u'∧p1≤p'∧p'≤p1+400+c2∧j'≤j1∧0≤u'∧u'≤1:=by
 have we:IntKind.i64.wrap (d:Int)=d:=wrap64 (by omega) (by omega)
 have hK:=hKB.1
 have wn:¬ ((d:Int)+1=0):=by omega
 simp only[PSt]at hkid
 rw[Pn.cells_eq K]at hkid hW
 obtain⟨e,p2,he,a1,a2,a3⟩:=randomCondition_eq l hl W (p1+1) (by omega) (by omega)
 have hf:=filterOf_eq e K
 rw[filtP_cells,Pn.cells_eq K,Ex.cells_eq e]at hf
 rw[Ex.cells_eq e]at he
 refine⟨filtP e K,p2,u1,j1,?_,Th.one (filtP_thin (by omega) hK) hKB,by omega,by omega,by omega,by omega,by omega⟩
 rw[callA_eq rfl Tryz.func119 rfl rfl]
 simp[PSt,ht,hv,v0,we,hkid,hW,hkk,wn,hq,he,hf,filtP_cells,Pn.cells_eq K,Ex.cells_eq e]
theorem plan_filter1 {l:List UInt8} (hl:l.length≤2000) {ws:List Int} {k:Nat} {d j c2:Nat} {p u t v W kk p1 u1:Int} {j1:Nat} {K:Pn} (hd:d<100) (h1:p1+400+c2<300000000) (hp1:0≤p1) (hu0:0≤u1) (hu1:u1≤1) (hW0:0≤W) (hW6:W≤6) (hKB:Th K j j1 u u1)
 (ht:callA C0 98 [.own 0 0, .int k] [Rd l p]=some (.int t,[Rd l (p+1)])) (hv:callA C0 98 [.own 0 0, .int 6] [Rd l (p+1)]=some (.int v,[Rd l (p+1+1)])) (v0:¬ v=0)
 (hkid:callA CP 119 [.own 0 0, .int d] (PSt l ws k j u (p+1+1))=some (.i (.agg K.cells),PSt l ws k j1 u1 p1))
 (hW:callA CP 102 [.i (.agg K.cells), .osl 0 1 0 k, .int 8] [some (.arr 1 (intsL ws))]=some (.int W,[some (.arr 1 (intsL ws))]))
 (hkk:callA C0 98 [.own 0 0, .int 10] [Rd l p1]=some (.int kk,[Rd l (p1+1)])) (hq:kk=1):∃ (P:Pn) (p' u':Int) (j':Nat),callA CP 119 [.own 0 0, .int ((d+1:Nat):Int)] (PSt l ws k j u p)=some (.i (.agg P.cells),PSt l ws k j' u' p')∧Th P j j' u u'∧p1≤p'∧p'≤p1+400+c2∧j'≤j1∧0≤u'∧u'≤1:=by
 have we:IntKind.i64.wrap (d:Int)=d:=wrap64 (by omega) (by omega)
 have hK:=hKB.1
 have wn:¬ ((d:Int)+1=0):=by omega
 simp only[PSt]at hkid
 rw[Pn.cells_eq K]at hkid hW
 obtain⟨e,p2,he,a1,a2,a3⟩:=randomCondition_eq l hl W (p1+1) (by omega) (by omega)
 have hf:=filterOf_eq e K
 rw[filtP_cells,Pn.cells_eq K,Ex.cells_eq e]at hf
 rw[Ex.cells_eq e]at he
 refine⟨filtP e K,p2,u1,j1,?_,Th.one (filtP_thin (by omega) hK) hKB,by omega,by omega,by omega,by omega,by omega⟩
 rw[callA_eq rfl Tryz.func119 rfl rfl]
 simp[PSt,ht,hv,v0,we,hkid,hW,hkk,wn,hq,he,hf,filtP_cells,Pn.cells_eq K,Ex.cells_eq e]
theorem plan_filter2 {l:List UInt8} (hl:l.length≤2000) {ws:List Int} {k:Nat} {d j c2:Nat} {p u t v W kk p1 u1:Int} {j1:Nat} {K:Pn} (hd:d<100) (h1:p1+400+c2<300000000) (hp1:0≤p1) (hu0:0≤u1) (hu1:u1≤1) (hW0:0≤W) (hW6:W≤6) (hKB:Th K j j1 u u1)
 (ht:callA C0 98 [.own 0 0, .int k] [Rd l p]=some (.int t,[Rd l (p+1)])) (hv:callA C0 98 [.own 0 0, .int 6] [Rd l (p+1)]=some (.int v,[Rd l (p+1+1)])) (v0:¬ v=0)
 (hkid:callA CP 119 [.own 0 0, .int d] (PSt l ws k j u (p+1+1))=some (.i (.agg K.cells),PSt l ws k j1 u1 p1))
 (hW:callA CP 102 [.i (.agg K.cells), .osl 0 1 0 k, .int 8] [some (.arr 1 (intsL ws))]=some (.int W,[some (.arr 1 (intsL ws))]))
 (hkk:callA C0 98 [.own 0 0, .int 10] [Rd l p1]=some (.int kk,[Rd l (p1+1)])) (hq:kk=2):∃ (P:Pn) (p' u':Int) (j':Nat),callA CP 119 [.own 0 0, .int ((d+1:Nat):Int)] (PSt l ws k j u p)=some (.i (.agg P.cells),PSt l ws k j' u' p')∧Th P j j' u u'∧p1≤p'∧p'≤p1+400+c2∧j'≤j1∧0≤u'∧u'≤1:=by
 have we:IntKind.i64.wrap (d:Int)=d:=wrap64 (by omega) (by omega)
 have hK:=hKB.1
 have wn:¬ ((d:Int)+1=0):=by omega
 simp only[PSt]at hkid
 rw[Pn.cells_eq K]at hkid hW
 obtain⟨e,p2,he,a1,a2,a3⟩:=randomCondition_eq l hl W (p1+1) (by omega) (by omega)
 have hf:=filterOf_eq e K
 rw[filtP_cells,Pn.cells_eq K,Ex.cells_eq e]at hf
 rw[Ex.cells_eq e]at he
 refine⟨filtP e K,p2,u1,j1,?_,Th.one (filtP_thin (by omega) hK) hKB,by omega,by omega,by omega,by omega,by omega⟩
 rw[callA_eq rfl Tryz.func119 rfl rfl]
 simp[PSt,ht,hv,v0,we,hkid,hW,hkk,wn,hq,he,hf,filtP_cells,Pn.cells_eq K,Ex.cells_eq e]
theorem plan_distinct {l:List UInt8} (hl:l.length≤2000) {ws:List Int} {k:Nat} {d j c2:Nat} {p u t v W kk p1 u1:Int} {j1:Nat} {K:Pn} (hd:d<100) (h1:p1+400+c2<300000000) (hp1:0≤p1) (hu0:0≤u1) (hu1:u1≤1) (hW0:0≤W) (hW6:W≤6) (hKB:Th K j j1 u u1)
 (ht:callA C0 98 [.own 0 0, .int k] [Rd l p]=some (.int t,[Rd l (p+1)])) (hv:callA C0 98 [.own 0 0, .int 6] [Rd l (p+1)]=some (.int v,[Rd l (p+1+1)])) (v0:¬ v=0)
 (hkid:callA CP 119 [.own 0 0, .int d] (PSt l ws k j u (p+1+1))=some (.i (.agg K.cells),PSt l ws k j1 u1 p1))
 (hW:callA CP 102 [.i (.agg K.cells), .osl 0 1 0 k, .int 8] [some (.arr 1 (intsL ws))]=some (.int W,[some (.arr 1 (intsL ws))]))
 (hkk:callA C0 98 [.own 0 0, .int 10] [Rd l p1]=some (.int kk,[Rd l (p1+1)])) (hq:kk=8):∃ (P:Pn) (p' u':Int) (j':Nat),callA CP 119 [.own 0 0, .int ((d+1:Nat):Int)] (PSt l ws k j u p)=some (.i (.agg P.cells),PSt l ws k j' u' p')∧Th P j j' u u'∧p1≤p'∧p'≤p1+400+c2∧j'≤j1∧0≤u'∧u'≤1:=by
 have we:IntKind.i64.wrap (d:Int)=d:=wrap64 (by omega) (by omega)
 have hK:=hKB.1
 have wn:¬ ((d:Int)+1=0):=by omega
 simp only[PSt]at hkid
 rw[Pn.cells_eq K]at hkid hW
 refine⟨.mk 7 0 [] [] [K],p1+1,u1,j1,?_,Th.one (by simp[Pn.thin,Pn.thinL,hK]) hKB,by omega,by omega,by omega,by omega,by omega⟩
 rw[callA_eq rfl Tryz.func119 rfl rfl]
 simp[PSt,ht,hv,v0,we,hkid,hW,hkk,wn,hq,Pn.cells,Ex.cellsL,intsL,Pn.cellsL,Pn.cells_eq K]
theorem plan_nojoin5 {l:List UInt8} (hl:l.length≤2000) {ws:List Int} {k:Nat} {d j c2:Nat} {p u t v W kk p1 u1:Int} {j1:Nat} {K:Pn} (hd:d<100) (h1:p1+400+c2<300000000) (hp1:0≤p1) (hu0:0≤u1) (hu1:u1≤1) (hW0:0≤W) (hW6:W≤6) (hKB:Th K j j1 u u1)
 (ht:callA C0 98 [.own 0 0, .int k] [Rd l p]=some (.int t,[Rd l (p+1)])) (hv:callA C0 98 [.own 0 0, .int 6] [Rd l (p+1)]=some (.int v,[Rd l (p+1+1)])) (v0:¬ v=0)
 (hkid:callA CP 119 [.own 0 0, .int d] (PSt l ws k j u (p+1+1))=some (.i (.agg K.cells),PSt l ws k j1 u1 p1))
 (hW:callA CP 102 [.i (.agg K.cells), .osl 0 1 0 k, .int 8] [some (.arr 1 (intsL ws))]=some (.int W,[some (.arr 1 (intsL ws))]))
 (hkk:callA C0 98 [.own 0 0, .int 10] [Rd l p1]=some (.int kk,[Rd l (p1+1)])) (hj:j1=0) (hq:kk=5):∃ (P:Pn) (p' u':Int) (j':Nat),callA CP 119 [.own 0 0, .int ((d+1:Nat):Int)] (PSt l ws k j u p)=some (.i (.agg P.cells),PSt l ws k j' u' p')∧Th P j j' u u'∧p1≤p'∧p'≤p1+400+c2∧j'≤j1∧0≤u'∧u'≤1:=by
 have we:IntKind.i64.wrap (d:Int)=d:=wrap64 (by omega) (by omega)
 have hK:=hKB.1
 have wn:¬ ((d:Int)+1=0):=by omega
 simp only[PSt]at hkid
 rw[Pn.cells_eq K]at hkid hW
 obtain⟨e,p2,he,a1,a2,a3⟩:=randomCondition_eq l hl W (p1+1) (by omega) (by omega)
 have hf:=filterOf_eq e K
 rw[filtP_cells,Pn.cells_eq K,Ex.cells_eq e]at hf
 rw[Ex.cells_eq e]at he
 refine⟨filtP e K,p2,u1,j1,?_,Th.one (filtP_thin (by omega) hK) hKB,by omega,by omega,by omega,by omega,by omega⟩
 rw[callA_eq rfl Tryz.func119 rfl rfl]
 simp[PSt,ht,hv,v0,we,hkid,hW,hkk,wn,hq,he,hf,filtP_cells,Pn.cells_eq K,Ex.cells_eq e,hj]
theorem plan_wide5 {l:List UInt8} (hl:l.length≤2000) {ws:List Int} {k:Nat} {d j c2:Nat} {p u t v W kk p1 u1:Int} {j1:Nat} {K:Pn} (hd:d<100) (h1:p1+400+c2<300000000) (hp1:0≤p1) (hu0:0≤u1) (hu1:u1≤1) (hW0:0≤W) (hW6:W≤6) (hKB:Th K j j1 u u1)
 (ht:callA C0 98 [.own 0 0, .int k] [Rd l p]=some (.int t,[Rd l (p+1)])) (hv:callA C0 98 [.own 0 0, .int 6] [Rd l (p+1)]=some (.int v,[Rd l (p+1+1)])) (v0:¬ v=0)
 (hkid:callA CP 119 [.own 0 0, .int d] (PSt l ws k j u (p+1+1))=some (.i (.agg K.cells),PSt l ws k j1 u1 p1))
 (hW:callA CP 102 [.i (.agg K.cells), .osl 0 1 0 k, .int 8] [some (.arr 1 (intsL ws))]=some (.int W,[some (.arr 1 (intsL ws))]))
 (hkk:callA C0 98 [.own 0 0, .int 10] [Rd l p1]=some (.int kk,[Rd l (p1+1)])) (hj:j1≠0) (hw4:¬ W≤4) (hq:kk=5):∃ (P:Pn) (p' u':Int) (j':Nat),callA CP 119 [.own 0 0, .int ((d+1:Nat):Int)] (PSt l ws k j u p)=some (.i (.agg P.cells),PSt l ws k j' u' p')∧Th P j j' u u'∧p1≤p'∧p'≤p1+400+c2∧j'≤j1∧0≤u'∧u'≤1:=by
 have we:IntKind.i64.wrap (d:Int)=d:=wrap64 (by omega) (by omega)
 have hK:=hKB.1
 have wn:¬ ((d:Int)+1=0):=by omega
 simp only[PSt]at hkid
 rw[Pn.cells_eq K]at hkid hW
 have hj':0<j1:=by omega
 obtain⟨e,p2,he,a1,a2,a3⟩:=randomCondition_eq l hl W (p1+1) (by omega) (by omega)
 have hf:=filterOf_eq e K
 rw[filtP_cells,Pn.cells_eq K,Ex.cells_eq e]at hf
 rw[Ex.cells_eq e]at he
 refine⟨filtP e K,p2,u1,j1,?_,Th.one (filtP_thin (by omega) hK) hKB,by omega,by omega,by omega,by omega,by omega⟩
 rw[callA_eq rfl Tryz.func119 rfl rfl]
 simp[PSt,ht,hv,v0,we,hkid,hW,hkk,wn,hq,he,hf,filtP_cells,Pn.cells_eq K,Ex.cells_eq e,hj',hj,hw4]
theorem plan_nojoin6 {l:List UInt8} (hl:l.length≤2000) {ws:List Int} {k:Nat} {d j c2:Nat} {p u t v W kk p1 u1:Int} {j1:Nat} {K:Pn} (hd:d<100) (h1:p1+400+c2<300000000) (hp1:0≤p1) (hu0:0≤u1) (hu1:u1≤1) (hW0:0≤W) (hW6:W≤6) (hKB:Th K j j1 u u1)
 (ht:callA C0 98 [.own 0 0, .int k] [Rd l p]=some (.int t,[Rd l (p+1)])) (hv:callA C0 98 [.own 0 0, .int 6] [Rd l (p+1)]=some (.int v,[Rd l (p+1+1)])) (v0:¬ v=0)
 (hkid:callA CP 119 [.own 0 0, .int d] (PSt l ws k j u (p+1+1))=some (.i (.agg K.cells),PSt l ws k j1 u1 p1))
 (hW:callA CP 102 [.i (.agg K.cells), .osl 0 1 0 k, .int 8] [some (.arr 1 (intsL ws))]=some (.int W,[some (.arr 1 (intsL ws))]))
 (hkk:callA C0 98 [.own 0 0, .int 10] [Rd l p1]=some (.int kk,[Rd l (p1+1)])) (hj:j1=0) (hq:kk=6):∃ (P:Pn) (p' u':Int) (j':Nat),callA CP 119 [.own 0 0, .int ((d+1:Nat):Int)] (PSt l ws k j u p)=some (.i (.agg P.cells),PSt l ws k j' u' p')∧Th P j j' u u'∧p1≤p'∧p'≤p1+400+c2∧j'≤j1∧0≤u'∧u'≤1:=by
 have we:IntKind.i64.wrap (d:Int)=d:=wrap64 (by omega) (by omega)
 have hK:=hKB.1
 have wn:¬ ((d:Int)+1=0):=by omega
 simp only[PSt]at hkid
 rw[Pn.cells_eq K]at hkid hW
 obtain⟨e,p2,he,a1,a2,a3⟩:=randomCondition_eq l hl W (p1+1) (by omega) (by omega)
 have hf:=filterOf_eq e K
 rw[filtP_cells,Pn.cells_eq K,Ex.cells_eq e]at hf
 rw[Ex.cells_eq e]at he
 refine⟨filtP e K,p2,u1,j1,?_,Th.one (filtP_thin (by omega) hK) hKB,by omega,by omega,by omega,by omega,by omega⟩
 rw[callA_eq rfl Tryz.func119 rfl rfl]
 simp[PSt,ht,hv,v0,we,hkid,hW,hkk,wn,hq,he,hf,filtP_cells,Pn.cells_eq K,Ex.cells_eq e,hj]
theorem plan_wide6 {l:List UInt8} (hl:l.length≤2000) {ws:List Int} {k:Nat} {d j c2:Nat} {p u t v W kk p1 u1:Int} {j1:Nat} {K:Pn} (hd:d<100) (h1:p1+400+c2<300000000) (hp1:0≤p1) (hu0:0≤u1) (hu1:u1≤1) (hW0:0≤W) (hW6:W≤6) (hKB:Th K j j1 u u1)
 (ht:callA C0 98 [.own 0 0, .int k] [Rd l p]=some (.int t,[Rd l (p+1)])) (hv:callA C0 98 [.own 0 0, .int 6] [Rd l (p+1)]=some (.int v,[Rd l (p+1+1)])) (v0:¬ v=0)
 (hkid:callA CP 119 [.own 0 0, .int d] (PSt l ws k j u (p+1+1))=some (.i (.agg K.cells),PSt l ws k j1 u1 p1))
 (hW:callA CP 102 [.i (.agg K.cells), .osl 0 1 0 k, .int 8] [some (.arr 1 (intsL ws))]=some (.int W,[some (.arr 1 (intsL ws))]))
 (hkk:callA C0 98 [.own 0 0, .int 10] [Rd l p1]=some (.int kk,[Rd l (p1+1)])) (hj:j1≠0) (hw4:¬ W≤4) (hq:kk=6):∃ (P:Pn) (p' u':Int) (j':Nat),callA CP 119 [.own 0 0, .int ((d+1:Nat):Int)] (PSt l ws k j u p)=some (.i (.agg P.cells),PSt l ws k j' u' p')∧Th P j j' u u'∧p1≤p'∧p'≤p1+400+c2∧j'≤j1∧0≤u'∧u'≤1:=by
 have we:IntKind.i64.wrap (d:Int)=d:=wrap64 (by omega) (by omega)
 have hK:=hKB.1
 have wn:¬ ((d:Int)+1=0):=by omega
 simp only[PSt]at hkid
 rw[Pn.cells_eq K]at hkid hW
 have hj':0<j1:=by omega
 obtain⟨e,p2,he,a1,a2,a3⟩:=randomCondition_eq l hl W (p1+1) (by omega) (by omega)
 have hf:=filterOf_eq e K
 rw[filtP_cells,Pn.cells_eq K,Ex.cells_eq e]at hf
 rw[Ex.cells_eq e]at he
 refine⟨filtP e K,p2,u1,j1,?_,Th.one (filtP_thin (by omega) hK) hKB,by omega,by omega,by omega,by omega,by omega⟩
 rw[callA_eq rfl Tryz.func119 rfl rfl]
 simp[PSt,ht,hv,v0,we,hkid,hW,hkk,wn,hq,he,hf,filtP_cells,Pn.cells_eq K,Ex.cells_eq e,hj',hj,hw4]
theorem plan_nounion {l:List UInt8} (hl:l.length≤2000) {ws:List Int} {k:Nat} {d j c2:Nat} {p u t v W kk p1 u1:Int} {j1:Nat} {K:Pn} (hd:d<100) (h1:p1+400+c2<300000000) (hp1:0≤p1) (hu0:0≤u1) (hu1:u1≤1) (hW0:0≤W) (hW6:W≤6) (hKB:Th K j j1 u u1)
 (ht:callA C0 98 [.own 0 0, .int k] [Rd l p]=some (.int t,[Rd l (p+1)])) (hv:callA C0 98 [.own 0 0, .int 6] [Rd l (p+1)]=some (.int v,[Rd l (p+1+1)])) (v0:¬ v=0)
 (hkid:callA CP 119 [.own 0 0, .int d] (PSt l ws k j u (p+1+1))=some (.i (.agg K.cells),PSt l ws k j1 u1 p1))
 (hW:callA CP 102 [.i (.agg K.cells), .osl 0 1 0 k, .int 8] [some (.arr 1 (intsL ws))]=some (.int W,[some (.arr 1 (intsL ws))]))
 (hkk:callA C0 98 [.own 0 0, .int 10] [Rd l p1]=some (.int kk,[Rd l (p1+1)])) (hu:¬ 0<u1) (hq:kk=7):∃ (P:Pn) (p' u':Int) (j':Nat),callA CP 119 [.own 0 0, .int ((d+1:Nat):Int)] (PSt l ws k j u p)=some (.i (.agg P.cells),PSt l ws k j' u' p')∧Th P j j' u u'∧p1≤p'∧p'≤p1+400+c2∧j'≤j1∧0≤u'∧u'≤1:=by
 have we:IntKind.i64.wrap (d:Int)=d:=wrap64 (by omega) (by omega)
 have hK:=hKB.1
 have wn:¬ ((d:Int)+1=0):=by omega
 simp only[PSt]at hkid
 rw[Pn.cells_eq K]at hkid hW
 obtain⟨e,p2,he,a1,a2,a3⟩:=randomCondition_eq l hl W (p1+1) (by omega) (by omega)
 have hf:=filterOf_eq e K
 rw[filtP_cells,Pn.cells_eq K,Ex.cells_eq e]at hf
 rw[Ex.cells_eq e]at he
 refine⟨filtP e K,p2,u1,j1,?_,Th.one (filtP_thin (by omega) hK) hKB,by omega,by omega,by omega,by omega,by omega⟩
 rw[callA_eq rfl Tryz.func119 rfl rfl]
 simp[PSt,ht,hv,v0,we,hkid,hW,hkk,wn,hq,he,hf,filtP_cells,Pn.cells_eq K,Ex.cells_eq e,hu]
theorem plan_union {l:List UInt8} (hl:l.length≤2000) {ws:List Int} {k:Nat} {d j c2:Nat} {p u t v W kk p1 u1:Int} {j1:Nat} {K:Pn} (hd:d<100) (h1:p1+400+c2<300000000) (hp1:0≤p1) (hu0:0≤u1) (hu1:u1≤1) (hW0:0≤W) (hW6:W≤6) (hKB:Th K j j1 u u1)
 (ht:callA C0 98 [.own 0 0, .int k] [Rd l p]=some (.int t,[Rd l (p+1)])) (hv:callA C0 98 [.own 0 0, .int 6] [Rd l (p+1)]=some (.int v,[Rd l (p+1+1)])) (v0:¬ v=0)
 (hkid:callA CP 119 [.own 0 0, .int d] (PSt l ws k j u (p+1+1))=some (.i (.agg K.cells),PSt l ws k j1 u1 p1))
 (hW:callA CP 102 [.i (.agg K.cells), .osl 0 1 0 k, .int 8] [some (.arr 1 (intsL ws))]=some (.int W,[some (.arr 1 (intsL ws))]))
 (hkk:callA C0 98 [.own 0 0, .int 10] [Rd l p1]=some (.int kk,[Rd l (p1+1)])) (hu:0<u1) (hq:kk=7):∃ (P:Pn) (p' u':Int) (j':Nat),callA CP 119 [.own 0 0, .int ((d+1:Nat):Int)] (PSt l ws k j u p)=some (.i (.agg P.cells),PSt l ws k j' u' p')∧Th P j j' u u'∧p1≤p'∧p'≤p1+400+c2∧j'≤j1∧0≤u'∧u'≤1:=by
 have we:IntKind.i64.wrap (d:Int)=d:=wrap64 (by omega) (by omega)
 have hK:=hKB.1
 have wn:¬ ((d:Int)+1=0):=by omega
 simp only[PSt]at hkid
 rw[Pn.cells_eq K]at hkid hW
 obtain⟨e,p2,he,a1,a2,a3⟩:=randomCondition_eq l hl W (p1+1) (by omega) (by omega)
 have hf:=filterOf_eq e K
 have hc:=cp_copyPlan K hK
 have wu:IntKind.i64.wrap (u1-1)=u1-1:=wrap64 (by omega) (by omega)
 rw[filtP_cells,Pn.cells_eq K,Ex.cells_eq e]at hf
 rw[Pn.cells_eq K]at hc
 rw[Ex.cells_eq e]at he
 refine⟨.mk 6 0 [] [] [K,filtP e K],p2,u1-1,j1,?_,Th.un (by have:=filtP_thin (e:=e) (by omega) hK;unfold filtP at this;simp[Pn.thin,Pn.thinL,hK]at this ⊢;exact this) hKB,by omega,by omega,by omega,by omega,by omega⟩
 rw[callA_eq rfl Tryz.func119 rfl rfl]
 simp[PSt,ht,hv,v0,we,hkid,hW,hkk,wn,hq,he,hf,filtP_cells,Pn.cells_eq K,Ex.cells_eq e,hu,hc,wu,Pn.cells_mk,Ex.cellsL,intsL,Pn.cellsL]
theorem plan_group1 {l:List UInt8} (hl:l.length≤2000) {ws:List Int} {k:Nat} {d j c2:Nat} {p u t v W kk p1 u1:Int} {j1:Nat} {K:Pn} (hd:d<100) (h1:p1+400+c2<300000000) (hp1:0≤p1) (hu0:0≤u1) (hu1:u1≤1) (hW0:0≤W) (hW6:W≤6) (hKB:Th K j j1 u u1)
 (ht:callA C0 98 [.own 0 0, .int k] [Rd l p]=some (.int t,[Rd l (p+1)])) (hv:callA C0 98 [.own 0 0, .int 6] [Rd l (p+1)]=some (.int v,[Rd l (p+1+1)])) (v0:¬ v=0)
 (hkid:callA CP 119 [.own 0 0, .int d] (PSt l ws k j u (p+1+1))=some (.i (.agg K.cells),PSt l ws k j1 u1 p1))
 (hW:callA CP 102 [.i (.agg K.cells), .osl 0 1 0 k, .int 8] [some (.arr 1 (intsL ws))]=some (.int W,[some (.arr 1 (intsL ws))]))
 (hkk:callA C0 98 [.own 0 0, .int 10] [Rd l p1]=some (.int kk,[Rd l (p1+1)])) (hw1:¬ 1<W) (hq:kk=9):∃ (P:Pn) (p' u':Int) (j':Nat),callA CP 119 [.own 0 0, .int ((d+1:Nat):Int)] (PSt l ws k j u p)=some (.i (.agg P.cells),PSt l ws k j' u' p')∧Th P j j' u u'∧p1≤p'∧p'≤p1+400+c2∧j'≤j1∧0≤u'∧u'≤1:=by
 have we:IntKind.i64.wrap (d:Int)=d:=wrap64 (by omega) (by omega)
 have hK:=hKB.1
 have wn:¬ ((d:Int)+1=0):=by omega
 simp only[PSt]at hkid
 rw[Pn.cells_eq K]at hkid hW
 refine⟨.mk 8 0 [] [] [K],p1+1,u1,j1,?_,Th.one (by simp[Pn.thin,Pn.thinL,hK]) hKB,by omega,by omega,by omega,by omega,by omega⟩
 rw[callA_eq rfl Tryz.func119 rfl rfl]
 simp[PSt,ht,hv,v0,we,hkid,hW,hkk,wn,hq,hw1,Pn.cells_mk,Ex.cellsL,intsL,Pn.cellsL,Pn.cells_eq K]
theorem plan_group2 {l:List UInt8} (hl:l.length≤2000) {ws:List Int} {k:Nat} {d j c2:Nat} {p u t v W kk p1 u1:Int} {j1:Nat} {K:Pn} (hd:d<100) (h1:p1+400+c2<300000000) (hp1:0≤p1) (hu0:0≤u1) (hu1:u1≤1) (hW0:0≤W) (hW6:W≤6) (hKB:Th K j j1 u u1)
 (ht:callA C0 98 [.own 0 0, .int k] [Rd l p]=some (.int t,[Rd l (p+1)])) (hv:callA C0 98 [.own 0 0, .int 6] [Rd l (p+1)]=some (.int v,[Rd l (p+1+1)])) (v0:¬ v=0)
 (hkid:callA CP 119 [.own 0 0, .int d] (PSt l ws k j u (p+1+1))=some (.i (.agg K.cells),PSt l ws k j1 u1 p1))
 (hW:callA CP 102 [.i (.agg K.cells), .osl 0 1 0 k, .int 8] [some (.arr 1 (intsL ws))]=some (.int W,[some (.arr 1 (intsL ws))]))
 (hkk:callA C0 98 [.own 0 0, .int 10] [Rd l p1]=some (.int kk,[Rd l (p1+1)])) (hw1:1<W) (hq:kk=9):∃ (P:Pn) (p' u':Int) (j':Nat),callA CP 119 [.own 0 0, .int ((d+1:Nat):Int)] (PSt l ws k j u p)=some (.i (.agg P.cells),PSt l ws k j' u' p')∧Th P j j' u u'∧p1≤p'∧p'≤p1+400+c2∧j'≤j1∧0≤u'∧u'≤1:=by
 have we:IntKind.i64.wrap (d:Int)=d:=wrap64 (by omega) (by omega)
 have hK:=hKB.1
 have wn:¬ ((d:Int)+1=0):=by omega
 simp only[PSt]at hkid
 rw[Pn.cells_eq K]at hkid hW
 obtain⟨g,hg,-,-⟩:=pick_eq l (p1+1) W (by omega) (by omega) hl
 refine⟨.mk 8 0 [] [g] [K],p1+1+1,u1,j1,?_,Th.one (by simp[Pn.thin,Pn.thinL,hK]) hKB,by omega,by omega,by omega,by omega,by omega⟩
 rw[callA_eq rfl Tryz.func119 rfl rfl]
 simp[PSt,ht,hv,v0,we,hkid,hW,hkk,wn,hq,hg,hw1,Pn.cells_mk,Ex.cellsL,intsL,Pn.cellsL,Pn.cells_eq K]
theorem plan_join5 {l:List UInt8} (hl:l.length≤2000) {ws:List Int} (hw:∀ w∈ws,0≤w∧w≤6) (hwl:ws.length<1000000) {k:Nat} (hk0:0<k) (hkl:k≤ws.length) {d j c2:Nat} {p u t v W kk p1 u1:Int} {j1:Nat} {K:Pn} (hd:d<100) (h1:p1+400+c2<300000000) (hp1:0≤p1) (hu0:0≤u1) (hu1:u1≤1) (hW0:0≤W) (hW6:W≤6) (hKB:Th K j j1 u u1)
 (ht:callA C0 98 [.own 0 0, .int k] [Rd l p]=some (.int t,[Rd l (p+1)])) (hv:callA C0 98 [.own 0 0, .int 6] [Rd l (p+1)]=some (.int v,[Rd l (p+1+1)])) (v0:¬ v=0)
 (hkid:callA CP 119 [.own 0 0, .int d] (PSt l ws k j u (p+1+1))=some (.i (.agg K.cells),PSt l ws k j1 u1 p1))
 (hW:callA CP 102 [.i (.agg K.cells), .osl 0 1 0 k, .int 8] [some (.arr 1 (intsL ws))]=some (.int W,[some (.arr 1 (intsL ws))]))
 (hkk:callA C0 98 [.own 0 0, .int 10] [Rd l p1]=some (.int kk,[Rd l (p1+1)])) (hj:j1≠0) (hjb:j1<1000) (hw4:W≤4) (hoth:∀ y:Nat,y≤1→PlanOk l ws k y (j1-1) c2) (hq:kk=5):∃ (P:Pn) (p' u':Int) (j':Nat),callA CP 119 [.own 0 0, .int ((d+1:Nat):Int)] (PSt l ws k j u p)=some (.i (.agg P.cells),PSt l ws k j' u' p')∧Th P j j' u u'∧p1≤p'∧p'≤p1+400+c2∧j'≤j1∧0≤u'∧u'≤1:=by
 have we:IntKind.i64.wrap (d:Int)=d:=wrap64 (by omega) (by omega)
 have hK:=hKB.1
 have wn:¬ ((d:Int)+1=0):=by omega
 simp only[PSt]at hkid
 rw[Pn.cells_eq K]at hkid hW
 have hj':0<j1:=by omega
 have wj:IntKind.i64.wrap ((j1:Int)-1)=((j1-1:Nat):Int):=by rw[wrap64 (by omega) (by omega)];omega
 obtain⟨x,hx,hx1,-⟩:=pick_eq l (p1+1) 2 (by omega) (by omega) hl
 obtain⟨x0,x1⟩:=hx1 (by omega)
 obtain⟨y,rfl⟩:∃ y:Nat,x=y:=⟨x.toNat,by omega⟩
 obtain⟨O,p2,u2,j2,hO,hOt,b1,b2,b3,b4,b5⟩:=hoth y (by omega) (p1+1+1) u1 (by omega) (by omega) hu0 hu1
 have hV:=splanWidth_own hw hwl hk0 hkl O hOt.1
 have hVr:=Pn.wd_range (ws:=ws.take k) (fun w hm=>hw w (List.mem_of_mem_take hm)) O 8
 generalize O.wd (ws.take k) 8=V at hV hVr
 have wv:IntKind.i64.wrap (W+V)=W+V:=wrap64 (by omega) (by omega)
 simp only[PSt]at hO
 rw[Pn.cells_eq O]at hO hV
 by_cases hs:W+V≤6
 ·have h1:=one_eq l p2 (by omega) (by omega) hl [[.int 4],[.int 5]] (by simp) (by simp) (by simp)
  obtain⟨z,hz,hzm⟩:=h1
  obtain⟨e,p3,he,a1,a2,a3⟩:=randomCondition_eq l hl (W+V) (p2+1) (by omega) (by omega)
  rw[Ex.cells_eq e]at he
  simp only[List.length_cons,List.length_nil,Nat.zero_add,Nat.reduceAdd]at hz
  have het:=Ex.thin_of_size e (by omega)
  refine⟨.mk z 0 [e] [] [K,O],p3,u2,j2,?_,Th.jn (by simp[Pn.thin,Pn.thinL,hK,hOt.1,het]) hj hKB hOt,by omega,by omega,by omega,by omega,by omega⟩
  rw[callA_eq rfl Tryz.func119 rfl rfl]
  simp[PSt,ht,hv,v0,we,hkid,hW,hkk,wn,hq,hj',hj,hw4,wj,hx,hO,hV,wv,hs,hz,he,Pn.cells_mk,Ex.cellsL,intsL,Pn.cellsL,Pn.cells_eq K,Pn.cells_eq O,Ex.cells_eq e]
 ·obtain⟨e,p3,he,a1,a2,a3⟩:=randomCondition_eq l hl W p2 (by omega) (by omega)
  have hf:=filterOf_eq e K
  rw[filtP_cells,Pn.cells_eq K,Ex.cells_eq e]at hf
  rw[Ex.cells_eq e]at he
  refine⟨filtP e K,p3,u2,j2,?_,Th.skip (filtP_thin (by omega) hK) hKB (by omega) hOt.2.1.2.1,by omega,by omega,by omega,by omega,by omega⟩
  rw[callA_eq rfl Tryz.func119 rfl rfl]
  simp[PSt,ht,hv,v0,we,hkid,hW,hkk,wn,hq,hj',hj,hw4,wj,hx,hO,hV,wv,hs,he,hf,filtP_cells,Pn.cells_eq K,Ex.cells_eq e]
theorem plan_join6 {l:List UInt8} (hl:l.length≤2000) {ws:List Int} (hw:∀ w∈ws,0≤w∧w≤6) (hwl:ws.length<1000000) {k:Nat} (hk0:0<k) (hkl:k≤ws.length) {d j c2:Nat} {p u t v W kk p1 u1:Int} {j1:Nat} {K:Pn} (hd:d<100) (h1:p1+400+c2<300000000) (hp1:0≤p1) (hu0:0≤u1) (hu1:u1≤1) (hW0:0≤W) (hW6:W≤6) (hKB:Th K j j1 u u1)
 (ht:callA C0 98 [.own 0 0, .int k] [Rd l p]=some (.int t,[Rd l (p+1)])) (hv:callA C0 98 [.own 0 0, .int 6] [Rd l (p+1)]=some (.int v,[Rd l (p+1+1)])) (v0:¬ v=0)
 (hkid:callA CP 119 [.own 0 0, .int d] (PSt l ws k j u (p+1+1))=some (.i (.agg K.cells),PSt l ws k j1 u1 p1))
 (hW:callA CP 102 [.i (.agg K.cells), .osl 0 1 0 k, .int 8] [some (.arr 1 (intsL ws))]=some (.int W,[some (.arr 1 (intsL ws))]))
 (hkk:callA C0 98 [.own 0 0, .int 10] [Rd l p1]=some (.int kk,[Rd l (p1+1)])) (hj:j1≠0) (hjb:j1<1000) (hw4:W≤4) (hoth:∀ y:Nat,y≤1→PlanOk l ws k y (j1-1) c2) (hq:kk=6):∃ (P:Pn) (p' u':Int) (j':Nat),callA CP 119 [.own 0 0, .int ((d+1:Nat):Int)] (PSt l ws k j u p)=some (.i (.agg P.cells),PSt l ws k j' u' p')∧Th P j j' u u'∧p1≤p'∧p'≤p1+400+c2∧j'≤j1∧0≤u'∧u'≤1:=by
 have we:IntKind.i64.wrap (d:Int)=d:=wrap64 (by omega) (by omega)
 have hK:=hKB.1
 have wn:¬ ((d:Int)+1=0):=by omega
 simp only[PSt]at hkid
 rw[Pn.cells_eq K]at hkid hW
 have hj':0<j1:=by omega
 have wj:IntKind.i64.wrap ((j1:Int)-1)=((j1-1:Nat):Int):=by rw[wrap64 (by omega) (by omega)];omega
 obtain⟨x,hx,hx1,-⟩:=pick_eq l (p1+1) 2 (by omega) (by omega) hl
 obtain⟨x0,x1⟩:=hx1 (by omega)
 obtain⟨y,rfl⟩:∃ y:Nat,x=y:=⟨x.toNat,by omega⟩
 obtain⟨O,p2,u2,j2,hO,hOt,b1,b2,b3,b4,b5⟩:=hoth y (by omega) (p1+1+1) u1 (by omega) (by omega) hu0 hu1
 have hV:=splanWidth_own hw hwl hk0 hkl O hOt.1
 have hVr:=Pn.wd_range (ws:=ws.take k) (fun w hm=>hw w (List.mem_of_mem_take hm)) O 8
 generalize O.wd (ws.take k) 8=V at hV hVr
 have wv:IntKind.i64.wrap (W+V)=W+V:=wrap64 (by omega) (by omega)
 simp only[PSt]at hO
 rw[Pn.cells_eq O]at hO hV
 by_cases hs:W+V≤6
 ·have h1:=one_eq l p2 (by omega) (by omega) hl [[.int 4],[.int 5]] (by simp) (by simp) (by simp)
  obtain⟨z,hz,hzm⟩:=h1
  obtain⟨e,p3,he,a1,a2,a3⟩:=randomCondition_eq l hl (W+V) (p2+1) (by omega) (by omega)
  rw[Ex.cells_eq e]at he
  simp only[List.length_cons,List.length_nil,Nat.zero_add,Nat.reduceAdd]at hz
  have het:=Ex.thin_of_size e (by omega)
  refine⟨.mk z 0 [e] [] [K,O],p3,u2,j2,?_,Th.jn (by simp[Pn.thin,Pn.thinL,hK,hOt.1,het]) hj hKB hOt,by omega,by omega,by omega,by omega,by omega⟩
  rw[callA_eq rfl Tryz.func119 rfl rfl]
  simp[PSt,ht,hv,v0,we,hkid,hW,hkk,wn,hq,hj',hj,hw4,wj,hx,hO,hV,wv,hs,hz,he,Pn.cells_mk,Ex.cellsL,intsL,Pn.cellsL,Pn.cells_eq K,Pn.cells_eq O,Ex.cells_eq e]
 ·obtain⟨e,p3,he,a1,a2,a3⟩:=randomCondition_eq l hl W p2 (by omega) (by omega)
  have hf:=filterOf_eq e K
  rw[filtP_cells,Pn.cells_eq K,Ex.cells_eq e]at hf
  rw[Ex.cells_eq e]at he
  refine⟨filtP e K,p3,u2,j2,?_,Th.skip (filtP_thin (by omega) hK) hKB (by omega) hOt.2.1.2.1,by omega,by omega,by omega,by omega,by omega⟩
  rw[callA_eq rfl Tryz.func119 rfl rfl]
  simp[PSt,ht,hv,v0,we,hkid,hW,hkk,wn,hq,hj',hj,hw4,wj,hx,hO,hV,wv,hs,he,hf,filtP_cells,Pn.cells_eq K,Ex.cells_eq e]
theorem plan_proj3 {l:List UInt8} (hl:l.length≤2000) {ws:List Int} {k:Nat} {d j c2:Nat} {p u t v W kk p1 u1:Int} {j1:Nat} {K:Pn} (hd:d<100) (h1:p1+400+c2<300000000) (hp1:0≤p1) (hu0:0≤u1) (hu1:u1≤1) (hW0:0≤W) (hW6:W≤6) (hKB:Th K j j1 u u1)
 (ht:callA C0 98 [.own 0 0, .int k] [Rd l p]=some (.int t,[Rd l (p+1)])) (hv:callA C0 98 [.own 0 0, .int 6] [Rd l (p+1)]=some (.int v,[Rd l (p+1+1)])) (v0:¬ v=0)
 (hkid:callA CP 119 [.own 0 0, .int d] (PSt l ws k j u (p+1+1))=some (.i (.agg K.cells),PSt l ws k j1 u1 p1))
 (hW:callA CP 102 [.i (.agg K.cells), .osl 0 1 0 k, .int 8] [some (.arr 1 (intsL ws))]=some (.int W,[some (.arr 1 (intsL ws))]))
 (hkk:callA C0 98 [.own 0 0, .int 10] [Rd l p1]=some (.int kk,[Rd l (p1+1)])) (hq:kk=3):∃ (P:Pn) (p' u':Int) (j':Nat),callA CP 119 [.own 0 0, .int ((d+1:Nat):Int)] (PSt l ws k j u p)=some (.i (.agg P.cells),PSt l ws k j' u' p')∧Th P j j' u u'∧p1≤p'∧p'≤p1+400+c2∧j'≤j1∧0≤u'∧u'≤1:=by
 have we:IntKind.i64.wrap (d:Int)=d:=wrap64 (by omega) (by omega)
 have hK:=hKB.1
 have wn:¬ ((d:Int)+1=0):=by omega
 simp only[PSt]at hkid
 rw[Pn.cells_eq K]at hkid hW
 obtain⟨m,hm,hm1,-⟩:=pick_eq l (p1+1) 2 (by omega) (by omega) hl
 obtain⟨m0,m1⟩:=hm1 (by omega)
 have w2:IntKind.i64.wrap (2:Int)=2:=wrap64 (by omega) (by omega)
 have w1:=wrap_1
 have w0:IntKind.i64.wrap (0:Int)=0:=wrap64 (by omega) (by omega)
 obtain⟨x1,hx1,hy1,-⟩:=pick_eq l (p1+1+1) 2 (by omega) (by omega) hl
 obtain⟨x1a,x1b⟩:=hy1 (by omega)
 obtain⟨y1,rfl⟩:∃ y:Nat,x1=y:=⟨x1.toNat,by omega⟩
 have hc1:costE y1≤9:=by rcases(show y1=0∨y1=1 by omega)with h|h<;>simp[h,costE]
 obtain⟨e1,q1,he1,c1a,c1b,c1c⟩:=rE l hl W y1 (by omega) (by omega) ((p1+1+1)+1) (by omega) (by omega)
 rw[Ex.cells_eq e1]at he1
 have t1:=Ex.thin_of_size e1 (by omega)
 rcases(show m=0∨m=1 by omega)with rfl|rfl
 ·refine⟨.mk 3 0 [e1] [] [K],q1,u1,j1,?_,Th.one (by simp[Pn.thin,Pn.thinL,hK,t1]) hKB,by omega,by omega,by omega,by omega,by omega⟩
  rw[callA_eq rfl Tryz.func119 rfl rfl]
  simp[PSt,ht,hv,v0,we,hkid,hW,hkk,wn,hq,hm,w1]
  rw[execA_loop];simp[hx1,he1,w0]
  rw[execA_loop];simp[Pn.cells_mk,Ex.cellsL,intsL,Pn.cellsL,Pn.cells_eq K,Ex.cells_eq e1,PSt]
 ·obtain⟨x2,hx2,hy2,-⟩:=pick_eq l q1 2 (by omega) (by omega) hl
  obtain⟨x2a,x2b⟩:=hy2 (by omega)
  obtain⟨y2,rfl⟩:∃ y:Nat,x2=y:=⟨x2.toNat,by omega⟩
  have hc2:costE y2≤9:=by rcases(show y2=0∨y2=1 by omega)with h|h<;>simp[h,costE]
  obtain⟨e2,q2,he2,c2a,c2b,c2c⟩:=rE l hl W y2 (by omega) (by omega) (q1+1) (by omega) (by omega)
  rw[Ex.cells_eq e2]at he2
  have t2:=Ex.thin_of_size e2 (by omega)
  refine⟨.mk 3 0 [e1,e2] [] [K],q2,u1,j1,?_,Th.one (by simp[Pn.thin,Pn.thinL,hK,t1,t2]) hKB,by omega,by omega,by omega,by omega,by omega⟩
  rw[callA_eq rfl Tryz.func119 rfl rfl]
  simp[PSt,ht,hv,v0,we,hkid,hW,hkk,wn,hq,hm,w2]
  rw[execA_loop];simp[hx1,he1,w1]
  rw[execA_loop];simp[hx2,he2,w0]
  rw[execA_loop];simp[Pn.cells_mk,Ex.cellsL,intsL,Pn.cellsL,Pn.cells_eq K,Ex.cells_eq e1,Ex.cells_eq e2,PSt]
theorem plan_proj4 {l:List UInt8} (hl:l.length≤2000) {ws:List Int} {k:Nat} {d j c2:Nat} {p u t v W kk p1 u1:Int} {j1:Nat} {K:Pn} (hd:d<100) (h1:p1+400+c2<300000000) (hp1:0≤p1) (hu0:0≤u1) (hu1:u1≤1) (hW0:0≤W) (hW6:W≤6) (hKB:Th K j j1 u u1)
 (ht:callA C0 98 [.own 0 0, .int k] [Rd l p]=some (.int t,[Rd l (p+1)])) (hv:callA C0 98 [.own 0 0, .int 6] [Rd l (p+1)]=some (.int v,[Rd l (p+1+1)])) (v0:¬ v=0)
 (hkid:callA CP 119 [.own 0 0, .int d] (PSt l ws k j u (p+1+1))=some (.i (.agg K.cells),PSt l ws k j1 u1 p1))
 (hW:callA CP 102 [.i (.agg K.cells), .osl 0 1 0 k, .int 8] [some (.arr 1 (intsL ws))]=some (.int W,[some (.arr 1 (intsL ws))]))
 (hkk:callA C0 98 [.own 0 0, .int 10] [Rd l p1]=some (.int kk,[Rd l (p1+1)])) (hq:kk=4):∃ (P:Pn) (p' u':Int) (j':Nat),callA CP 119 [.own 0 0, .int ((d+1:Nat):Int)] (PSt l ws k j u p)=some (.i (.agg P.cells),PSt l ws k j' u' p')∧Th P j j' u u'∧p1≤p'∧p'≤p1+400+c2∧j'≤j1∧0≤u'∧u'≤1:=by
 have we:IntKind.i64.wrap (d:Int)=d:=wrap64 (by omega) (by omega)
 have hK:=hKB.1
 have wn:¬ ((d:Int)+1=0):=by omega
 simp only[PSt]at hkid
 rw[Pn.cells_eq K]at hkid hW
 obtain⟨m,hm,hm1,-⟩:=pick_eq l (p1+1) 2 (by omega) (by omega) hl
 obtain⟨m0,m1⟩:=hm1 (by omega)
 have w2:IntKind.i64.wrap (2:Int)=2:=wrap64 (by omega) (by omega)
 have w1:=wrap_1
 have w0:IntKind.i64.wrap (0:Int)=0:=wrap64 (by omega) (by omega)
 obtain⟨x1,hx1,hy1,-⟩:=pick_eq l (p1+1+1) 2 (by omega) (by omega) hl
 obtain⟨x1a,x1b⟩:=hy1 (by omega)
 obtain⟨y1,rfl⟩:∃ y:Nat,x1=y:=⟨x1.toNat,by omega⟩
 have hc1:costE y1≤9:=by rcases(show y1=0∨y1=1 by omega)with h|h<;>simp[h,costE]
 obtain⟨e1,q1,he1,c1a,c1b,c1c⟩:=rE l hl W y1 (by omega) (by omega) ((p1+1+1)+1) (by omega) (by omega)
 rw[Ex.cells_eq e1]at he1
 have t1:=Ex.thin_of_size e1 (by omega)
 rcases(show m=0∨m=1 by omega)with rfl|rfl
 ·refine⟨.mk 3 0 [e1] [] [K],q1,u1,j1,?_,Th.one (by simp[Pn.thin,Pn.thinL,hK,t1]) hKB,by omega,by omega,by omega,by omega,by omega⟩
  rw[callA_eq rfl Tryz.func119 rfl rfl]
  simp[PSt,ht,hv,v0,we,hkid,hW,hkk,wn,hq,hm,w1]
  rw[execA_loop];simp[hx1,he1,w0]
  rw[execA_loop];simp[Pn.cells_mk,Ex.cellsL,intsL,Pn.cellsL,Pn.cells_eq K,Ex.cells_eq e1,PSt]
 ·obtain⟨x2,hx2,hy2,-⟩:=pick_eq l q1 2 (by omega) (by omega) hl
  obtain⟨x2a,x2b⟩:=hy2 (by omega)
  obtain⟨y2,rfl⟩:∃ y:Nat,x2=y:=⟨x2.toNat,by omega⟩
  have hc2:costE y2≤9:=by rcases(show y2=0∨y2=1 by omega)with h|h<;>simp[h,costE]
  obtain⟨e2,q2,he2,c2a,c2b,c2c⟩:=rE l hl W y2 (by omega) (by omega) (q1+1) (by omega) (by omega)
  rw[Ex.cells_eq e2]at he2
  have t2:=Ex.thin_of_size e2 (by omega)
  refine⟨.mk 3 0 [e1,e2] [] [K],q2,u1,j1,?_,Th.one (by simp[Pn.thin,Pn.thinL,hK,t1,t2]) hKB,by omega,by omega,by omega,by omega,by omega⟩
  rw[callA_eq rfl Tryz.func119 rfl rfl]
  simp[PSt,ht,hv,v0,we,hkid,hW,hkk,wn,hq,hm,w2]
  rw[execA_loop];simp[hx1,he1,w1]
  rw[execA_loop];simp[hx2,he2,w0]
  rw[execA_loop];simp[Pn.cells_mk,Ex.cellsL,intsL,Pn.cellsL,Pn.cells_eq K,Ex.cells_eq e1,Ex.cells_eq e2,PSt]
theorem plan_scan {l:List UInt8} {ws:List Int} {k:Nat} {d j:Nat} {p u t:Int} (hd:d<100) (ht:callA C0 98 [.own 0 0, .int k] [Rd l p]=some (.int t,[Rd l (p+1)])) (hv:callA C0 98 [.own 0 0, .int 6] [Rd l (p+1)]=some (.int 0,[Rd l (p+1+1)])) :
 callA CP 119 [.own 0 0, .int ((d+1:Nat):Int)] (PSt l ws k j u p)=some (.i (.agg (Pn.scan t).cells),PSt l ws k j u (p+1+1)):=by
 have wn:¬ ((d:Int)+1=0):=by omega
 rw[callA_eq rfl Tryz.func119 rfl rfl]
 simp[PSt,ht,hv,scan_cells,wn]
theorem plan_step {l:List UInt8} (hl:l.length≤2000) {ws:List Int} (hw:∀ w∈ws,0≤w∧w≤6) (hwl:ws.length<1000000) {k:Nat} (hk0:0<k) (hkl:k≤ws.length) {d j c c2:Nat} (hd:d<100) (hjb:j<1000) (ih:PlanOk l ws k d j c) (hoth:∀ i:Nat,i<j→∀ y:Nat,y≤1→PlanOk l ws k y i c2):PlanOk l ws k (d+1) j (c+c2+500):=by
 intro p u h0 h1 hu0 hu1
 obtain⟨t,ht,-,-⟩:=pick_eq l p k h0 (by omega) hl
 obtain⟨v,hv,-,-⟩:=pick_eq l (p+1) 6 (by omega) (by omega) hl
 by_cases v0:v=0
 ·subst v0
  exact⟨.scan t,p+1+1,u,j,plan_scan hd ht hv,Th.scan (Pn.scan_thin t) _ _,by omega,by omega,by omega,by omega,by omega⟩
 obtain⟨K,p1,u1,j1,hkid,hK,a1,a2,a3,a4,a5⟩:=ih (p+1+1) u (by omega) (by omega) hu0 hu1
 have hW:=splanWidth_own hw hwl hk0 hkl K hK.1
 have hWr:=Pn.wd_range (ws:=ws.take k) (fun w hm=>hw w (List.mem_of_mem_take hm)) K 8
 generalize K.wd (ws.take k) 8=W at hW hWr
 obtain⟨kk,hkk,hkk1,-⟩:=pick_eq l p1 10 (by omega) (by omega) hl
 obtain⟨kk0,kk9⟩:=hkk1 (by omega)
 suffices H:∃ (P:Pn) (p' u':Int) (j':Nat),callA CP 119 [.own 0 0, .int ((d+1:Nat):Int)] (PSt l ws k j u p)=some (.i (.agg P.cells),PSt l ws k j' u' p')∧Th P j j' u u'∧p1≤p'∧p'≤p1+400+c2∧j'≤j1∧0≤u'∧u'≤1 by
  obtain⟨P,p',u',j',b1,b2,b3,b4,b5,b6,b7⟩:=H
  exact⟨P,p',u',j',b1,b2,by omega,by omega,by omega,b6,b7⟩
 have hb:p1+400+c2<300000000:=by omega
 have hp1:0≤p1:=by omega
 by_cases q0:kk=0
 ·exact plan_filter0 hl hd hb hp1 a4 a5 hWr.1 hWr.2 hK ht hv v0 hkid hW hkk q0
 by_cases q1:kk=1
 ·exact plan_filter1 hl hd hb hp1 a4 a5 hWr.1 hWr.2 hK ht hv v0 hkid hW hkk q1
 by_cases q2:kk=2
 ·exact plan_filter2 hl hd hb hp1 a4 a5 hWr.1 hWr.2 hK ht hv v0 hkid hW hkk q2
 by_cases q3:kk=3
 ·exact plan_proj3 hl hd hb hp1 a4 a5 hWr.1 hWr.2 hK ht hv v0 hkid hW hkk q3
 by_cases q4:kk=4
 ·exact plan_proj4 hl hd hb hp1 a4 a5 hWr.1 hWr.2 hK ht hv v0 hkid hW hkk q4
 by_cases q5:kk=5
 ·by_cases hj:j1=0
  ·exact plan_nojoin5 hl hd hb hp1 a4 a5 hWr.1 hWr.2 hK ht hv v0 hkid hW hkk hj q5
  by_cases hw4:W≤4
  ·exact plan_join5 hl hw hwl hk0 hkl hd hb hp1 a4 a5 hWr.1 hWr.2 hK ht hv v0 hkid hW hkk hj (by omega) hw4 (fun y hy=>hoth (j1-1) (by omega) y hy) q5
  ·exact plan_wide5 hl hd hb hp1 a4 a5 hWr.1 hWr.2 hK ht hv v0 hkid hW hkk hj hw4 q5
 by_cases q6:kk=6
 ·by_cases hj:j1=0
  ·exact plan_nojoin6 hl hd hb hp1 a4 a5 hWr.1 hWr.2 hK ht hv v0 hkid hW hkk hj q6
  by_cases hw4:W≤4
  ·exact plan_join6 hl hw hwl hk0 hkl hd hb hp1 a4 a5 hWr.1 hWr.2 hK ht hv v0 hkid hW hkk hj (by omega) hw4 (fun y hy=>hoth (j1-1) (by omega) y hy) q6
  ·exact plan_wide6 hl hd hb hp1 a4 a5 hWr.1 hWr.2 hK ht hv v0 hkid hW hkk hj hw4 q6
 by_cases q7:kk=7
 ·by_cases hu:0<u1
  ·exact plan_union hl hd hb hp1 a4 a5 hWr.1 hWr.2 hK ht hv v0 hkid hW hkk hu q7
  ·exact plan_nounion hl hd hb hp1 a4 a5 hWr.1 hWr.2 hK ht hv v0 hkid hW hkk hu q7
 by_cases q8:kk=8
 ·exact plan_distinct hl hd hb hp1 a4 a5 hWr.1 hWr.2 hK ht hv v0 hkid hW hkk q8
 have q9:kk=9:=by omega
 by_cases hw1:1<W
 ·exact plan_group2 hl hd hb hp1 a4 a5 hWr.1 hWr.2 hK ht hv v0 hkid hW hkk hw1 q9
 ·exact plan_group1 hl hd hb hp1 a4 a5 hWr.1 hWr.2 hK ht hv v0 hkid hW hkk hw1 q9
theorem PlanOk.le {l:List UInt8} {ws:List Int} {k:Nat} {d j c c':Nat} (h:PlanOk l ws k d j c) (hc:c≤c'):PlanOk l ws k d j c':=by
 intro p u h0 h1 hu0 hu1
 obtain⟨P,p',u',j',b1,b2,b3,b4,b5,b6,b7⟩:=h p u h0 (by omega) hu0 hu1
 exact⟨P,p',u',j',b1,b2,b3,by omega,b5,b6,b7⟩
theorem plan_none {l:List UInt8} (hl:l.length≤2000) {ws:List Int} (hw:∀ w∈ws,0≤w∧w≤6) (hwl:ws.length<1000000) {k:Nat} (hk0:0<k) (hkl:k≤ws.length):∀ d:Nat,d<50→PlanOk l ws k d 0 (500*d+1)
 | 0,_=>(plan_zero hl 0).le (by omega)
 | d+1,h=>(plan_step hl hw hwl hk0 hkl (c2:=0) (by omega) (by omega) (plan_none hl hw hwl hk0 hkl d (by omega)) (fun i hi=>by omega)).le (by omega)
theorem plan_one {l:List UInt8} (hl:l.length≤2000) {ws:List Int} (hw:∀ w∈ws,0≤w∧w≤6) (hwl:ws.length<1000000) {k:Nat} (hk0:0<k) (hkl:k≤ws.length):∀ d:Nat,d<50→PlanOk l ws k d 1 (2000*d+1)
 | 0,_=>(plan_zero hl 1).le (by omega)
 | d + 1,h=>(plan_step hl hw hwl hk0 hkl (c2:=501) (by omega) (by omega) (plan_one hl hw hwl hk0 hkl d (by omega)) (fun i hi y hy=>by
     obtain rfl:i=0:=by omega
     exact(plan_none hl hw hwl hk0 hkl y (by omega)).le (by omega))).le (by omega)
theorem filt_step {e:Ex} {p:Pn} (he:e.size≤120) (hp:p.thin):(filtP e p).thin:=filtP_thin (by omega) hp
end Go.Proofs.YtiailccmofdhfaaGreat.P

/- Part 7 of what the proof rests on: the executor and what it is worth, and the program's functions as it runs them. No condition. -/
import Derived.Test.YtiailccmofdhfaaGreatT6
import Derived.Test.YtiailccmofdhfaaGreatRows
import Derived.WalkKit
import Derived.ProofKit
import Derived.Below
import Derived.JoinedOf
set_option linter.unusedVariables false
set_option linter.unusedSimpArgs false
namespace Go.Proofs.YtiailccmofdhfaaGreat.P
open Go Go.Av
set_option maxRecDepth 4000
set_option maxHeartbeats 8000000
def bl (n:Nat):Nat:=if n=0 then 0 else 1
def rX (b:Nat) (P:Pn):AV:=.agg [.int P.kind, .int P.table,gro b 5 P.exprs.length,gro (b+bl P.exprs.length) 1 P.cols.length,gro (b+bl P.exprs.length+bl P.cols.length) 5 P.kids.length]
def rS (P:Pn):StL:=groB 5 (Ex.cellsL P.exprs) P.exprs.length++(groB 1 (intsL P.cols) P.cols.length++groB 5 (Pn.cellsL P.kids) P.kids.length)
@[simp] theorem cq_plan (a:List AV) (st:StL):callA CQ 119 a st=callA CP 119 a st:=by rw[callA_prim (p:=callA CP 119) rfl]
@[simp] theorem cq_filterOf (a:List AV) (st:StL):callA CQ 121 a st=bodyA C0 true 121 a st:=by rw[callA_prim (p:=bodyA C0 true 121) rfl]
@[simp] theorem cq_planWidth (a:List AV) (st:StL):callA CQ 102 a st=callA CP 102 a st:=by rw[callA_prim (p:=lookC (callA C0) 102) rfl,callA_prim (p:=lookC (callA C0) 102) rfl]
@[simp] theorem cq_copyPlan (a:List AV) (st:StL):callA CQ 123 a st=callA CP 123 a st:=by rw[callA_prim (p:=frzO (callA C0) 123) rfl,callA_prim (p:=frzO (callA C0) 123) rfl]
@[simp] theorem cq_pick (a:List AV) (st:StL):callA CQ 98 a st=callA C0 98 a st:=by rw[callA_prim (p:=callA C0 98) rfl]
@[simp] theorem cq_one (a:List AV) (st:StL):callA CQ 124 a st=callA C0 124 a st:=by rw[callA_prim (p:=callA C0 124) rfl]
@[simp] theorem cq_cond (a:List AV) (st:StL):callA CQ 122 a st=callA C0 122 a st:=by rw[callA_prim (p:=callA C0 122) rfl]
@[simp] theorem cq_expr (a:List AV) (st:StL):callA CQ 167 a st=callA C0 167 a st:=by rw[callA_prim (p:=callA C0 167) rfl]
theorem filterOf_own (e:Ex) (p:Pn):bodyA C0 true 121 [.i (.agg e.cells), .i (.agg p.cells)] []=some (.agg [.int 2, .int 0, .osl 0 5 0 1, .nils, .osl 1 5 0 1],[some (.arr 5 [e.cells]),some (.arr 5 [p.cells])]):=by
 rw[bodyA_eq Tryz.func121 rfl rfl,Ex.cells_eq,Pn.cells_eq]
 simp
def RootOk (l:List UInt8) (ws:List Int) (k d j c:Nat):Prop:=∀ p u:Int,0≤p→p+c<300000000→0≤u→u≤1→∃ (P:Pn) (p' u':Int) (j':Nat),
    bodyA CQ true 119 [.own 0 0, .int d] (PSt l ws k j u p)=some (rX 3 P,PSt l ws k j' u' p'++rS P)∧Th P j j' u u'∧p≤p'∧p'≤p+c∧j'≤j∧0≤u'∧u'≤1∧P.exprs.length≤2∧P.cols.length≤1
theorem root_scan {l:List UInt8} {ws:List Int} {k:Nat} {d j:Nat} {p u t:Int} (hd:d<100) (ht:callA C0 98 [.own 0 0, .int k] [Rd l p]=some (.int t,[Rd l (p+1)])) (hv:callA C0 98 [.own 0 0, .int 6] [Rd l (p+1)]=some (.int 0,[Rd l (p+1+1)])) :
 bodyA CQ true 119 [.own 0 0, .int ((d+1:Nat):Int)] (PSt l ws k j u p)=some (rX 3 (Pn.scan t),PSt l ws k j u (p+1+1)++rS (Pn.scan t)):=by
 have wn:¬ ((d:Int)+1=0):=by omega
 rw[bodyA_eq Tryz.func119 rfl rfl]
 simp[PSt,ht,hv,wn,rX,rS,bl,Pn.scan]
theorem root_filter0 {l:List UInt8} (hl:l.length≤2000) {ws:List Int} {k:Nat} {d j c2:Nat} {p u t v W kk p1 u1:Int} {j1:Nat} {K:Pn} (hd:d<100) (h1:p1+400+c2<300000000) (hp1:0≤p1) (hu0:0≤u1) (hu1:u1≤1) (hW0:0≤W) (hW6:W≤6) (hKB:Th K j j1 u u1)
 (ht:callA C0 98 [.own 0 0, .int k] [Rd l p]=some (.int t,[Rd l (p+1)])) (hv:callA C0 98 [.own 0 0, .int 6] [Rd l (p+1)]=some (.int v,[Rd l (p+1+1)])) (v0:¬ v=0)
 (hkid:callA CP 119 [.own 0 0, .int d] (PSt l ws k j u (p+1+1))=some (.i (.agg K.cells),PSt l ws k j1 u1 p1))
 (hW:callA CP 102 [.i (.agg K.cells), .osl 0 1 0 k, .int 8] [some (.arr 1 (intsL ws))]=some (.int W,[some (.arr 1 (intsL ws))]))
 (hkk:callA C0 98 [.own 0 0, .int 10] [Rd l p1]=some (.int kk,[Rd l (p1+1)])) (hq:kk=0):∃ (P:Pn) (p' u':Int) (j':Nat),bodyA CQ true 119 [.own 0 0, .int ((d+1:Nat):Int)] (PSt l ws k j u p)=some (rX 3 P,PSt l ws k j' u' p'++rS P)∧Th P j j' u u'∧p1≤p'∧p'≤p1+400+c2∧j'≤j1∧0≤u'∧u'≤1∧P.exprs.length≤2∧P.cols.length≤1:=by
 have we:IntKind.i64.wrap (d:Int)=d:=wrap64 (by omega) (by omega)
 have hK:=hKB.1
 have wn:¬ ((d:Int)+1=0):=by omega
 simp only[PSt]at hkid
 rw[Pn.cells_eq K]at hkid hW
 obtain⟨e,p2,he,a1,a2,a3⟩:=randomCondition_eq l hl W (p1+1) (by omega) (by omega)
 have hf:=filterOf_own e K
 rw[Pn.cells_eq K,Ex.cells_eq e]at hf
 rw[Ex.cells_eq e]at he
 refine⟨filtP e K,p2,u1,j1,?_,Th.one (filtP_thin (by omega) hK) hKB,by omega,by omega,by omega,by omega,by omega,by simp[filtP,Pn.scan],by simp[filtP,Pn.scan]⟩
 rw[bodyA_eq Tryz.func119 rfl rfl]
 simp[PSt,ht,hv,v0,we,hkid,hW,hkk,wn,hq,rX,rS,bl,he,hf,filtP,Ex.cellsL,intsL,Pn.cellsL,Pn.cells_eq K,Ex.cells_eq e]
theorem root_filter1 {l:List UInt8} (hl:l.length≤2000) {ws:List Int} {k:Nat} {d j c2:Nat} {p u t v W kk p1 u1:Int} {j1:Nat} {K:Pn} (hd:d<100) (h1:p1+400+c2<300000000) (hp1:0≤p1) (hu0:0≤u1) (hu1:u1≤1) (hW0:0≤W) (hW6:W≤6) (hKB:Th K j j1 u u1)
 (ht:callA C0 98 [.own 0 0, .int k] [Rd l p]=some (.int t,[Rd l (p+1)])) (hv:callA C0 98 [.own 0 0, .int 6] [Rd l (p+1)]=some (.int v,[Rd l (p+1+1)])) (v0:¬ v=0)
 (hkid:callA CP 119 [.own 0 0, .int d] (PSt l ws k j u (p+1+1))=some (.i (.agg K.cells),PSt l ws k j1 u1 p1))
 (hW:callA CP 102 [.i (.agg K.cells), .osl 0 1 0 k, .int 8] [some (.arr 1 (intsL ws))]=some (.int W,[some (.arr 1 (intsL ws))]))
 (hkk:callA C0 98 [.own 0 0, .int 10] [Rd l p1]=some (.int kk,[Rd l (p1+1)])) (hq:kk=1):∃ (P:Pn) (p' u':Int) (j':Nat),bodyA CQ true 119 [.own 0 0, .int ((d+1:Nat):Int)] (PSt l ws k j u p)=some (rX 3 P,PSt l ws k j' u' p'++rS P)∧Th P j j' u u'∧p1≤p'∧p'≤p1+400+c2∧j'≤j1∧0≤u'∧u'≤1∧P.exprs.length≤2∧P.cols.length≤1:=by
 have we:IntKind.i64.wrap (d:Int)=d:=wrap64 (by omega) (by omega)
 have hK:=hKB.1
 have wn:¬ ((d:Int)+1=0):=by omega
 simp only[PSt]at hkid
 rw[Pn.cells_eq K]at hkid hW
 obtain⟨e,p2,he,a1,a2,a3⟩:=randomCondition_eq l hl W (p1+1) (by omega) (by omega)
 have hf:=filterOf_own e K
 rw[Pn.cells_eq K,Ex.cells_eq e]at hf
 rw[Ex.cells_eq e]at he
 refine⟨filtP e K,p2,u1,j1,?_,Th.one (filtP_thin (by omega) hK) hKB,by omega,by omega,by omega,by omega,by omega,by simp[filtP,Pn.scan],by simp[filtP,Pn.scan]⟩
 rw[bodyA_eq Tryz.func119 rfl rfl]
 simp[PSt,ht,hv,v0,we,hkid,hW,hkk,wn,hq,rX,rS,bl,he,hf,filtP,Ex.cellsL,intsL,Pn.cellsL,Pn.cells_eq K,Ex.cells_eq e]
theorem root_filter2 {l:List UInt8} (hl:l.length≤2000) {ws:List Int} {k:Nat} {d j c2:Nat} {p u t v W kk p1 u1:Int} {j1:Nat} {K:Pn} (hd:d<100) (h1:p1+400+c2<300000000) (hp1:0≤p1) (hu0:0≤u1) (hu1:u1≤1) (hW0:0≤W) (hW6:W≤6) (hKB:Th K j j1 u u1)
 (ht:callA C0 98 [.own 0 0, .int k] [Rd l p]=some (.int t,[Rd l (p+1)])) (hv:callA C0 98 [.own 0 0, .int 6] [Rd l (p+1)]=some (.int v,[Rd l (p+1+1)])) (v0:¬ v=0)
 (hkid:callA CP 119 [.own 0 0, .int d] (PSt l ws k j u (p+1+1))=some (.i (.agg K.cells),PSt l ws k j1 u1 p1))
 (hW:callA CP 102 [.i (.agg K.cells), .osl 0 1 0 k, .int 8] [some (.arr 1 (intsL ws))]=some (.int W,[some (.arr 1 (intsL ws))]))
 (hkk:callA C0 98 [.own 0 0, .int 10] [Rd l p1]=some (.int kk,[Rd l (p1+1)])) (hq:kk=2):∃ (P:Pn) (p' u':Int) (j':Nat),bodyA CQ true 119 [.own 0 0, .int ((d+1:Nat):Int)] (PSt l ws k j u p)=some (rX 3 P,PSt l ws k j' u' p'++rS P)∧Th P j j' u u'∧p1≤p'∧p'≤p1+400+c2∧j'≤j1∧0≤u'∧u'≤1∧P.exprs.length≤2∧P.cols.length≤1:=by
 have we:IntKind.i64.wrap (d:Int)=d:=wrap64 (by omega) (by omega)
 have hK:=hKB.1
 have wn:¬ ((d:Int)+1=0):=by omega
 simp only[PSt]at hkid
 rw[Pn.cells_eq K]at hkid hW
 obtain⟨e,p2,he,a1,a2,a3⟩:=randomCondition_eq l hl W (p1+1) (by omega) (by omega)
 have hf:=filterOf_own e K
 rw[Pn.cells_eq K,Ex.cells_eq e]at hf
 rw[Ex.cells_eq e]at he
 refine⟨filtP e K,p2,u1,j1,?_,Th.one (filtP_thin (by omega) hK) hKB,by omega,by omega,by omega,by omega,by omega,by simp[filtP,Pn.scan],by simp[filtP,Pn.scan]⟩
 rw[bodyA_eq Tryz.func119 rfl rfl]
 simp[PSt,ht,hv,v0,we,hkid,hW,hkk,wn,hq,rX,rS,bl,he,hf,filtP,Ex.cellsL,intsL,Pn.cellsL,Pn.cells_eq K,Ex.cells_eq e]
theorem root_distinct {l:List UInt8} (hl:l.length≤2000) {ws:List Int} {k:Nat} {d j c2:Nat} {p u t v W kk p1 u1:Int} {j1:Nat} {K:Pn} (hd:d<100) (h1:p1+400+c2<300000000) (hp1:0≤p1) (hu0:0≤u1) (hu1:u1≤1) (hW0:0≤W) (hW6:W≤6) (hKB:Th K j j1 u u1)
 (ht:callA C0 98 [.own 0 0, .int k] [Rd l p]=some (.int t,[Rd l (p+1)])) (hv:callA C0 98 [.own 0 0, .int 6] [Rd l (p+1)]=some (.int v,[Rd l (p+1+1)])) (v0:¬ v=0)
 (hkid:callA CP 119 [.own 0 0, .int d] (PSt l ws k j u (p+1+1))=some (.i (.agg K.cells),PSt l ws k j1 u1 p1))
 (hW:callA CP 102 [.i (.agg K.cells), .osl 0 1 0 k, .int 8] [some (.arr 1 (intsL ws))]=some (.int W,[some (.arr 1 (intsL ws))]))
 (hkk:callA C0 98 [.own 0 0, .int 10] [Rd l p1]=some (.int kk,[Rd l (p1+1)])) (hq:kk=8):∃ (P:Pn) (p' u':Int) (j':Nat),bodyA CQ true 119 [.own 0 0, .int ((d+1:Nat):Int)] (PSt l ws k j u p)=some (rX 3 P,PSt l ws k j' u' p'++rS P)∧Th P j j' u u'∧p1≤p'∧p'≤p1+400+c2∧j'≤j1∧0≤u'∧u'≤1∧P.exprs.length≤2∧P.cols.length≤1:=by
 have we:IntKind.i64.wrap (d:Int)=d:=wrap64 (by omega) (by omega)
 have hK:=hKB.1
 have wn:¬ ((d:Int)+1=0):=by omega
 simp only[PSt]at hkid
 rw[Pn.cells_eq K]at hkid hW
 refine⟨.mk 7 0 [] [] [K],p1+1,u1,j1,?_,Th.one (by simp[Pn.thin,Pn.thinL,hK]) hKB,by omega,by omega,by omega,by omega,by omega,by simp[filtP,Pn.scan],by simp[filtP,Pn.scan]⟩
 rw[bodyA_eq Tryz.func119 rfl rfl]
 simp[PSt,ht,hv,v0,we,hkid,hW,hkk,wn,hq,rX,rS,bl,Pn.cells,Ex.cellsL,intsL,Pn.cellsL,Pn.cells_eq K]
theorem root_nojoin5 {l:List UInt8} (hl:l.length≤2000) {ws:List Int} {k:Nat} {d j c2:Nat} {p u t v W kk p1 u1:Int} {j1:Nat} {K:Pn} (hd:d<100) (h1:p1+400+c2<300000000) (hp1:0≤p1) (hu0:0≤u1) (hu1:u1≤1) (hW0:0≤W) (hW6:W≤6) (hKB:Th K j j1 u u1)
 (ht:callA C0 98 [.own 0 0, .int k] [Rd l p]=some (.int t,[Rd l (p+1)])) (hv:callA C0 98 [.own 0 0, .int 6] [Rd l (p+1)]=some (.int v,[Rd l (p+1+1)])) (v0:¬ v=0)
 (hkid:callA CP 119 [.own 0 0, .int d] (PSt l ws k j u (p+1+1))=some (.i (.agg K.cells),PSt l ws k j1 u1 p1))
 (hW:callA CP 102 [.i (.agg K.cells), .osl 0 1 0 k, .int 8] [some (.arr 1 (intsL ws))]=some (.int W,[some (.arr 1 (intsL ws))]))
 (hkk:callA C0 98 [.own 0 0, .int 10] [Rd l p1]=some (.int kk,[Rd l (p1+1)])) (hj:j1=0) (hq:kk=5):∃ (P:Pn) (p' u':Int) (j':Nat),bodyA CQ true 119 [.own 0 0, .int ((d+1:Nat):Int)] (PSt l ws k j u p)=some (rX 3 P,PSt l ws k j' u' p'++rS P)∧Th P j j' u u'∧p1≤p'∧p'≤p1+400+c2∧j'≤j1∧0≤u'∧u'≤1∧P.exprs.length≤2∧P.cols.length≤1:=by
 have we:IntKind.i64.wrap (d:Int)=d:=wrap64 (by omega) (by omega)
 have hK:=hKB.1
 have wn:¬ ((d:Int)+1=0):=by omega
 simp only[PSt]at hkid
 rw[Pn.cells_eq K]at hkid hW
 obtain⟨e,p2,he,a1,a2,a3⟩:=randomCondition_eq l hl W (p1+1) (by omega) (by omega)
 have hf:=filterOf_own e K
 rw[Pn.cells_eq K,Ex.cells_eq e]at hf
 rw[Ex.cells_eq e]at he
 refine⟨filtP e K,p2,u1,j1,?_,Th.one (filtP_thin (by omega) hK) hKB,by omega,by omega,by omega,by omega,by omega,by simp[filtP,Pn.scan],by simp[filtP,Pn.scan]⟩
 rw[bodyA_eq Tryz.func119 rfl rfl]
 simp[PSt,ht,hv,v0,we,hkid,hW,hkk,wn,hq,rX,rS,bl,he,hf,filtP,Ex.cellsL,intsL,Pn.cellsL,Pn.cells_eq K,Ex.cells_eq e,hj]
theorem root_wide5 {l:List UInt8} (hl:l.length≤2000) {ws:List Int} {k:Nat} {d j c2:Nat} {p u t v W kk p1 u1:Int} {j1:Nat} {K:Pn} (hd:d<100) (h1:p1+400+c2<300000000) (hp1:0≤p1) (hu0:0≤u1) (hu1:u1≤1) (hW0:0≤W) (hW6:W≤6) (hKB:Th K j j1 u u1)
 (ht:callA C0 98 [.own 0 0, .int k] [Rd l p]=some (.int t,[Rd l (p+1)])) (hv:callA C0 98 [.own 0 0, .int 6] [Rd l (p+1)]=some (.int v,[Rd l (p+1+1)])) (v0:¬ v=0)
 (hkid:callA CP 119 [.own 0 0, .int d] (PSt l ws k j u (p+1+1))=some (.i (.agg K.cells),PSt l ws k j1 u1 p1))
 (hW:callA CP 102 [.i (.agg K.cells), .osl 0 1 0 k, .int 8] [some (.arr 1 (intsL ws))]=some (.int W,[some (.arr 1 (intsL ws))]))
 (hkk:callA C0 98 [.own 0 0, .int 10] [Rd l p1]=some (.int kk,[Rd l (p1+1)])) (hj:j1≠0) (hw4:¬ W≤4) (hq:kk=5):∃ (P:Pn) (p' u':Int) (j':Nat),bodyA CQ true 119 [.own 0 0, .int ((d+1:Nat):Int)] (PSt l ws k j u p)=some (rX 3 P,PSt l ws k j' u' p'++rS P)∧Th P j j' u u'∧p1≤p'∧p'≤p1+400+c2∧j'≤j1∧0≤u'∧u'≤1∧P.exprs.length≤2∧P.cols.length≤1:=by
 have we:IntKind.i64.wrap (d:Int)=d:=wrap64 (by omega) (by omega)
 have hK:=hKB.1
 have wn:¬ ((d:Int)+1=0):=by omega
 simp only[PSt]at hkid
 rw[Pn.cells_eq K]at hkid hW
 have hj':0<j1:=by omega
 obtain⟨e,p2,he,a1,a2,a3⟩:=randomCondition_eq l hl W (p1+1) (by omega) (by omega)
 have hf:=filterOf_own e K
 rw[Pn.cells_eq K,Ex.cells_eq e]at hf
 rw[Ex.cells_eq e]at he
 refine⟨filtP e K,p2,u1,j1,?_,Th.one (filtP_thin (by omega) hK) hKB,by omega,by omega,by omega,by omega,by omega,by simp[filtP,Pn.scan],by simp[filtP,Pn.scan]⟩
 rw[bodyA_eq Tryz.func119 rfl rfl]
 simp[PSt,ht,hv,v0,we,hkid,hW,hkk,wn,hq,rX,rS,bl,he,hf,filtP,Ex.cellsL,intsL,Pn.cellsL,Pn.cells_eq K,Ex.cells_eq e,hj',hj,hw4]
theorem root_nojoin6 {l:List UInt8} (hl:l.length≤2000) {ws:List Int} {k:Nat} {d j c2:Nat} {p u t v W kk p1 u1:Int} {j1:Nat} {K:Pn} (hd:d<100) (h1:p1+400+c2<300000000) (hp1:0≤p1) (hu0:0≤u1) (hu1:u1≤1) (hW0:0≤W) (hW6:W≤6) (hKB:Th K j j1 u u1)
 (ht:callA C0 98 [.own 0 0, .int k] [Rd l p]=some (.int t,[Rd l (p+1)])) (hv:callA C0 98 [.own 0 0, .int 6] [Rd l (p+1)]=some (.int v,[Rd l (p+1+1)])) (v0:¬ v=0)
 (hkid:callA CP 119 [.own 0 0, .int d] (PSt l ws k j u (p+1+1))=some (.i (.agg K.cells),PSt l ws k j1 u1 p1))
 (hW:callA CP 102 [.i (.agg K.cells), .osl 0 1 0 k, .int 8] [some (.arr 1 (intsL ws))]=some (.int W,[some (.arr 1 (intsL ws))]))
 (hkk:callA C0 98 [.own 0 0, .int 10] [Rd l p1]=some (.int kk,[Rd l (p1+1)])) (hj:j1=0) (hq:kk=6):∃ (P:Pn) (p' u':Int) (j':Nat),bodyA CQ true 119 [.own 0 0, .int ((d+1:Nat):Int)] (PSt l ws k j u p)=some (rX 3 P,PSt l ws k j' u' p'++rS P)∧Th P j j' u u'∧p1≤p'∧p'≤p1+400+c2∧j'≤j1∧0≤u'∧u'≤1∧P.exprs.length≤2∧P.cols.length≤1:=by
 have we:IntKind.i64.wrap (d:Int)=d:=wrap64 (by omega) (by omega)
 have hK:=hKB.1
 have wn:¬ ((d:Int)+1=0):=by omega
 simp only[PSt]at hkid
 rw[Pn.cells_eq K]at hkid hW
 obtain⟨e,p2,he,a1,a2,a3⟩:=randomCondition_eq l hl W (p1+1) (by omega) (by omega)
 have hf:=filterOf_own e K
 rw[Pn.cells_eq K,Ex.cells_eq e]at hf
 rw[Ex.cells_eq e]at he
 refine⟨filtP e K,p2,u1,j1,?_,Th.one (filtP_thin (by omega) hK) hKB,by omega,by omega,by omega,by omega,by omega,by simp[filtP,Pn.scan],by simp[filtP,Pn.scan]⟩
 rw[bodyA_eq Tryz.func119 rfl rfl]
 simp[PSt,ht,hv,v0,we,hkid,hW,hkk,wn,hq,rX,rS,bl,he,hf,filtP,Ex.cellsL,intsL,Pn.cellsL,Pn.cells_eq K,Ex.cells_eq e,hj]
theorem root_wide6 {l:List UInt8} (hl:l.length≤2000) {ws:List Int} {k:Nat} {d j c2:Nat} {p u t v W kk p1 u1:Int} {j1:Nat} {K:Pn} (hd:d<100) (h1:p1+400+c2<300000000) (hp1:0≤p1) (hu0:0≤u1) (hu1:u1≤1) (hW0:0≤W) (hW6:W≤6) (hKB:Th K j j1 u u1)
 (ht:callA C0 98 [.own 0 0, .int k] [Rd l p]=some (.int t,[Rd l (p+1)])) (hv:callA C0 98 [.own 0 0, .int 6] [Rd l (p+1)]=some (.int v,[Rd l (p+1+1)])) (v0:¬ v=0)
 (hkid:callA CP 119 [.own 0 0, .int d] (PSt l ws k j u (p+1+1))=some (.i (.agg K.cells),PSt l ws k j1 u1 p1))
 (hW:callA CP 102 [.i (.agg K.cells), .osl 0 1 0 k, .int 8] [some (.arr 1 (intsL ws))]=some (.int W,[some (.arr 1 (intsL ws))]))
 (hkk:callA C0 98 [.own 0 0, .int 10] [Rd l p1]=some (.int kk,[Rd l (p1+1)])) (hj:j1≠0) (hw4:¬ W≤4) (hq:kk=6):∃ (P:Pn) (p' u':Int) (j':Nat),bodyA CQ true 119 [.own 0 0, .int ((d+1:Nat):Int)] (PSt l ws k j u p)=some (rX 3 P,PSt l ws k j' u' p'++rS P)∧Th P j j' u u'∧p1≤p'∧p'≤p1+400+c2∧j'≤j1∧0≤u'∧u'≤1∧P.exprs.length≤2∧P.cols.length≤1:=by
 have we:IntKind.i64.wrap (d:Int)=d:=wrap64 (by omega) (by omega)
 have hK:=hKB.1
 have wn:¬ ((d:Int)+1=0):=by omega
 simp only[PSt]at hkid
 rw[Pn.cells_eq K]at hkid hW
 have hj':0<j1:=by omega
 obtain⟨e,p2,he,a1,a2,a3⟩:=randomCondition_eq l hl W (p1+1) (by omega) (by omega)
 have hf:=filterOf_own e K
 rw[Pn.cells_eq K,Ex.cells_eq e]at hf
 rw[Ex.cells_eq e]at he
 refine⟨filtP e K,p2,u1,j1,?_,Th.one (filtP_thin (by omega) hK) hKB,by omega,by omega,by omega,by omega,by omega,by simp[filtP,Pn.scan],by simp[filtP,Pn.scan]⟩
 rw[bodyA_eq Tryz.func119 rfl rfl]
 simp[PSt,ht,hv,v0,we,hkid,hW,hkk,wn,hq,rX,rS,bl,he,hf,filtP,Ex.cellsL,intsL,Pn.cellsL,Pn.cells_eq K,Ex.cells_eq e,hj',hj,hw4]
theorem root_nounion {l:List UInt8} (hl:l.length≤2000) {ws:List Int} {k:Nat} {d j c2:Nat} {p u t v W kk p1 u1:Int} {j1:Nat} {K:Pn} (hd:d<100) (h1:p1+400+c2<300000000) (hp1:0≤p1) (hu0:0≤u1) (hu1:u1≤1) (hW0:0≤W) (hW6:W≤6) (hKB:Th K j j1 u u1)
 (ht:callA C0 98 [.own 0 0, .int k] [Rd l p]=some (.int t,[Rd l (p+1)])) (hv:callA C0 98 [.own 0 0, .int 6] [Rd l (p+1)]=some (.int v,[Rd l (p+1+1)])) (v0:¬ v=0)
 (hkid:callA CP 119 [.own 0 0, .int d] (PSt l ws k j u (p+1+1))=some (.i (.agg K.cells),PSt l ws k j1 u1 p1))
 (hW:callA CP 102 [.i (.agg K.cells), .osl 0 1 0 k, .int 8] [some (.arr 1 (intsL ws))]=some (.int W,[some (.arr 1 (intsL ws))]))
 (hkk:callA C0 98 [.own 0 0, .int 10] [Rd l p1]=some (.int kk,[Rd l (p1+1)])) (hu:¬ 0<u1) (hq:kk=7):∃ (P:Pn) (p' u':Int) (j':Nat),bodyA CQ true 119 [.own 0 0, .int ((d+1:Nat):Int)] (PSt l ws k j u p)=some (rX 3 P,PSt l ws k j' u' p'++rS P)∧Th P j j' u u'∧p1≤p'∧p'≤p1+400+c2∧j'≤j1∧0≤u'∧u'≤1∧P.exprs.length≤2∧P.cols.length≤1:=by
 have we:IntKind.i64.wrap (d:Int)=d:=wrap64 (by omega) (by omega)
 have hK:=hKB.1
 have wn:¬ ((d:Int)+1=0):=by omega
 simp only[PSt]at hkid
 rw[Pn.cells_eq K]at hkid hW
 obtain⟨e,p2,he,a1,a2,a3⟩:=randomCondition_eq l hl W (p1+1) (by omega) (by omega)
 have hf:=filterOf_own e K
 rw[Pn.cells_eq K,Ex.cells_eq e]at hf
 rw[Ex.cells_eq e]at he
 refine⟨filtP e K,p2,u1,j1,?_,Th.one (filtP_thin (by omega) hK) hKB,by omega,by omega,by omega,by omega,by omega,by simp[filtP,Pn.scan],by simp[filtP,Pn.scan]⟩
 rw[bodyA_eq Tryz.func119 rfl rfl]
 simp[PSt,ht,hv,v0,we,hkid,hW,hkk,wn,hq,rX,rS,bl,he,hf,filtP,Ex.cellsL,intsL,Pn.cellsL,Pn.cells_eq K,Ex.cells_eq e,hu]
theorem root_union {l:List UInt8} (hl:l.length≤2000) {ws:List Int} {k:Nat} {d j c2:Nat} {p u t v W kk p1 u1:Int} {j1:Nat} {K:Pn} (hd:d<100) (h1:p1+400+c2<300000000) (hp1:0≤p1) (hu0:0≤u1) (hu1:u1≤1) (hW0:0≤W) (hW6:W≤6) (hKB:Th K j j1 u u1)
 (ht:callA C0 98 [.own 0 0, .int k] [Rd l p]=some (.int t,[Rd l (p+1)])) (hv:callA C0 98 [.own 0 0, .int 6] [Rd l (p+1)]=some (.int v,[Rd l (p+1+1)])) (v0:¬ v=0)
 (hkid:callA CP 119 [.own 0 0, .int d] (PSt l ws k j u (p+1+1))=some (.i (.agg K.cells),PSt l ws k j1 u1 p1))
 (hW:callA CP 102 [.i (.agg K.cells), .osl 0 1 0 k, .int 8] [some (.arr 1 (intsL ws))]=some (.int W,[some (.arr 1 (intsL ws))]))
 (hkk:callA C0 98 [.own 0 0, .int 10] [Rd l p1]=some (.int kk,[Rd l (p1+1)])) (hu:0<u1) (hq:kk=7):∃ (P:Pn) (p' u':Int) (j':Nat),bodyA CQ true 119 [.own 0 0, .int ((d+1:Nat):Int)] (PSt l ws k j u p)=some (rX 3 P,PSt l ws k j' u' p'++rS P)∧Th P j j' u u'∧p1≤p'∧p'≤p1+400+c2∧j'≤j1∧0≤u'∧u'≤1∧P.exprs.length≤2∧P.cols.length≤1:=by
 have we:IntKind.i64.wrap (d:Int)=d:=wrap64 (by omega) (by omega)
 have hK:=hKB.1
 have wn:¬ ((d:Int)+1=0):=by omega
 simp only[PSt]at hkid
 rw[Pn.cells_eq K]at hkid hW
 obtain⟨e,p2,he,a1,a2,a3⟩:=randomCondition_eq l hl W (p1+1) (by omega) (by omega)
 have hf:=filterOf_own e K
 have hc:=cp_copyPlan K hK
 have wu:IntKind.i64.wrap (u1-1)=u1-1:=wrap64 (by omega) (by omega)
 rw[Pn.cells_eq K,Ex.cells_eq e]at hf
 rw[Pn.cells_eq K]at hc
 rw[Ex.cells_eq e]at he
 refine⟨.mk 6 0 [] [] [K,filtP e K],p2,u1-1,j1,?_,Th.un (by have:=filtP_thin (e:=e) (by omega) hK;unfold filtP at this;simp[Pn.thin,Pn.thinL,hK]at this ⊢;exact this) hKB,by omega,by omega,by omega,by omega,by omega,by simp[filtP,Pn.scan],by simp[filtP,Pn.scan]⟩
 rw[bodyA_eq Tryz.func119 rfl rfl]
 simp[PSt,ht,hv,v0,we,hkid,hW,hkk,wn,hq,rX,rS,bl,he,hf,filtP,Ex.cellsL,intsL,Pn.cellsL,Pn.cells_eq K,Ex.cells_eq e,hu,hc,wu,Pn.cells_mk,Ex.cellsL,intsL,Pn.cellsL]
theorem root_group1 {l:List UInt8} (hl:l.length≤2000) {ws:List Int} {k:Nat} {d j c2:Nat} {p u t v W kk p1 u1:Int} {j1:Nat} {K:Pn} (hd:d<100) (h1:p1+400+c2<300000000) (hp1:0≤p1) (hu0:0≤u1) (hu1:u1≤1) (hW0:0≤W) (hW6:W≤6) (hKB:Th K j j1 u u1)
 (ht:callA C0 98 [.own 0 0, .int k] [Rd l p]=some (.int t,[Rd l (p+1)])) (hv:callA C0 98 [.own 0 0, .int 6] [Rd l (p+1)]=some (.int v,[Rd l (p+1+1)])) (v0:¬ v=0)
 (hkid:callA CP 119 [.own 0 0, .int d] (PSt l ws k j u (p+1+1))=some (.i (.agg K.cells),PSt l ws k j1 u1 p1))
 (hW:callA CP 102 [.i (.agg K.cells), .osl 0 1 0 k, .int 8] [some (.arr 1 (intsL ws))]=some (.int W,[some (.arr 1 (intsL ws))]))
 (hkk:callA C0 98 [.own 0 0, .int 10] [Rd l p1]=some (.int kk,[Rd l (p1+1)])) (hw1:¬ 1<W) (hq:kk=9):∃ (P:Pn) (p' u':Int) (j':Nat),bodyA CQ true 119 [.own 0 0, .int ((d+1:Nat):Int)] (PSt l ws k j u p)=some (rX 3 P,PSt l ws k j' u' p'++rS P)∧Th P j j' u u'∧p1≤p'∧p'≤p1+400+c2∧j'≤j1∧0≤u'∧u'≤1∧P.exprs.length≤2∧P.cols.length≤1:=by
 have we:IntKind.i64.wrap (d:Int)=d:=wrap64 (by omega) (by omega)
 have hK:=hKB.1
 have wn:¬ ((d:Int)+1=0):=by omega
 simp only[PSt]at hkid
 rw[Pn.cells_eq K]at hkid hW
 refine⟨.mk 8 0 [] [] [K],p1+1,u1,j1,?_,Th.one (by simp[Pn.thin,Pn.thinL,hK]) hKB,by omega,by omega,by omega,by omega,by omega,by simp[filtP,Pn.scan],by simp[filtP,Pn.scan]⟩
 rw[bodyA_eq Tryz.func119 rfl rfl]
 simp[PSt,ht,hv,v0,we,hkid,hW,hkk,wn,hq,rX,rS,bl,hw1,Pn.cells_mk,Ex.cellsL,intsL,Pn.cellsL,Pn.cells_eq K]
theorem root_group2 {l:List UInt8} (hl:l.length≤2000) {ws:List Int} {k:Nat} {d j c2:Nat} {p u t v W kk p1 u1:Int} {j1:Nat} {K:Pn} (hd:d<100) (h1:p1+400+c2<300000000) (hp1:0≤p1) (hu0:0≤u1) (hu1:u1≤1) (hW0:0≤W) (hW6:W≤6) (hKB:Th K j j1 u u1)
 (ht:callA C0 98 [.own 0 0, .int k] [Rd l p]=some (.int t,[Rd l (p+1)])) (hv:callA C0 98 [.own 0 0, .int 6] [Rd l (p+1)]=some (.int v,[Rd l (p+1+1)])) (v0:¬ v=0)
 (hkid:callA CP 119 [.own 0 0, .int d] (PSt l ws k j u (p+1+1))=some (.i (.agg K.cells),PSt l ws k j1 u1 p1))
 (hW:callA CP 102 [.i (.agg K.cells), .osl 0 1 0 k, .int 8] [some (.arr 1 (intsL ws))]=some (.int W,[some (.arr 1 (intsL ws))]))
 (hkk:callA C0 98 [.own 0 0, .int 10] [Rd l p1]=some (.int kk,[Rd l (p1+1)])) (hw1:1<W) (hq:kk=9):∃ (P:Pn) (p' u':Int) (j':Nat),bodyA CQ true 119 [.own 0 0, .int ((d+1:Nat):Int)] (PSt l ws k j u p)=some (rX 3 P,PSt l ws k j' u' p'++rS P)∧Th P j j' u u'∧p1≤p'∧p'≤p1+400+c2∧j'≤j1∧0≤u'∧u'≤1∧P.exprs.length≤2∧P.cols.length≤1:=by
 have we:IntKind.i64.wrap (d:Int)=d:=wrap64 (by omega) (by omega)
 have hK:=hKB.1
 have wn:¬ ((d:Int)+1=0):=by omega
 simp only[PSt]at hkid
 rw[Pn.cells_eq K]at hkid hW
 obtain⟨g,hg,-,-⟩:=pick_eq l (p1+1) W (by omega) (by omega) hl
 refine⟨.mk 8 0 [] [g] [K],p1+1+1,u1,j1,?_,Th.one (by simp[Pn.thin,Pn.thinL,hK]) hKB,by omega,by omega,by omega,by omega,by omega,by simp[filtP,Pn.scan],by simp[filtP,Pn.scan]⟩
 rw[bodyA_eq Tryz.func119 rfl rfl]
 simp[PSt,ht,hv,v0,we,hkid,hW,hkk,wn,hq,rX,rS,bl,hg,hw1,Pn.cells_mk,Ex.cellsL,intsL,Pn.cellsL,Pn.cells_eq K]
theorem root_join5 {l:List UInt8} (hl:l.length≤2000) {ws:List Int} (hw:∀ w∈ws,0≤w∧w≤6) (hwl:ws.length<1000000) {k:Nat} (hk0:0<k) (hkl:k≤ws.length) {d j c2:Nat} {p u t v W kk p1 u1:Int} {j1:Nat} {K:Pn} (hd:d<100) (h1:p1+400+c2<300000000) (hp1:0≤p1) (hu0:0≤u1) (hu1:u1≤1) (hW0:0≤W) (hW6:W≤6) (hKB:Th K j j1 u u1)
 (ht:callA C0 98 [.own 0 0, .int k] [Rd l p]=some (.int t,[Rd l (p+1)])) (hv:callA C0 98 [.own 0 0, .int 6] [Rd l (p+1)]=some (.int v,[Rd l (p+1+1)])) (v0:¬ v=0)
 (hkid:callA CP 119 [.own 0 0, .int d] (PSt l ws k j u (p+1+1))=some (.i (.agg K.cells),PSt l ws k j1 u1 p1))
 (hW:callA CP 102 [.i (.agg K.cells), .osl 0 1 0 k, .int 8] [some (.arr 1 (intsL ws))]=some (.int W,[some (.arr 1 (intsL ws))]))
 (hkk:callA C0 98 [.own 0 0, .int 10] [Rd l p1]=some (.int kk,[Rd l (p1+1)])) (hj:j1≠0) (hjb:j1<1000) (hw4:W≤4) (hoth:∀ y:Nat,y≤1→PlanOk l ws k y (j1-1) c2) (hq:kk=5):∃ (P:Pn) (p' u':Int) (j':Nat),bodyA CQ true 119 [.own 0 0, .int ((d+1:Nat):Int)] (PSt l ws k j u p)=some (rX 3 P,PSt l ws k j' u' p'++rS P)∧Th P j j' u u'∧p1≤p'∧p'≤p1+400+c2∧j'≤j1∧0≤u'∧u'≤1∧P.exprs.length≤2∧P.cols.length≤1:=by
 have we:IntKind.i64.wrap (d:Int)=d:=wrap64 (by omega) (by omega)
 have hK:=hKB.1
 have wn:¬ ((d:Int)+1=0):=by omega
 simp only[PSt]at hkid
 rw[Pn.cells_eq K]at hkid hW
 have hj':0<j1:=by omega
 have wj:IntKind.i64.wrap ((j1:Int)-1)=((j1-1:Nat):Int):=by rw[wrap64 (by omega) (by omega)];omega
 obtain⟨x,hx,hx1,-⟩:=pick_eq l (p1+1) 2 (by omega) (by omega) hl
 obtain⟨x0,x1⟩:=hx1 (by omega)
 obtain⟨y,rfl⟩:∃ y:Nat,x=y:=⟨x.toNat,by omega⟩
 obtain⟨O,p2,u2,j2,hO,hOt,b1,b2,b3,b4,b5⟩:=hoth y (by omega) (p1+1+1) u1 (by omega) (by omega) hu0 hu1
 have hV:=splanWidth_own hw hwl hk0 hkl O hOt.1
 have hVr:=Pn.wd_range (ws:=ws.take k) (fun w hm=>hw w (List.mem_of_mem_take hm)) O 8
 generalize O.wd (ws.take k) 8=V at hV hVr
 have wv:IntKind.i64.wrap (W+V)=W+V:=wrap64 (by omega) (by omega)
 simp only[PSt]at hO
 rw[Pn.cells_eq O]at hO hV
 by_cases hs:W+V≤6
 ·have h1:=one_eq l p2 (by omega) (by omega) hl [[.int 4],[.int 5]] (by simp) (by simp) (by simp)
  obtain⟨z,hz,hzm⟩:=h1
  obtain⟨e,p3,he,a1,a2,a3⟩:=randomCondition_eq l hl (W+V) (p2+1) (by omega) (by omega)
  rw[Ex.cells_eq e]at he
  simp only[List.length_cons,List.length_nil,Nat.zero_add,Nat.reduceAdd]at hz
  have het:=Ex.thin_of_size e (by omega)
  refine⟨.mk z 0 [e] [] [K,O],p3,u2,j2,?_,Th.jn (by simp[Pn.thin,Pn.thinL,hK,hOt.1,het]) hj hKB hOt,by omega,by omega,by omega,by omega,by omega,by simp[filtP,Pn.scan],by simp[filtP,Pn.scan]⟩
  rw[bodyA_eq Tryz.func119 rfl rfl]
  simp[PSt,ht,hv,v0,we,hkid,hW,hkk,wn,hq,hj',hj,hw4,wj,hx,hO,hV,wv,hs,hz,he,rX,rS,bl,Pn.cells_mk,Ex.cellsL,intsL,Pn.cellsL,Pn.cells_eq K,Pn.cells_eq O,Ex.cells_eq e]
 ·obtain⟨e,p3,he,a1,a2,a3⟩:=randomCondition_eq l hl W p2 (by omega) (by omega)
  have hf:=filterOf_own e K
  rw[Pn.cells_eq K,Ex.cells_eq e]at hf
  rw[Ex.cells_eq e]at he
  refine⟨filtP e K,p3,u2,j2,?_,Th.skip (filtP_thin (by omega) hK) hKB (by omega) hOt.2.1.2.1,by omega,by omega,by omega,by omega,by omega,by simp[filtP,Pn.scan],by simp[filtP,Pn.scan]⟩
  rw[bodyA_eq Tryz.func119 rfl rfl]
  simp[PSt,ht,hv,v0,we,hkid,hW,hkk,wn,hq,hj',hj,hw4,wj,hx,hO,hV,wv,hs,rX,rS,bl,he,hf,filtP,Ex.cellsL,intsL,Pn.cellsL,Pn.cells_eq K,Ex.cells_eq e]
theorem root_join6 {l:List UInt8} (hl:l.length≤2000) {ws:List Int} (hw:∀ w∈ws,0≤w∧w≤6) (hwl:ws.length<1000000) {k:Nat} (hk0:0<k) (hkl:k≤ws.length) {d j c2:Nat} {p u t v W kk p1 u1:Int} {j1:Nat} {K:Pn} (hd:d<100) (h1:p1+400+c2<300000000) (hp1:0≤p1) (hu0:0≤u1) (hu1:u1≤1) (hW0:0≤W) (hW6:W≤6) (hKB:Th K j j1 u u1)
 (ht:callA C0 98 [.own 0 0, .int k] [Rd l p]=some (.int t,[Rd l (p+1)])) (hv:callA C0 98 [.own 0 0, .int 6] [Rd l (p+1)]=some (.int v,[Rd l (p+1+1)])) (v0:¬ v=0)
 (hkid:callA CP 119 [.own 0 0, .int d] (PSt l ws k j u (p+1+1))=some (.i (.agg K.cells),PSt l ws k j1 u1 p1))
 (hW:callA CP 102 [.i (.agg K.cells), .osl 0 1 0 k, .int 8] [some (.arr 1 (intsL ws))]=some (.int W,[some (.arr 1 (intsL ws))]))
 (hkk:callA C0 98 [.own 0 0, .int 10] [Rd l p1]=some (.int kk,[Rd l (p1+1)])) (hj:j1≠0) (hjb:j1<1000) (hw4:W≤4) (hoth:∀ y:Nat,y≤1→PlanOk l ws k y (j1-1) c2) (hq:kk=6):∃ (P:Pn) (p' u':Int) (j':Nat),bodyA CQ true 119 [.own 0 0, .int ((d+1:Nat):Int)] (PSt l ws k j u p)=some (rX 3 P,PSt l ws k j' u' p'++rS P)∧Th P j j' u u'∧p1≤p'∧p'≤p1+400+c2∧j'≤j1∧0≤u'∧u'≤1∧P.exprs.length≤2∧P.cols.length≤1:=by
 have we:IntKind.i64.wrap (d:Int)=d:=wrap64 (by omega) (by omega)
 have hK:=hKB.1
 have wn:¬ ((d:Int)+1=0):=by omega
 simp only[PSt]at hkid
 rw[Pn.cells_eq K]at hkid hW
 have hj':0<j1:=by omega
 have wj:IntKind.i64.wrap ((j1:Int)-1)=((j1-1:Nat):Int):=by rw[wrap64 (by omega) (by omega)];omega
 obtain⟨x,hx,hx1,-⟩:=pick_eq l (p1+1) 2 (by omega) (by omega) hl
 obtain⟨x0,x1⟩:=hx1 (by omega)
 obtain⟨y,rfl⟩:∃ y:Nat,x=y:=⟨x.toNat,by omega⟩
 obtain⟨O,p2,u2,j2,hO,hOt,b1,b2,b3,b4,b5⟩:=hoth y (by omega) (p1+1+1) u1 (by omega) (by omega) hu0 hu1
 have hV:=splanWidth_own hw hwl hk0 hkl O hOt.1
 have hVr:=Pn.wd_range (ws:=ws.take k) (fun w hm=>hw w (List.mem_of_mem_take hm)) O 8
 generalize O.wd (ws.take k) 8=V at hV hVr
 have wv:IntKind.i64.wrap (W+V)=W+V:=wrap64 (by omega) (by omega)
 simp only[PSt]at hO
 rw[Pn.cells_eq O]at hO hV
 by_cases hs:W+V≤6
 ·have h1:=one_eq l p2 (by omega) (by omega) hl [[.int 4],[.int 5]] (by simp) (by simp) (by simp)
  obtain⟨z,hz,hzm⟩:=h1
  obtain⟨e,p3,he,a1,a2,a3⟩:=randomCondition_eq l hl (W+V) (p2+1) (by omega) (by omega)
  rw[Ex.cells_eq e]at he
  simp only[List.length_cons,List.length_nil,Nat.zero_add,Nat.reduceAdd]at hz
  have het:=Ex.thin_of_size e (by omega)
  refine⟨.mk z 0 [e] [] [K,O],p3,u2,j2,?_,Th.jn (by simp[Pn.thin,Pn.thinL,hK,hOt.1,het]) hj hKB hOt,by omega,by omega,by omega,by omega,by omega,by simp[filtP,Pn.scan],by simp[filtP,Pn.scan]⟩
  rw[bodyA_eq Tryz.func119 rfl rfl]
  simp[PSt,ht,hv,v0,we,hkid,hW,hkk,wn,hq,hj',hj,hw4,wj,hx,hO,hV,wv,hs,hz,he,rX,rS,bl,Pn.cells_mk,Ex.cellsL,intsL,Pn.cellsL,Pn.cells_eq K,Pn.cells_eq O,Ex.cells_eq e]
 ·obtain⟨e,p3,he,a1,a2,a3⟩:=randomCondition_eq l hl W p2 (by omega) (by omega)
  have hf:=filterOf_own e K
  rw[Pn.cells_eq K,Ex.cells_eq e]at hf
  rw[Ex.cells_eq e]at he
  refine⟨filtP e K,p3,u2,j2,?_,Th.skip (filtP_thin (by omega) hK) hKB (by omega) hOt.2.1.2.1,by omega,by omega,by omega,by omega,by omega,by simp[filtP,Pn.scan],by simp[filtP,Pn.scan]⟩
  rw[bodyA_eq Tryz.func119 rfl rfl]
  simp[PSt,ht,hv,v0,we,hkid,hW,hkk,wn,hq,hj',hj,hw4,wj,hx,hO,hV,wv,hs,rX,rS,bl,he,hf,filtP,Ex.cellsL,intsL,Pn.cellsL,Pn.cells_eq K,Ex.cells_eq e]
theorem root_proj3 {l:List UInt8} (hl:l.length≤2000) {ws:List Int} {k:Nat} {d j c2:Nat} {p u t v W kk p1 u1:Int} {j1:Nat} {K:Pn} (hd:d<100) (h1:p1+400+c2<300000000) (hp1:0≤p1) (hu0:0≤u1) (hu1:u1≤1) (hW0:0≤W) (hW6:W≤6) (hKB:Th K j j1 u u1)
 (ht:callA C0 98 [.own 0 0, .int k] [Rd l p]=some (.int t,[Rd l (p+1)])) (hv:callA C0 98 [.own 0 0, .int 6] [Rd l (p+1)]=some (.int v,[Rd l (p+1+1)])) (v0:¬ v=0)
 (hkid:callA CP 119 [.own 0 0, .int d] (PSt l ws k j u (p+1+1))=some (.i (.agg K.cells),PSt l ws k j1 u1 p1))
 (hW:callA CP 102 [.i (.agg K.cells), .osl 0 1 0 k, .int 8] [some (.arr 1 (intsL ws))]=some (.int W,[some (.arr 1 (intsL ws))]))
 (hkk:callA C0 98 [.own 0 0, .int 10] [Rd l p1]=some (.int kk,[Rd l (p1+1)])) (hq:kk=3):∃ (P:Pn) (p' u':Int) (j':Nat),bodyA CQ true 119 [.own 0 0, .int ((d+1:Nat):Int)] (PSt l ws k j u p)=some (rX 3 P,PSt l ws k j' u' p'++rS P)∧Th P j j' u u'∧p1≤p'∧p'≤p1+400+c2∧j'≤j1∧0≤u'∧u'≤1∧P.exprs.length≤2∧P.cols.length≤1:=by
 have we:IntKind.i64.wrap (d:Int)=d:=wrap64 (by omega) (by omega)
 have hK:=hKB.1
 have wn:¬ ((d:Int)+1=0):=by omega
 simp only[PSt]at hkid
 rw[Pn.cells_eq K]at hkid hW
 obtain⟨m,hm,hm1,-⟩:=pick_eq l (p1+1) 2 (by omega) (by omega) hl
 obtain⟨m0,m1⟩:=hm1 (by omega)
 have w2:IntKind.i64.wrap (2:Int)=2:=wrap64 (by omega) (by omega)
 have w1:=wrap_1
 have w0:IntKind.i64.wrap (0:Int)=0:=wrap64 (by omega) (by omega)
 obtain⟨x1,hx1,hy1,-⟩:=pick_eq l (p1+1+1) 2 (by omega) (by omega) hl
 obtain⟨x1a,x1b⟩:=hy1 (by omega)
 obtain⟨y1,rfl⟩:∃ y:Nat,x1=y:=⟨x1.toNat,by omega⟩
 have hc1:costE y1≤9:=by rcases(show y1=0∨y1=1 by omega)with h|h<;>simp[h,costE]
 obtain⟨e1,q1,he1,c1a,c1b,c1c⟩:=rE l hl W y1 (by omega) (by omega) ((p1+1+1)+1) (by omega) (by omega)
 rw[Ex.cells_eq e1]at he1
 have t1:=Ex.thin_of_size e1 (by omega)
 rcases(show m=0∨m=1 by omega)with rfl|rfl
 ·refine⟨.mk 3 0 [e1] [] [K],q1,u1,j1,?_,Th.one (by simp[Pn.thin,Pn.thinL,hK,t1]) hKB,by omega,by omega,by omega,by omega,by omega,by simp[filtP,Pn.scan],by simp[filtP,Pn.scan]⟩
  rw[bodyA_eq Tryz.func119 rfl rfl]
  simp[PSt,ht,hv,v0,we,hkid,hW,hkk,wn,hq,hm,w1]
  rw[execA_loop];simp[hx1,he1,w0]
  rw[execA_loop];simp[rX,rS,bl,Pn.cells_mk,Ex.cellsL,intsL,Pn.cellsL,Pn.cells_eq K,Ex.cells_eq e1,PSt]
 ·obtain⟨x2,hx2,hy2,-⟩:=pick_eq l q1 2 (by omega) (by omega) hl
  obtain⟨x2a,x2b⟩:=hy2 (by omega)
  obtain⟨y2,rfl⟩:∃ y:Nat,x2=y:=⟨x2.toNat,by omega⟩
  have hc2:costE y2≤9:=by rcases(show y2=0∨y2=1 by omega)with h|h<;>simp[h,costE]
  obtain⟨e2,q2,he2,c2a,c2b,c2c⟩:=rE l hl W y2 (by omega) (by omega) (q1+1) (by omega) (by omega)
  rw[Ex.cells_eq e2]at he2
  have t2:=Ex.thin_of_size e2 (by omega)
  refine⟨.mk 3 0 [e1,e2] [] [K],q2,u1,j1,?_,Th.one (by simp[Pn.thin,Pn.thinL,hK,t1,t2]) hKB,by omega,by omega,by omega,by omega,by omega,by simp[filtP,Pn.scan],by simp[filtP,Pn.scan]⟩
  rw[bodyA_eq Tryz.func119 rfl rfl]
  simp[PSt,ht,hv,v0,we,hkid,hW,hkk,wn,hq,hm,w2]
  rw[execA_loop];simp[hx1,he1,w1]
  rw[execA_loop];simp[hx2,he2,w0]
  rw[execA_loop];simp[rX,rS,bl,Pn.cells_mk,Ex.cellsL,intsL,Pn.cellsL,Pn.cells_eq K,Ex.cells_eq e1,Ex.cells_eq e2,PSt]
theorem root_proj4 {l:List UInt8} (hl:l.length≤2000) {ws:List Int} {k:Nat} {d j c2:Nat} {p u t v W kk p1 u1:Int} {j1:Nat} {K:Pn} (hd:d<100) (h1:p1+400+c2<300000000) (hp1:0≤p1) (hu0:0≤u1) (hu1:u1≤1) (hW0:0≤W) (hW6:W≤6) (hKB:Th K j j1 u u1)
 (ht:callA C0 98 [.own 0 0, .int k] [Rd l p]=some (.int t,[Rd l (p+1)])) (hv:callA C0 98 [.own 0 0, .int 6] [Rd l (p+1)]=some (.int v,[Rd l (p+1+1)])) (v0:¬ v=0)
 (hkid:callA CP 119 [.own 0 0, .int d] (PSt l ws k j u (p+1+1))=some (.i (.agg K.cells),PSt l ws k j1 u1 p1))
 (hW:callA CP 102 [.i (.agg K.cells), .osl 0 1 0 k, .int 8] [some (.arr 1 (intsL ws))]=some (.int W,[some (.arr 1 (intsL ws))]))
 (hkk:callA C0 98 [.own 0 0, .int 10] [Rd l p1]=some (.int kk,[Rd l (p1+1)])) (hq:kk=4):∃ (P:Pn) (p' u':Int) (j':Nat),bodyA CQ true 119 [.own 0 0, .int ((d+1:Nat):Int)] (PSt l ws k j u p)=some (rX 3 P,PSt l ws k j' u' p'++rS P)∧Th P j j' u u'∧p1≤p'∧p'≤p1+400+c2∧j'≤j1∧0≤u'∧u'≤1∧P.exprs.length≤2∧P.cols.length≤1:=by
 have we:IntKind.i64.wrap (d:Int)=d:=wrap64 (by omega) (by omega)
 have hK:=hKB.1
 have wn:¬ ((d:Int)+1=0):=by omega
 simp only[PSt]at hkid
 rw[Pn.cells_eq K]at hkid hW
 obtain⟨m,hm,hm1,-⟩:=pick_eq l (p1+1) 2 (by omega) (by omega) hl
 obtain⟨m0,m1⟩:=hm1 (by omega)
 have w2:IntKind.i64.wrap (2:Int)=2:=wrap64 (by omega) (by omega)
 have w1:=wrap_1
 have w0:IntKind.i64.wrap (0:Int)=0:=wrap64 (by omega) (by omega)
 obtain⟨x1,hx1,hy1,-⟩:=pick_eq l (p1+1+1) 2 (by omega) (by omega) hl
 obtain⟨x1a,x1b⟩:=hy1 (by omega)
 obtain⟨y1,rfl⟩:∃ y:Nat,x1=y:=⟨x1.toNat,by omega⟩
 have hc1:costE y1≤9:=by rcases(show y1=0∨y1=1 by omega)with h|h<;>simp[h,costE]
 obtain⟨e1,q1,he1,c1a,c1b,c1c⟩:=rE l hl W y1 (by omega) (by omega) ((p1+1+1)+1) (by omega) (by omega)
 rw[Ex.cells_eq e1]at he1
 have t1:=Ex.thin_of_size e1 (by omega)
 rcases(show m=0∨m=1 by omega)with rfl|rfl
 ·refine⟨.mk 3 0 [e1] [] [K],q1,u1,j1,?_,Th.one (by simp[Pn.thin,Pn.thinL,hK,t1]) hKB,by omega,by omega,by omega,by omega,by omega,by simp[filtP,Pn.scan],by simp[filtP,Pn.scan]⟩
  rw[bodyA_eq Tryz.func119 rfl rfl]
  simp[PSt,ht,hv,v0,we,hkid,hW,hkk,wn,hq,hm,w1]
  rw[execA_loop];simp[hx1,he1,w0]
  rw[execA_loop];simp[rX,rS,bl,Pn.cells_mk,Ex.cellsL,intsL,Pn.cellsL,Pn.cells_eq K,Ex.cells_eq e1,PSt]
 ·obtain⟨x2,hx2,hy2,-⟩:=pick_eq l q1 2 (by omega) (by omega) hl
  obtain⟨x2a,x2b⟩:=hy2 (by omega)
  obtain⟨y2,rfl⟩:∃ y:Nat,x2=y:=⟨x2.toNat,by omega⟩
  have hc2:costE y2≤9:=by rcases(show y2=0∨y2=1 by omega)with h|h<;>simp[h,costE]
  obtain⟨e2,q2,he2,c2a,c2b,c2c⟩:=rE l hl W y2 (by omega) (by omega) (q1+1) (by omega) (by omega)
  rw[Ex.cells_eq e2]at he2
  have t2:=Ex.thin_of_size e2 (by omega)
  refine⟨.mk 3 0 [e1,e2] [] [K],q2,u1,j1,?_,Th.one (by simp[Pn.thin,Pn.thinL,hK,t1,t2]) hKB,by omega,by omega,by omega,by omega,by omega,by simp[filtP,Pn.scan],by simp[filtP,Pn.scan]⟩
  rw[bodyA_eq Tryz.func119 rfl rfl]
  simp[PSt,ht,hv,v0,we,hkid,hW,hkk,wn,hq,hm,w2]
  rw[execA_loop];simp[hx1,he1,w1]
  rw[execA_loop];simp[hx2,he2,w0]
  rw[execA_loop];simp[rX,rS,bl,Pn.cells_mk,Ex.cellsL,intsL,Pn.cellsL,Pn.cells_eq K,Ex.cells_eq e1,Ex.cells_eq e2,PSt]
theorem root_step {l:List UInt8} (hl:l.length≤2000) {ws:List Int} (hw:∀ w∈ws,0≤w∧w≤6) (hwl:ws.length<1000000) {k:Nat} (hk0:0<k) (hkl:k≤ws.length) {d j c c2:Nat} (hd:d<100) (hjb:j<1000) (ih:PlanOk l ws k d j c) (hoth:∀ i:Nat,i<j→∀ y:Nat,y≤1→PlanOk l ws k y i c2):RootOk l ws k (d+1) j (c+c2+500):=by
 intro p u h0 h1 hu0 hu1
 obtain⟨t,ht,-,-⟩:=pick_eq l p k h0 (by omega) hl
 obtain⟨v,hv,-,-⟩:=pick_eq l (p+1) 6 (by omega) (by omega) hl
 by_cases v0:v=0
 ·subst v0
  exact⟨.scan t,p+1+1,u,j,root_scan hd ht hv,Th.scan (Pn.scan_thin t) _ _,by omega,by omega,by omega,by omega,by omega,by simp[Pn.scan],by simp[Pn.scan]⟩
 obtain⟨K,p1,u1,j1,hkid,hK,a1,a2,a3,a4,a5⟩:=ih (p+1+1) u (by omega) (by omega) hu0 hu1
 have hW:=splanWidth_own hw hwl hk0 hkl K hK.1
 have hWr:=Pn.wd_range (ws:=ws.take k) (fun w hm=>hw w (List.mem_of_mem_take hm)) K 8
 generalize K.wd (ws.take k) 8=W at hW hWr
 obtain⟨kk,hkk,hkk1,-⟩:=pick_eq l p1 10 (by omega) (by omega) hl
 obtain⟨kk0,kk9⟩:=hkk1 (by omega)
 suffices H:∃ (P:Pn) (p' u':Int) (j':Nat),bodyA CQ true 119 [.own 0 0, .int ((d+1:Nat):Int)] (PSt l ws k j u p)=some (rX 3 P,PSt l ws k j' u' p'++rS P)∧Th P j j' u u'∧p1≤p'∧p'≤p1+400+c2∧j'≤j1∧0≤u'∧u'≤1∧P.exprs.length≤2∧P.cols.length≤1 by
  obtain⟨P,p',u',j',b1,b2,b3,b4,b5,b6,b7,b8⟩:=H
  exact⟨P,p',u',j',b1,b2,by omega,by omega,by omega,b6,b7,b8⟩
 have hb:p1+400+c2<300000000:=by omega
 have hp1:0≤p1:=by omega
 by_cases q0:kk=0
 ·exact root_filter0 hl hd hb hp1 a4 a5 hWr.1 hWr.2 hK ht hv v0 hkid hW hkk q0
 by_cases q1:kk=1
 ·exact root_filter1 hl hd hb hp1 a4 a5 hWr.1 hWr.2 hK ht hv v0 hkid hW hkk q1
 by_cases q2:kk=2
 ·exact root_filter2 hl hd hb hp1 a4 a5 hWr.1 hWr.2 hK ht hv v0 hkid hW hkk q2
 by_cases q3:kk=3
 ·exact root_proj3 hl hd hb hp1 a4 a5 hWr.1 hWr.2 hK ht hv v0 hkid hW hkk q3
 by_cases q4:kk=4
 ·exact root_proj4 hl hd hb hp1 a4 a5 hWr.1 hWr.2 hK ht hv v0 hkid hW hkk q4
 by_cases q5:kk=5
 ·by_cases hj:j1=0
  ·exact root_nojoin5 hl hd hb hp1 a4 a5 hWr.1 hWr.2 hK ht hv v0 hkid hW hkk hj q5
  by_cases hw4:W≤4
  ·exact root_join5 hl hw hwl hk0 hkl hd hb hp1 a4 a5 hWr.1 hWr.2 hK ht hv v0 hkid hW hkk hj (by omega) hw4 (fun y hy=>hoth (j1-1) (by omega) y hy) q5
  ·exact root_wide5 hl hd hb hp1 a4 a5 hWr.1 hWr.2 hK ht hv v0 hkid hW hkk hj hw4 q5
 by_cases q6:kk=6
 ·by_cases hj:j1=0
  ·exact root_nojoin6 hl hd hb hp1 a4 a5 hWr.1 hWr.2 hK ht hv v0 hkid hW hkk hj q6
  by_cases hw4:W≤4
  ·exact root_join6 hl hw hwl hk0 hkl hd hb hp1 a4 a5 hWr.1 hWr.2 hK ht hv v0 hkid hW hkk hj (by omega) hw4 (fun y hy=>hoth (j1-1) (by omega) y hy) q6
  ·exact root_wide6 hl hd hb hp1 a4 a5 hWr.1 hWr.2 hK ht hv v0 hkid hW hkk hj hw4 q6
 by_cases q7:kk=7
 ·by_cases hu:0<u1
  ·exact root_union hl hd hb hp1 a4 a5 hWr.1 hWr.2 hK ht hv v0 hkid hW hkk hu q7
  ·exact root_nounion hl hd hb hp1 a4 a5 hWr.1 hWr.2 hK ht hv v0 hkid hW hkk hu q7
 by_cases q8:kk=8
 ·exact root_distinct hl hd hb hp1 a4 a5 hWr.1 hWr.2 hK ht hv v0 hkid hW hkk q8
 have q9:kk=9:=by omega
 by_cases hw1:1<W
 ·exact root_group2 hl hd hb hp1 a4 a5 hWr.1 hWr.2 hK ht hv v0 hkid hW hkk hw1 q9
 ·exact root_group1 hl hd hb hp1 a4 a5 hWr.1 hWr.2 hK ht hv v0 hkid hW hkk hw1 q9
theorem RootOk.le {l:List UInt8} {ws:List Int} {k:Nat} {d j c c':Nat} (h:RootOk l ws k d j c) (hc:c≤c'):RootOk l ws k d j c':=by
 intro p u h0 h1 hu0 hu1
 obtain⟨P,p',u',j',b1,b2,b3,b4,b5,b6,b7,b8⟩:=h p u h0 (by omega) hu0 hu1
 exact⟨P,p',u',j',b1,b2,b3,by omega,b5,b6,b7,b8⟩
theorem root_one {l:List UInt8} (hl:l.length≤2000) {ws:List Int} (hw:∀ w∈ws,0≤w∧w≤6) (hwl:ws.length<1000000) {k:Nat} (hk0:0<k) (hkl:k≤ws.length) (d:Nat) (h:d+1<50):RootOk l ws k (d+1) 1 (2000*(d+1)+1) :=
 (root_step hl hw hwl hk0 hkl (c2:=501) (by omega) (by omega) (plan_one hl hw hwl hk0 hkl d (by omega)) (fun i hi y hy=>by
  obtain rfl:i=0:=by omega
  exact(plan_none hl hw hwl hk0 hkl y (by omega)).le (by omega))).le (by omega)
@[simp] theorem cr_plan (a:List AV) (st:StL):callA CR 119 a st=bodyA CQ true 119 a st:=by rw[callA_prim (p:=bodyA CQ true 119) rfl]
@[simp] theorem cr_filterOf (a:List AV) (st:StL):callA CR 121 a st=bodyA C0 true 121 a st:=by rw[callA_prim (p:=bodyA C0 true 121) rfl]
@[simp] theorem cr_planWidth (a:List AV) (st:StL):callA CR 102 a st=lookX (callA C0) 102 a st:=by rw[callA_prim (p:=lookX (callA C0) 102) rfl]
@[simp] theorem cr_pick (a:List AV) (st:StL):callA CR 98 a st=callA C0 98 a st:=by rw[callA_prim (p:=callA C0 98) rfl]
@[simp] theorem cr_one (a:List AV) (st:StL):callA CR 124 a st=callA C0 124 a st:=by rw[callA_prim (p:=callA C0 124) rfl]
@[simp] theorem cr_cond (a:List AV) (st:StL):callA CR 122 a st=callA C0 122 a st:=by rw[callA_prim (p:=callA C0 122) rfl]
@[simp] theorem cr_anyExpr (a:List AV) (st:StL):callA CR 144 a st=callA C0 144 a st:=by rw[callA_prim (p:=callA C0 144) rfl]
theorem list_nil {α:Type} (l:List α):l=[]∨(l.length≠0∧l≠[]∧0<l.length):=by cases l<;>simp
theorem randomPlan_root {l:List UInt8} (hl:l.length≤2000) {ws:List Int} (hw:∀ w∈ws,0≤w∧w≤6) (hwl:ws.length<1000000) (hk0:0<ws.length) (p:Int) (h0:0≤p) (h1:p+20000<200000000):∃ (P:Pn) (p':Int),
 callA CR 120 [.own 0 0, .osl 1 1 0 ws.length] [Rd l p,some (.arr 1 (intsL ws))]=some (rX 2 P,[Rd l p',some (.arr 1 (intsL ws))]++rS P)∧Rt P∧p≤p'∧p'≤p+20000∧P.exprs.length≤2∧P.cols.length≤1:=by
 obtain⟨v,hv,hv1,-⟩:=pick_eq l p 4 h0 (by omega) hl
 obtain⟨v0,v1⟩:=hv1 (by omega)
 obtain⟨y,rfl⟩:∃ y:Nat,v=y:=⟨v.toNat,by omega⟩
 have w1:IntKind.i64.wrap (1+(y:Int))=((y+1:Nat):Int):=by rw[wrap64 (by omega) (by omega)];omega
 obtain⟨P,p1,u',j',hP,hPt,b1,b2,b3,b4,b5,b6,b7⟩:=root_one hl hw hwl hk0 (Nat.le_refl _) y (by omega) (p+1) 1 (by omega) (by omega) (by omega) (by omega)
 simp only[PSt,Int.natCast_one,Int.natCast_add]at hP
 obtain⟨z,hz,-,-⟩:=pick_eq l p1 2 (by omega) (by omega) hl
 have te:P.exprs.take P.exprs.length=P.exprs:=List.take_of_length_le (by simp)
 have tc:P.cols.take P.cols.length=P.cols:=List.take_of_length_le (by simp)
 have tk:P.kids.take P.kids.length=P.kids:=List.take_of_length_le (by simp)
 by_cases hz0:z=0
 ·have hW:=splanWidth_eq hw (by omega) P (Pn.thin_lim P hPt.1) 8 (by omega)
  have twd:ws.take ws.length=ws:=List.take_of_length_le (by simp)
  obtain⟨e,p2,he,a1,a2,a3⟩:=randomCondition_eq l hl (P.wd ws 8) (p1+1) (by omega) (by omega)
  have hf:=filterOf_own e P
  refine⟨filtP e P,p2,?_,Rt.one (filt_step a3 hPt.1) (hPt.rt b4),by omega,by omega,by simp[filtP],by simp[filtP]⟩
  rw[callA_eq rfl Tryz.func120 rfl rfl]
  rw[Pn.cells_eq P,Ex.cells_eq e]at hf
  rw[Ex.cells_eq e]at he
  rw[Pn.cells_eq P]at hW
  rcases list_nil P.exprs with ce|⟨ce,ce',ce''⟩<;>rcases list_nil P.cols with cc|⟨cc,cc',cc''⟩<;>rcases list_nil P.kids with ck|⟨ck,ck',ck''⟩ <;>
   (simp[rX,rS,bl, *,gro_pos,groB_pos,Ex.cellsL,intsL,Pn.cellsL]at hP hW hf
    simp[hv,w1,hP,hz,hz0,hW,he,hf,rX,rS,bl,filtP,lookX,viewXs,viewX,viewNs,viewN,viewW,bareC, *,Ex.cellsL,intsL,Pn.cellsL,Pn.cells_eq P,Ex.cells_eq e])
 ·refine⟨P,p1+1,?_,hPt.rt b4,by omega,by omega,b6,b7⟩
  rw[callA_eq rfl Tryz.func120 rfl rfl]
  rcases list_nil P.exprs with ce|⟨ce,ce',ce''⟩<;>rcases list_nil P.cols with cc|⟨cc,cc',cc''⟩<;>rcases list_nil P.kids with ck|⟨ck,ck',ck''⟩ <;>
   (simp[rX,rS,bl, *,gro_pos,groB_pos,Ex.cellsL,intsL,Pn.cellsL]at hP
    simp[hv,w1,hP,hz,hz0,rX,rS,bl, *,gro_pos,groB_pos])
theorem randomWidths_rng (l:List UInt8) (hl:l.length≤2000) (p:Int) (h0:0≤p) (h1:p<900000000):∃ (a b:Int) (r:List Int) (p':Int),callA C0 96 [.own 0 0] [Rd l p]=some (.osl 1 1 0 (r.length+2),[Rd l p',some (.arr 1 (intsL (a::b::r)))])∧p≤p'∧p'≤p+4∧1≤a∧a≤2∧1≤b∧b≤2∧r.length≤1∧∀ w∈r,1≤w∧w≤2:=by
 obtain⟨n,hn,hn1,-⟩:=pick_eq l p 2 h0 (by omega) hl
 obtain⟨a,ha,ha1,-⟩:=pick_eq l (p+1) 2 (by omega) (by omega) hl
 obtain⟨b,hb,hb1,-⟩:=pick_eq l (p+1+1) 2 (by omega) (by omega) hl
 have wa:IntKind.i64.wrap (1+a)=1+a:=wrap64 (by omega) (by omega)
 have wb:IntKind.i64.wrap (1+b)=1+b:=wrap64 (by omega) (by omega)
 have w2:IntKind.i64.wrap (2:Int)=2:=wrap64 (by omega) (by omega)
 have w3:IntKind.i64.wrap (3:Int)=3:=wrap64 (by omega) (by omega)
 have w1:=wrap_1
 have w0:IntKind.i64.wrap (0:Int)=0:=wrap64 (by omega) (by omega)
 obtain⟨n0,n1⟩:=hn1 (by omega)
 have hn2:n=0∨n=1:=by omega
 rcases hn2 with rfl|rfl
 ·refine⟨1+a,1+b,[],p+1+1+1,?_,by omega,by omega,by omega,by omega,by omega,by omega,by simp,by simp⟩
  rw[callA_eq rfl Tryz.func96 rfl rfl]
  simp[hn,w2]
  rw[execA_loop];simp[ha,wa,w1]
  rw[execA_loop];simp[hb,wb,w0]
  rw[execA_loop];simp[intsL]
 ·obtain⟨c,hc,hc1,-⟩:=pick_eq l (p+1+1+1) 2 (by omega) (by omega) hl
  have wc:IntKind.i64.wrap (1+c)=1+c:=wrap64 (by omega) (by omega)
  refine⟨1+a,1+b,[1+c],p+1+1+1+1,?_,by omega,by omega,by omega,by omega,by omega,by omega,by simp,by simp;omega⟩
  rw[callA_eq rfl Tryz.func96 rfl rfl]
  simp[hn,w3]
  rw[execA_loop];simp[ha,wa,w2]
  rw[execA_loop];simp[hb,wb,w1]
  rw[execA_loop];simp[hc,wc,w0]
  rw[execA_loop];simp[intsL]
theorem Pn.thin_with {P:Pn} (h:P.thin) (k t:Int):(Pn.mk k t P.exprs P.cols P.kids).thin:=by
 rw[Pn.thin_iff]at h ⊢;exact h
theorem Pn.thin_cols {P:Pn} (h:P.thin) (c:List Int) (hc:c.length<1000000000):(Pn.mk P.kind P.table P.exprs c P.kids).thin:=by
 rw[Pn.thin_iff]at h ⊢;exact⟨h.1,h.2.1,hc,h.2.2.2⟩
theorem Pn.thin_exprs {P:Pn} (h:P.thin) {e:Ex} (he:e.thin) (hl:P.exprs.length+1<1000000000):(Pn.mk P.kind P.table (P.exprs++[e]) P.cols P.kids).thin:=by
 rw[Pn.thin_iff]at h ⊢
 refine⟨by simpa [Pn.exprs]using hl,fun x hx=>?_,h.2.2⟩
 simp only[Pn.exprs,List.mem_append,List.mem_singleton]at hx
 rcases hx with hx|rfl
 ·exact h.2.1 x hx
 ·exact he
theorem anyPlan_root {l:List UInt8} (hl:l.length≤2000) {ws:List Int} (hw:∀ w∈ws,0≤w∧w≤6) (hwl:ws.length<1000000) (hk0:0<ws.length) (p:Int) (h0:0≤p) (h1:p+30000<200000000):∃ (P:Pn) (p':Int),
 callA CR 97 [.own 0 0, .osl 1 1 0 ws.length] [Rd l p,some (.arr 1 (intsL ws))]=some (rX 2 P,[Rd l p',some (.arr 1 (intsL ws))]++rS P)∧(P.thin∧BdV P)∧p≤p'∧p'≤p+30000:=by
 obtain⟨P,p1,hP,hPt,b1,b2,b6,b7⟩:=randomPlan_root hl hw hwl hk0 p h0 (by omega)
 obtain⟨k,hk,-,-⟩:=pick_eq l p1 18 (by omega) (by omega) hl
 have te:P.exprs.take P.exprs.length=P.exprs:=List.take_of_length_le (by simp)
 have tc:P.cols.take P.cols.length=P.cols:=List.take_of_length_le (by simp)
 have hthin:=(Pn.thin_iff P).1 hPt.1
 by_cases k0:k=0
 ·obtain⟨x,hx,-⟩:=one_eq l (p1+1) (by omega) (by omega) hl [[.int 0],[.int 9],[.int 1],[.int 4]] (by simp) (by simp) (by simp)
  simp only[List.length_cons,List.length_nil,Nat.zero_add,Nat.reduceAdd]at hx
  refine⟨.mk x P.table P.exprs P.cols P.kids,p1+1+1,?_,⟨Pn.thin_with hPt.1 _ _,hPt.head⟩,by omega,by omega⟩
  rw[callA_eq rfl Tryz.func97 rfl rfl]
  rcases list_nil P.exprs with ce|⟨ce,ce',ce''⟩<;>rcases list_nil P.cols with cc|⟨cc,cc',cc''⟩<;>rcases list_nil P.kids with ck|⟨ck,ck',ck''⟩ <;>
   (simp[rX,rS,bl,ce,cc,ck,gro_pos,groB_pos]at hP
    simp[hP,hk,k0,hx,rX,rS,bl,ce,cc,ck,gro_pos,groB_pos])
 by_cases k1:k=1
 ·obtain⟨x,hx,-⟩:=one_eq l (p1+1) (by omega) (by omega) hl [[.int (-1)],[.int 4],[.int 1]] (by simp) (by simp) (by simp)
  simp only[List.length_cons,List.length_nil,Nat.zero_add,Nat.reduceAdd]at hx
  refine⟨.mk P.kind x P.exprs P.cols P.kids,p1+1+1,?_,⟨Pn.thin_with hPt.1 _ _,hPt.head⟩,by omega,by omega⟩
  rw[callA_eq rfl Tryz.func97 rfl rfl]
  rcases list_nil P.exprs with ce|⟨ce,ce',ce''⟩<;>rcases list_nil P.cols with cc|⟨cc,cc',cc''⟩<;>rcases list_nil P.kids with ck|⟨ck,ck',ck''⟩ <;>
   (simp[rX,rS,bl,ce,cc,ck,gro_pos,groB_pos]at hP
    simp[hP,hk,k0,k1,hx,rX,rS,bl,ce,cc,ck,gro_pos,groB_pos])
 by_cases k2:k=2
 ·obtain⟨x,hx,-⟩:=one_eq l (p1+1) (by omega) (by omega) hl [[.int 0],[.int 9]] (by simp) (by simp) (by simp)
  simp only[List.length_cons,List.length_nil,Nat.zero_add,Nat.reduceAdd]at hx
  refine⟨.mk P.kind P.table P.exprs (P.cols++[x]) P.kids,p1+1+1,?_,⟨Pn.thin_cols hPt.1 _ (by simp;omega),hPt.head⟩,by omega,by omega⟩
  have hl1:(P.cols.length+1)*8≤140737488355328:=by omega
  rw[callA_eq rfl Tryz.func97 rfl rfl]
  rcases list_nil P.exprs with ce|⟨ce,ce',ce''⟩<;>rcases list_nil P.cols with cc|⟨cc,cc',cc''⟩<;>rcases list_nil P.kids with ck|⟨ck,ck',ck''⟩ <;>
   (simp[rX,rS,bl,ce,cc,ck,gro_pos,groB_pos]at hP
    simp[hP,hk,k0,k1,k2,hx,rX,rS,bl,ce,cc,ck,gro_pos,groB_pos,intsL,intsL_append,hl1,tc])
 by_cases k3:k=3
 ·obtain⟨e,p2,he,a1,a2,a3⟩:=anyExpr_eq l hl 2 (p1+1) (by omega) (by omega)
  refine⟨.mk P.kind P.table (P.exprs++[e]) P.cols P.kids,p2,?_,⟨Pn.thin_exprs hPt.1 (Ex.thin_of_size _ (by omega)) (by omega),bdV_expr hPt.2.1 hPt.2.2⟩,by omega,by omega⟩
  have hl1:(P.exprs.length+1)*56≤140737488355328:=by omega
  rw[callA_eq rfl Tryz.func97 rfl rfl]
  rw[Ex.cells_eq e]at he
  rcases list_nil P.exprs with ce|⟨ce,ce',ce''⟩<;>rcases list_nil P.cols with cc|⟨cc,cc',cc''⟩<;>rcases list_nil P.kids with ck|⟨ck,ck',ck''⟩ <;>
   (simp[rX,rS,bl,ce,cc,ck,gro_pos,groB_pos]at hP
    simp[hP,hk,k0,k1,k2,k3,he,rX,rS,bl,ce,cc,ck,gro_pos,groB_pos,Ex.cellsL,Ex.cellsL_append,hl1,te,Ex.cells_eq e])
 ·refine⟨P,p1+1,?_,⟨hPt.1,hPt.all⟩,by omega,by omega⟩
  rw[callA_eq rfl Tryz.func97 rfl rfl]
  rcases list_nil P.exprs with ce|⟨ce,ce',ce''⟩<;>rcases list_nil P.cols with cc|⟨cc,cc',cc''⟩<;>rcases list_nil P.kids with ck|⟨ck,ck',ck''⟩ <;>
   (simp[rX,rS,bl,ce,cc,ck,gro_pos,groB_pos]at hP
    simp[hP,hk,k0,k1,k2,k3,rX,rS,bl,ce,cc,ck,gro_pos,groB_pos])
end Go.Proofs.YtiailccmofdhfaaGreat.P
namespace Go.Proofs.YtiailccmofdhfaaGreat.P
open Go Go.Av G
set_option maxRecDepth 4000
set_option maxHeartbeats 8000000
@[simp] theorem ce_randomWidths (a:List AV) (st:StL):callA CE 96 a st=callA C0 96 a st:=by
  rw[callA_prim (p:=callA CR 96) rfl,callA_prim (p:=callA C0 96) rfl]
@[simp] theorem ce_anyPlan (a:List AV) (st:StL):callA CE 97 a st=callA CR 97 a st:=by
  rw[callA_prim (p:=callA CR 97) rfl]
@[simp] theorem ce_randomDatabase (a:List AV) (st:StL):callA CE 72 a st=callA C0 72 a st:=by
  rw[callA_prim (p:=callA CR 72) rfl,callA_prim (p:=callA C0 72) rfl]
@[simp] theorem ce_pick (a:List AV) (st:StL):callA CE 98 a st=callA C0 98 a st:=by
  rw[callA_prim (p:=callA CR 98) rfl,callA_prim (p:=callA C0 98) rfl]
@[simp] theorem ce_newReader (a:List AV) (st:StL):callA CE 57 a st=callA C0 57 a st:=by
  rw[callA_prim (p:=callA CR 57) rfl,callA_prim (p:=callA C0 57) rfl]
@[simp] theorem ce_anyTable (a:List AV) (st:StL):callA CE 99 a st=callA CT 99 a st:=by
  rw[callA_prim (p:=callA CT 99) rfl]
theorem planAndTables_eq {l:List UInt8} (hl:l.length≤2000):∃ (P:Pn) (db:List Tbl) (p':Int),callA CE 56 [.own 0 0] [Rd l 0]=some (.tup [.i (.agg P.cells), .i (.isl (tblsL db))],[Rd l p'])∧P.thin∧BdV P∧db.length≤3∧(∀ t∈db,t.small∧t.rows.length≤5):=by
 obtain⟨a,b,r,p1,hr,r1,r2,r3,r4,r5,r6,r7,r8⟩:=randomWidths_rng l hl 0 (by omega) (by omega)
 have hw:∀ w∈a::b::r,1≤w∧w≤6:=by
  intro w hm
  simp only[List.mem_cons]at hm
  rcases hm with rfl|rfl|hm
  ·omega
  ·omega
  ·have:=r8 w hm;omega
 obtain⟨P,p2,hP,hPt,c1,c2⟩:=anyPlan_root hl (ws:=a::b::r) (fun w hm=>by have:=hw w hm;omega) (by simp;omega) (by simp) p1 (by omega) (by omega)
 obtain⟨ts,p3,hd,d1,d2,d3,d4⟩:=randomDatabase_eq l hl (a::b::r) hw (by simp;omega) p2 (by omega) (by omega)
 obtain⟨k,hk,-,-⟩:=pick_eq l p3 16 (by omega) (by omega) hl
 have te:P.exprs.take P.exprs.length=P.exprs:=List.take_of_length_le (by simp)
 have tc:P.cols.take P.cols.length=P.cols:=List.take_of_length_le (by simp)
 have tk:P.kids.take P.kids.length=P.kids:=List.take_of_length_le (by simp)
 have htl:ts.length=r.length+2:=by have:=congrArg List.length d1;simpa using this
 have tt:(tblsL ts).take (r.length+2)=tblsL ts:=List.take_of_length_le (by simp;omega)
 have tt2:ts.take (r.length+2)=ts:=List.take_of_length_le (by omega)
 have tt3:(tblsL ts).take (r.length+1+1)=tblsL ts:=List.take_of_length_le (by simp;omega)
 have tt4:ts.take (r.length+1+1)=ts:=List.take_of_length_le (by omega)
 have htl2:r.length+1+1≤ts.length:=by omega
 have hr0:(0:Int)<(r.length:Int)+2:=by omega
 have hts:∀ t∈ts,t.small∧t.rows.length≤5:=fun t ht=>⟨Tbl.ok_small (d2 t ht).1,by have:=(d2 t ht).2;omega⟩
 by_cases k0:k=0
 ·obtain⟨t,p4,ht,t1,t2,t3,t4⟩:=anyTable_ok l hl a.toNat (by omega) (by omega) (p3+1) (by omega) (by omega)
  rw[show((a.toNat:Nat):Int)=a by omega]at ht
  obtain⟨t0,ts',rfl⟩:∃ t0 ts',ts=t0::ts':=by cases ts with
   | nil=>simp at htl
   | cons x y=>exact⟨x,y,rfl⟩
  refine⟨P,t::ts',p4,?_,hPt.1,hPt.2,by simp at htl ⊢;omega,fun x hx=>?_⟩
  ·rw[callA_eq rfl Tryz.func56 rfl rfl]
   have hq:(rowsL t.rows).take t.rows.length=rowsL t.rows:=List.take_of_length_le (by simp)
   have hq2:t.rows.take t.rows.length=t.rows:=List.take_of_length_le (by simp)
   have tt5:(tblsL ts').take (r.length+1)=tblsL ts':=List.take_of_length_le (by simp at htl ⊢;omega)
   have tt6:ts'.take (r.length+1)=ts':=List.take_of_length_le (by simp at htl;omega)
   have htl3:r.length+1≤ts'.length:=by simp at htl;omega
   have hr1:(0:Int)<(r.length:Int)+1+1:=by omega
   have hcons:∀ x:Tbl,tblsL (x::ts')=[.int x.w, .isl (rowsL x.rows)]::tblsL ts':=fun x=>rfl
   rw[hcons]at hd ⊢
   by_cases hz:t.rows.length=0
   ·have hn:t.rows=[]:=List.length_eq_zero_iff.1 hz
    rw[hz]at ht
    simp at ht
    rcases list_nil P.exprs with ce|⟨ce,ce',ce''⟩<;>rcases list_nil P.cols with cc|⟨cc,cc',cc''⟩<;>rcases list_nil P.kids with ck|⟨ck,ck',ck''⟩ <;>
     (simp[rX,rS,bl,ce,cc,ck,gro_pos,groB_pos,intsL]at hP
      simp[intsL]at hd
      simp[hr,hP,hd,hk,k0,ht,hn,hr0,hr1,ce,cc,ck,intsL,te,tc,tk,tt5,tt6,htl3,rowsL_nil,Pn.cells_eq P,Ex.cellsL,Pn.cellsL]
      done)
   ·rw[gro_pos hz,groB_pos hz]at ht
    rcases list_nil P.exprs with ce|⟨ce,ce',ce''⟩<;>rcases list_nil P.cols with cc|⟨cc,cc',cc''⟩<;>rcases list_nil P.kids with ck|⟨ck,ck',ck''⟩ <;>
     (simp[rX,rS,bl,ce,cc,ck,gro_pos,groB_pos,intsL]at hP
      simp[intsL]at hd
      simp[hr,hP,hd,hk,k0,ht,hq,hq2,hr0,hr1,ce,cc,ck,intsL,te,tc,tk,tt5,tt6,htl3,Pn.cells_eq P,Ex.cellsL,Pn.cellsL]
      done)
  ·rcases List.mem_cons.1 hx with rfl|hx
   ·exact⟨t1,t2⟩
   ·exact hts x (by simp[hx])
 ·refine⟨P,ts,p3+1,?_,hPt.1,hPt.2,by omega,hts⟩
  rw[callA_eq rfl Tryz.func56 rfl rfl]
  rcases list_nil P.exprs with ce|⟨ce,ce',ce''⟩<;>rcases list_nil P.cols with cc|⟨cc,cc',cc''⟩<;>rcases list_nil P.kids with ck|⟨ck,ck',ck''⟩ <;>
   (simp[rX,rS,bl,ce,cc,ck,gro_pos,groB_pos,intsL]at hP
    simp[intsL]at hd
    simp[hr,hP,hd,hk,k0,ce,cc,ck,intsL,te,tc,tk,tt,tt2,tt3,tt4,htl2,Pn.cells_eq P,Ex.cellsL,Pn.cellsL]
    done)
@[simp] theorem ce_sEvalPlan (a:List AV) (st:StL):callA CE 29 a st=callA C0 29 a st:=by
  rw[callA_prim (p:=callA CR 29) rfl,callA_prim (p:=callA C0 29) rfl]
@[simp] theorem ce_equalTables (a:List AV) (st:StL):callA CE 30 a st=callA C0 30 a st:=by
  rw[callA_prim (p:=callA CR 30) rfl,callA_prim (p:=callA C0 30) rfl]
@[simp] theorem ce_ValidTable (a:List AV) (st:StL):callA CE 34 a st=callA C0 34 a st:=by
  rw[callA_prim (p:=callA CR 34) rfl,callA_prim (p:=callA C0 34) rfl]
@[simp] theorem ce_lwidthsOf (a:List AV) (st:StL):callA CE 36 a st=callA C0 36 a st:=by
  rw[callA_prim (p:=callA CR 36) rfl,callA_prim (p:=callA C0 36) rfl]
structure Drn (P:Pn) (db:List Tbl):Prop where
 thin:P.thin
 bdv:BdV P
 len:db.length≤3
 small:∀ t∈db,t.small
 rows:∀ t∈db,t.rows.length≤5
theorem drawEval_eq (code:List UInt8):∃ (P:Pn) (db:List Tbl),callA CE 28 [.i (.isl (bytesI code))] []=some (.tup [.i (.agg P.cells), .i (.isl (tblsL db))],[])∧Drn P db:=by
 obtain⟨c,hc,hr⟩:=newReader_eq code
 obtain⟨P,db,p',h,h1,h2,h3,h4⟩:=planAndTables_eq hc
 refine⟨P,db,?_,h1,h2,h3,fun t ht=>(h4 t ht).1,fun t ht=>(h4 t ht).2⟩
 rw[callA_eq rfl Tryz.func28 rfl rfl]
 rw[Pn.cells_eq P]at *
 simp[hr,h]
structure EvD (p:Pn) (db:List Tbl):Prop where
 ok:∀ t∈db,t.ok=true
 ws:okWs (db.map Tbl.w)=true
 wd:p.wd (db.map Tbl.w) 8≠0
theorem evOk_iff {p:Pn} {db:List Tbl}:evOk p db=true↔EvD p db:=by
 unfold evOk
 simp only[Bool.and_eq_true,decide_eq_true_eq]
 constructor
 ·rintro⟨h1,h2⟩
  obtain⟨k1,k2,_⟩:=width_ok8 h2
  exact⟨fun t ht=>List.all_eq_true.1 h1 t ht,k1,k2⟩
 ·intro h
  refine⟨List.all_eq_true.2 h.ok,?_⟩
  unfold Pn.width
  rw[if_pos h.ws];exact h.wd
theorem EvD.width {p:Pn} {db:List Tbl} (h:EvD p db):p.width (db.map Tbl.w)=p.wd (db.map Tbl.w) 8:=by
 unfold Pn.width;rw[if_pos h.ws]
theorem EvD.good {p:Pn} {db:List Tbl} (h:EvD p db):(p.evP db).ok=true∧(p.evP db).w=p.wd (db.map Tbl.w) 8:=ev_good rfl h.ok p 8 h.wd
theorem fit_bd {p:Pn} {db:List Tbl} (hr:∀ t∈db,t.rows.length≤5) (h:EvD p db) (hb:p.bd 5≤400):p.fit db=true :=
 (bd_fit (n:=5) (by omega) rfl (fun t ht=>⟨h.ok t ht,hr t ht⟩) p 8 h.wd hb).1
theorem Drn.bd {P:Pn} {db:List Tbl} (h:Drn P db) {lv:Nat} (hw:P.wd (db.map Tbl.w) lv≠0):P.bd 5≤50:=h.bdv _ lv 5 (by omega) hw
theorem Drn.fit {P:Pn} {db:List Tbl} (h:Drn P db) (he:evOk P db=true):P.fit db=true:=by
 have hd:=evOk_iff.1 he
 have:=h.bd hd.wd
 exact fit_bd h.rows hd (by omega)
theorem zsmall:(⟨0,[]⟩:Tbl).small:=⟨by simp,by simp⟩
theorem eq_zero:callA C0 30 [.i (.agg [.int 0, .isl []]), .i (.agg [.int 0, .isl []])] []=some (.bool true,[]):=by
 have:=equalTables_eq ⟨0,[]⟩ ⟨0,[]⟩ zsmall
 simpa [rowsL_nil]using this
theorem eq_same {t:Tbl} (h:t.ok=true):callA C0 30 [.i (.agg [.int t.w, .isl (rowsL t.rows)]), .i (.agg [.int t.w, .isl (rowsL t.rows)])] []=some (.bool true,[]):=by
 have:=equalTables_eq t t (Tbl.ok_small h)
 simpa using this
theorem law_evalPlan (code:List UInt8):callA CE 13 [.i (.isl (bytesI code))] []=some (.bool true,[]):=by
 rw[callA_eq rfl Tryz.func13 rfl rfl]
 by_cases hl:(1048576:Int)<code.length
 ·simp[bytesI_length,hl]
 obtain⟨p,db,hd,hp⟩:=drawEval_eq code
 have e1:=EvalPlan_eq p db hp.small hp.fit
 have e2:=sEvalPlan_eq p hp.thin db (by have:=hp.len;omega) hp.small
 cases hev:evOk p db with
 | false =>
  have e3:=eq_zero
  simp only[hev,Bool.false_eq_true,if_false]at e1 e2
  rw[Pn.cells_eq p]at *
  simp[bytesI_length,hl,hd,e1,e2,e3]
 | true =>
  have hD:=evOk_iff.1 hev
  obtain⟨g1,g2⟩:=hD.good
  have e3:=eq_same g1
  have e4:=ValidTable_eq (p.evP db) (Tbl.ok_small g1).2
  have e5:=lwidthsOf_eq db (by have:=hp.len;omega)
  have e6:=planWidth_eq p (db.map Tbl.w)
  rw[hD.width,← g2]at e6
  rw[g1]at e4
  simp only[hev,if_true]at e1 e2
  rw[Pn.cells_eq p]at *
  generalize p.evP db=t at *
  simp[bytesI_length,hl,hd,e1,e2,e3,e4,e5,e6]
theorem EvD.evOk {P Q:Pn} {db:List Tbl} (h:EvD P db):evOk Q db=decide (Q.wd (db.map Tbl.w) 8≠0):=by
 unfold Go.Av.evOk Pn.width
 rw[if_pos h.ws,List.all_eq_true.2 h.ok];rfl
theorem EvD.of {P Q:Pn} {db:List Tbl} (h:EvD P db) (hq:Q.wd (db.map Tbl.w) 8≠0):EvD Q db:=⟨h.ok,h.ws,hq⟩
theorem evalQ {P:Pn} (Q:Pn) {db:List Tbl} (hp:Drn P db) (hb:Q.bd 5≤400):callA CE 27 [.i (.agg Q.cells), .i (.isl (tblsL db))] []=some (if evOk Q db=true then .tup [.i (.agg [.int (Q.evP db).w, .isl (rowsL (Q.evP db).rows)]), .bool true]else .tup [.i (.agg [.int 0, .isl []]), .bool false],[]) :=
 EvalPlan_eq Q db hp.small fun he=>fit_bd hp.rows (evOk_iff.1 he) hb
theorem filter_eq (a0 a1 a2 a3 a4 b0 b1 b2 b3 b4:IV):callA CE 31 [.i (.agg [a0,a1,a2,a3,a4]), .i (.agg [b0,b1,b2,b3,b4])] []=some (.i (.agg [.int 2, .int 0, .isl [[a0,a1,a2,a3,a4]], .isl [], .isl [[b0,b1,b2,b3,b4]]]),[]):=by
 rw[callA_prim (p:=callA CR 31) rfl,callA_prim (p:=callA C0 31) rfl,callA_eq rfl Tryz.func31 rfl rfl]
 simp
theorem two_eq (k:Int) (a0 a1 a2 a3 a4 b0 b1 b2 b3 b4:IV):callA CE 33 [.int k, .i (.agg [a0,a1,a2,a3,a4]), .i (.agg [b0,b1,b2,b3,b4])] []=some (.i (.agg [.int k, .int 0, .bool false, .int 0, .isl [[a0,a1,a2,a3,a4],[b0,b1,b2,b3,b4]]]),[]):=by
 rw[callA_prim (p:=callA CR 33) rfl,callA_prim (p:=callA C0 33) rfl,callA_eq rfl Tryz.func33 rfl rfl]
 simp
theorem not_eq (a0 a1 a2 a3 a4:IV):callA CE 40 [.i (.agg [a0,a1,a2,a3,a4])] []=some (.i (.agg [.int 10, .int 0, .bool false, .int 0, .isl [[a0,a1,a2,a3,a4]]]),[]):=by
 rw[callA_prim (p:=callA CR 40) rfl,callA_prim (p:=callA C0 40) rfl,callA_eq rfl Tryz.func40 rfl rfl]
 simp
theorem filt_cells (e:Ex) (p:Pn):(filt e p).cells=[.int 2, .int 0, .isl [e.cells], .isl [], .isl [p.cells]]:=by
 rw[Pn.cells_eq];rfl
theorem wd78 {p:Pn} {ws:List Int} (h:p.wd ws 7≠0):p.wd ws 8=p.wd ws 7:=Pn.wd_more p 7 8 h (by omega)
theorem evOk_filt {P:Pn} {db:List Tbl} (h:EvD P db) {e:Ex} (he:e.ok ((P.evP db).w)=true):evOk (filt e P) db=decide (P.wd (db.map Tbl.w) 7≠0):=by
 rw[h.evOk,wd_filt]
 by_cases h7:P.wd (db.map Tbl.w) 7=0
 ·simp[h7]
 ·have:=wd78 h7
  rw[h.good.2,this]at he
  simp[h7,he]
theorem filt_evP {P:Pn} {db:List Tbl} (h:EvD P db) (e:Ex):(filt e P).evP db=⟨(P.evP db).w,(P.evP db).rows.filter (isT e)⟩:=evP_filt' rfl h.ok h.wd e
theorem const_ok (v:Val) (hv:v.ok=true) {w:Int} (hw:okWidth w=true):(constX v).ok w=true:=by
 unfold Ex.ok
 rw[Ex.vB_eq,Ex.wf_eq,Ex.ht_eq]
 simp[hw,constX,Ex.kids,Ex.kind,Ex.headOk,kidsK,hv,Ex.col,Ex.val,Ex.htL]
theorem const_cells (v:Val):(constX v).cells=[.int 2, .int 0, .bool v.null, .int v.n, .isl []]:=by
 rw[Ex.cells_eq];rfl
theorem law_filterConstant (code:List UInt8):callA CE 9 [.i (.isl (bytesI code))] []=some (.bool true,[]):=by
 rw[callA_eq rfl Tryz.func9 rfl rfl]
 by_cases hl:(1048576:Int)<code.length
 ·simp[bytesI_length,hl]
 obtain⟨p,db,hd,hp⟩:=drawEval_eq code
 have e1:=EvalPlan_eq p db hp.small hp.fit
 have e2:=sEvalPlan_eq p hp.thin db (by have:=hp.len;omega) hp.small
 cases hev:evOk p db with
 | false =>
  have e3:=eq_zero
  simp only[hev,Bool.false_eq_true,if_false]at e1 e2
  rw[Pn.cells_eq p]at *
  simp[bytesI_length,hl,hd,e1,e2,e3]
 | true =>
  have hD:=evOk_iff.1 hev
  obtain⟨g1,g2⟩:=hD.good
  have e3:=eq_same g1
  have hb:=hp.bd hD.wd
  have k1:∀ v:Val,v.ok=true→evOk (filt (constX v) p) db=decide (p.wd (db.map Tbl.w) 7≠0):=fun v hv=>evOk_filt hD (const_ok v hv ((Tbl.ok_iff _).1 g1).1)
  have c1:=evalQ (filt (constX ⟨false,1⟩) p) hp (by rw[filt,bd_one];omega)
  have c2:=evalQ (filt (constX ⟨true,0⟩) p) hp (by rw[filt,bd_one];omega)
  rw[k1 _ rfl,filt_cells,const_cells,filt_evP hD,filter_all (fun r=>by rw[const_isT];rfl)]at c1
  rw[k1 _ rfl,filt_cells,const_cells,filt_evP hD,filter_none (fun r=>by rw[const_isT];rfl)]at c2
  simp only[hev,if_true]at e1 e2
  rw[Pn.cells_eq p]at *
  generalize p.evP db=t at *
  by_cases h7:p.wd (db.map Tbl.w) 7=0<;>simp[h7,rowsL_nil]at c1 c2<;>simp[bytesI_length,hl,hd,e1,e2,e3,c1,c2,filter_eq]
theorem union_of {p:Pn} {db:List Tbl} (hD:EvD p db) (hk:p.kind=6):∃ a b,p=unionP a b∧a.wd (db.map Tbl.w) 7≠0∧b.wd (db.map Tbl.w) 7=a.wd (db.map Tbl.w) 7:=by
 have hs:=wd_shape hD.wd
 cases hs with
 | union m a b h1 ha hb=>obtain rfl:m=7:=by omega
                         exact⟨a,b,rfl,ha,hb⟩
 | scan|filt|proj|dist|group=>simp[Pn.scan,filt,proj]at hk
 | pair m k e a b h1 h2=>simp[pairP]at hk;omega
theorem join_of {p:Pn} {db:List Tbl} (hD:EvD p db) {k:Int} (hk0:k=4∨k=5) (hk:p.kind=k):∃ e a b,p=pairP k e a b∧a.wd (db.map Tbl.w) 7≠0∧b.wd (db.map Tbl.w) 7≠0∧a.wd (db.map Tbl.w) 7+b.wd (db.map Tbl.w) 7≤6∧e.ok (a.wd (db.map Tbl.w) 7+b.wd (db.map Tbl.w) 7)=true:=by
 have hs:=wd_shape hD.wd
 cases hs with
 | pair m k e a b h1 h2 ha hb hl he=>obtain rfl:m=7:=by omega
                                     simp[pairP]at hk;subst hk
                                     exact⟨e,a,b,rfl,ha,hb,hl,he⟩
 | scan|filt|proj|dist|group|union=>simp[Pn.scan,filt,proj,unionP]at hk;omega
theorem union_cells (a b:Pn):(unionP a b).cells=[.int 6, .int 0, .isl [], .isl [], .isl [a.cells,b.cells]]:=by
 rw[Pn.cells_eq];rfl
theorem pair_cells (k:Int) (e:Ex) (a b:Pn):(pairP k e a b).cells=[.int k, .int 0, .isl [e.cells], .isl [], .isl [a.cells,b.cells]]:=by
 rw[Pn.cells_eq];rfl
theorem EvD.rows {P:Pn} {db:List Tbl} (h:EvD P db) (hr:∀ t∈db,t.rows.length≤5) (hb:P.bd 5≤400):(P.evP db).rows.length≤P.bd 5 :=
 (bd_fit (n:=5) (by omega) rfl (fun t ht=>⟨h.ok t ht,hr t ht⟩) P 8 h.wd hb).2
theorem law_unionSwap (code:List UInt8):callA CE 8 [.i (.isl (bytesI code))] []=some (.bool true,[]):=by
 rw[callA_eq rfl Tryz.func8 rfl rfl]
 by_cases hl:(1048576:Int)<code.length
 ·simp[bytesI_length,hl]
 obtain⟨p,db,hd,hp⟩:=drawEval_eq code
 have e1:=EvalPlan_eq p db hp.small hp.fit
 have e2:=sEvalPlan_eq p hp.thin db (by have:=hp.len;omega) hp.small
 cases hev:evOk p db with
 | false =>
  have e3:=eq_zero
  simp only[hev,Bool.false_eq_true,if_false]at e1 e2
  rw[Pn.cells_eq p]at *
  simp[bytesI_length,hl,hd,e1,e2,e3]
 | true =>
  have hD:=evOk_iff.1 hev
  obtain⟨g1,g2⟩:=hD.good
  have e3:=eq_same g1
  have hb:=hp.bd hD.wd
  simp only[hev,if_true]at e1 e2
  by_cases hk:p.kind=6
  case neg =>
   rw[Pn.cells_eq p]at *
   generalize p.evP db=t at *
   simp[bytesI_length,hl,hd,e1,e2,e3,hk]
  obtain⟨a,b,rfl,ha,hb7⟩:=union_of hD hk
  have hA:EvD a db:=hD.of (by rw[wd78 ha];exact ha)
  have hB:EvD b db:=hD.of (by rw[wd78 (by rw[hb7];exact ha),hb7];exact ha)
  have hU:EvD (unionP b a) db:=hD.of (by rw[wd_union,if_pos ⟨by rw[hb7];exact ha,hb7⟩,hb7];exact ha)
  have hbd:(unionP a b).bd 5=a.bd 5+b.bd 5:=by rw[unionP,bd_two,if_pos rfl]
  have hbd2:(unionP b a).bd 5=b.bd 5+a.bd 5:=by rw[unionP,bd_two,if_pos rfl]
  have c1:=evalQ (unionP b a) hp (by omega)
  have c2:=evalQ a hp (by omega)
  have c3:=evalQ b hp (by omega)
  obtain⟨ga,wa⟩:=hA.good
  obtain⟨gb,wb⟩:=hB.good
  have ra:=hA.rows hp.rows (by omega)
  have rb:=hB.rows hp.rows (by omega)
  have hw:(b.evP db).w=(a.evP db).w:=by rw[wa,wb,wd78 ha,wd78 (by rw[hb7];exact ha),hb7]
  have hE:(unionP b a).evP db=(unionP a b).evP db:=by rw[evP_union,evP_union,hw,union_swap _ (Tbl.ok_oks ga) (Tbl.ok_oks gb)]
  have hN:((unionP a b).evP db).rows.length=(a.evP db).rows.length+(b.evP db).rows.length:=by rw[evP_union,tab_rows (by simp;omega),sortR_length];simp
  rw[evOk_iff.2 hU,if_pos rfl,hE]at c1
  rw[evOk_iff.2 hA,if_pos rfl]at c2
  rw[evOk_iff.2 hB,if_pos rfl]at c3
  rw[union_cells]at *
  rw[Pn.cells_eq a,Pn.cells_eq b]at *
  generalize (unionP a b).evP db=t at *
  generalize a.evP db=s at *
  generalize b.evP db=r at *
  have hN':(t.rows.length:Int)=s.rows.length+r.rows.length:=by omega
  have hw:IntKind.i64.wrap ((s.rows.length:Int)+r.rows.length)=s.rows.length+r.rows.length:=wrap64 (by omega) (by omega)
  simp[bytesI_length,hl,hd,e1,e2,e3,c1,c2,c3,hN',hw]
theorem law_joinFilter (code:List UInt8):callA CE 10 [.i (.isl (bytesI code))] []=some (.bool true,[]):=by
 rw[callA_eq rfl Tryz.func10 rfl rfl]
 by_cases hl:(1048576:Int)<code.length
 ·simp[bytesI_length,hl]
 obtain⟨p,db,hd,hp⟩:=drawEval_eq code
 have e1:=EvalPlan_eq p db hp.small hp.fit
 have e2:=sEvalPlan_eq p hp.thin db (by have:=hp.len;omega) hp.small
 cases hev:evOk p db with
 | false =>
  have e3:=eq_zero
  simp only[hev,Bool.false_eq_true,if_false]at e1 e2
  rw[Pn.cells_eq p]at *
  simp[bytesI_length,hl,hd,e1,e2,e3]
 | true =>
  have hD:=evOk_iff.1 hev
  obtain⟨g1,g2⟩:=hD.good
  have e3:=eq_same g1
  have hb:=hp.bd hD.wd
  simp only[hev,if_true]at e1 e2
  by_cases hk:p.kind=4
  case neg =>
   rw[Pn.cells_eq p]at *
   generalize p.evP db=t at *
   simp[bytesI_length,hl,hd,e1,e2,e3,hk]
  obtain⟨e,a,b,rfl,ha,hb7,hl6,he⟩:=join_of hD (.inl rfl) hk
  have hA:EvD a db:=hD.of (by rw[wd78 ha];exact ha)
  have hB:EvD b db:=hD.of (by rw[wd78 hb7];exact hb7)
  obtain⟨ga,wa⟩:=hA.good
  obtain⟨gb,wb⟩:=hB.good
  have hbd:(pairP 4 e a b).bd 5=a.bd 5*b.bd 5:=by rw[pairP,bd_two,if_neg (by simp)]
  have hbd2:(pairP 4 (constX ⟨false,1⟩) a b).bd 5=a.bd 5*b.bd 5:=by rw[pairP,bd_two,if_neg (by simp)]
  have c1:=evalQ (filt e (pairP 4 (constX ⟨false,1⟩) a b)) hp (by rw[filt,bd_one];omega)
  have ra:=hA.rows hp.rows (by have:=bd_pos (n:=5) (by omega) b;have:=Nat.le_mul_of_pos_right (a.bd 5) this;omega)
  have rb:=hB.rows hp.rows (by have:=bd_pos (n:=5) (by omega) a;have:=Nat.le_mul_of_pos_left (b.bd 5) this;omega)
  have hm:=Nat.mul_le_mul ra rb
  have hE:(filt e (pairP 4 (constX ⟨false,1⟩) a b)).evP db=(pairP 4 e a b).evP db:=by
   rw[evP_filt,evP_pair db (.inl rfl),evP_pair db (.inl rfl),tab_w]
   exact join_filter ga gb (fun r=>by rw[const_isT];rfl) (by omega) _
  rw[hE,filt_cells,pair_cells,const_cells]at c1
  rw[pair_cells]at *
  rw[Ex.cells_eq e]at *
  generalize (pairP 4 e a b).evP db=t at *
  cases hq:evOk (filt e (pairP 4 (constX ⟨false,1⟩) a b)) db<;>simp[hq]at c1<;>simp[bytesI_length,hl,hd,e1,e2,e3,c1,filter_eq]
theorem filt2 {P:Pn} {db:List Tbl} (hp:Drn P db) (h:EvD P db) {e f:Ex} (he:e.ok (P.evP db).w=true) (hf:f.ok (P.evP db).w=true) :
 callA CE 27 [.i (.agg (filt e (filt f P)).cells), .i (.isl (tblsL db))] []=some (if P.wd (db.map Tbl.w) 6≠0 then .tup [.i (.agg [.int (P.evP db).w, .isl (rowsL (((P.evP db).rows.filter (isT f)).filter (isT e)))]), .bool true]else .tup [.i (.agg [.int 0, .isl []]), .bool false],[]):=by
 have hb:=hp.bd h.wd
 rw[evalQ (filt e (filt f P)) hp (by rw[filt,bd_one,filt,bd_one];omega),h.evOk,wd_filt (lv:=7),wd_filt (lv:=6)]
 rw[h.good.2]at he hf
 by_cases h6:P.wd (db.map Tbl.w) 6=0
 ·simp[h6]
 ·have h8:=Pn.wd_more P 6 8 h6 (by omega)
  have h7:=Pn.wd_more P 6 7 h6 (by omega)
  rw[h8]at he hf
  have hF:EvD (filt f P) db:=h.of (by rw[wd_filt (lv:=7),h7,if_pos ⟨h6,hf⟩];exact h6)
  rw[filt_evP hF,filt_evP h]
  simp[h6,he,hf]
theorem filt1 {P:Pn} {db:List Tbl} (hp:Drn P db) (h:EvD P db) {e:Ex} (he:e.ok (P.evP db).w=true) :
 callA CE 27 [.i (.agg (filt e P).cells), .i (.isl (tblsL db))] []=some (if P.wd (db.map Tbl.w) 7≠0 then .tup [.i (.agg [.int (P.evP db).w, .isl (rowsL ((P.evP db).rows.filter (isT e)))]), .bool true]else .tup [.i (.agg [.int 0, .isl []]), .bool false],[]):=by
 have hb:=hp.bd h.wd
 rw[evalQ (filt e P) hp (by rw[filt,bd_one];omega),evOk_filt h he,filt_evP h]
 simp
theorem cmp_ok {k c n w:Int} (hw:okWidth w=true) (hk:3≤k∧k≤9) (hc:0≤c∧c<w) (hn:0≤n∧n≤9999):(Ex.mk k 0 Val.zero [colX c,constX ⟨false,n⟩]).ok w=true:=by
 have h1:¬ (k=1∨k=2):=by omega
 have h2:¬ (k=10∨k=11):=by omega
 have h3:¬ k=1:=by omega
 have h4:¬ k=2:=by omega
 have hv:Val.ok ⟨false,n⟩=true:=by simp[Val.ok];omega
 unfold Ex.ok
 rw[Ex.vB_eq,Ex.wf_eq,Ex.ht_eq]
 simp[hw,h1,h2,h3,h4,hk,colX,constX,Ex.kids,Ex.kind,Ex.headOk,kidsK,hv,Ex.col,Ex.val,Ex.htL,Ex.wf_eq,Ex.ht_eq,hc,Val.zero]
theorem cmp_cells (k c n:Int):(Ex.mk k 0 Val.zero [colX c,constX ⟨false,n⟩]).cells=[.int k, .int 0, .bool false, .int 0, .isl [[.int 1, .int c, .bool false, .int 0, .isl []],[.int 2, .int 0, .bool false, .int n, .isl []]]]:=by
 rw[Ex.cells_eq];rfl
theorem filter_comm2 (f g:List Val→Bool) (l:List (List Val)):(l.filter f).filter g=(l.filter g).filter f:=by
 rw[List.filter_filter,List.filter_filter]
 congr 1;funext x;exact Bool.and_comm _ _
theorem law_filterTwice (code more:List UInt8):callA CE 12 [.i (.isl (bytesI code)), .i (.isl (bytesI more))] []=some (.bool true,[]):=by
 rw[callA_eq rfl Tryz.func12 rfl rfl]
 by_cases hl:(1048576:Int)<code.length
 ·simp[bytesI_length,hl]
 by_cases hl2:(1048576:Int)<more.length
 ·simp[bytesI_length,hl,hl2]
 obtain⟨p,db,hd,hp⟩:=drawEval_eq code
 have e1:=EvalPlan_eq p db hp.small hp.fit
 have e2:=sEvalPlan_eq p hp.thin db (by have:=hp.len;omega) hp.small
 cases hev:evOk p db with
 | false =>
  have e3:=eq_zero
  simp only[hev,Bool.false_eq_true,if_false]at e1 e2
  rw[Pn.cells_eq p]at *
  simp[bytesI_length,hl,hl2,hd,e1,e2,e3]
 | true =>
  have hD:=evOk_iff.1 hev
  obtain⟨g1,g2⟩:=hD.good
  have e3:=eq_same g1
  have hb:=hp.bd hD.wd
  simp only[hev,if_true]at e1 e2
  have hW:=(Tbl.ok_iff _).1 g1 |>.1
  have hw6:=(okWidth_iff _).1 hW
  have hm:(more.length:Int).tmod 4=(more.length % 4:Nat):=(Int.ofNat_tmod more.length 4).symm
  have hm4:more.length % 4<4:=Nat.mod_lt _ (by omega)
  generalize hM:more.length % 4=m at *
  have k1:(Ex.mk 7 0 Val.zero [colX 0,constX ⟨false,(m:Int)⟩]).ok (p.evP db).w=true:=cmp_ok hW (by omega) (by omega) (by omega)
  have k2:(Ex.mk 6 0 Val.zero [colX ((p.evP db).w-1),constX ⟨false,1⟩]).ok (p.evP db).w=true:=cmp_ok hW (by omega) (by omega) (by omega)
  have c1:=filt1 hp hD k1
  have c2:=filt2 hp hD k1 k1
  have c3:=filt2 hp hD k1 k2
  have c4:=filt2 hp hD k2 k1
  rw[filter_comm2]at c4
  rw[List.filter_filter]at c2
  simp only[Bool.and_self]at c2
  have w1:IntKind.i64.wrap ((p.evP db).w-1)=(p.evP db).w-1:=wrap64 (by omega) (by omega)
  simp only[filt_cells,cmp_cells]at c1 c2 c3 c4
  have hg:=hD.good.1
  have x1:=filt_evP hD (Ex.mk 7 0 Val.zero [colX 0,constX ⟨false,(m:Int)⟩])
  have hz:=eq_zero
  have hs:∀ rs:List (List Val),rs.Sublist (p.evP db).rows→callA C0 30 [.i (.agg [.int (p.evP db).w, .isl (rowsL rs)]), .i (.agg [.int (p.evP db).w, .isl (rowsL rs)])] []=some (.bool true,[]):=by
   intro rs h
   have sm:=Tbl.ok_small hg
   have:=equalTables_eq ⟨(p.evP db).w,rs⟩ ⟨(p.evP db).w,rs⟩ ⟨by have:=h.length_le;have:=sm.1;simp only;omega,fun r hr=>sm.2 r (h.subset hr)⟩
   simpa using this
  have s1:=hs _ (List.filter_sublist (p:=isT (Ex.mk 7 0 Val.zero [colX 0,constX ⟨false,(m:Int)⟩])))
  have s2:=hs _ ((List.filter_sublist (p:=isT (Ex.mk 7 0 Val.zero [colX 0,constX ⟨false,(m:Int)⟩]))).trans (List.filter_sublist (p:=isT (Ex.mk 6 0 Val.zero [colX ((p.evP db).w-1),constX ⟨false,1⟩]))))
  have h67:p.wd (db.map Tbl.w) 7=0→p.wd (db.map Tbl.w) 6=0:=by
   intro h7
   by_cases h6:p.wd (db.map Tbl.w) 6=0
   ·exact h6
   ·rw[Pn.wd_more p 6 7 h6 (by omega)]at h7;exact absurd h7 h6
  clear hs x1 hg k1 k2
  rw[Pn.cells_eq p]at *
  generalize isT (Ex.mk 7 0 Val.zero [colX 0,constX ⟨false,(m:Int)⟩])=F1 at *
  generalize isT (Ex.mk 6 0 Val.zero [colX ((p.evP db).w-1),constX ⟨false,1⟩])=F2 at *
  generalize p.evP db=t at *
  by_cases h7:p.wd (db.map Tbl.w) 7=0
  ·have h6:=h67 h7
   simp[h6,h7]at c1 c2 c3 c4
   simp[bytesI_length,hl,hl2,hd,e1,e2,e3,c1,c2,c3,c4,filter_eq,two_eq,hm,hM,w1,hz]
  ·by_cases h6:p.wd (db.map Tbl.w) 6=0<;>simp[h6,h7]at c1 c2 c3 c4<;>simp at s1 s2<;>simp[bytesI_length,hl,hl2,hd,e1,e2,e3,c1,c2,c3,c4,filter_eq,two_eq,hm,hM,w1,hz,s1,s2]
theorem sortR_dedup {t:Tbl} (h:t.ok=true):sortR (dedup t.rows)=dedup t.rows:=by
 have:=tab_dedup h
 have hl:=(dedup_sub t.rows).length_le
 have h4:=((Tbl.ok_iff t).1 h).2.1
 have h2:=congrArg Tbl.rows this
 rw[tab_rows (by omega)]at h2
 exact h2
theorem DistinctRows_eq {t:Tbl} (h:t.ok=true):callA CE 32 [.i (.agg [.int t.w, .isl (rowsL t.rows)])] []=some (.tup [.i (.agg [.int t.w, .isl (rowsL (dedup t.rows))]), .bool true],[]):=by
 have hv:=ValidTable_eq t (Tbl.ok_small h).2
 rw[h]at hv
 obtain⟨o1,o2⟩:=oksL_of h
 have hl:=(dedup_sub t.rows).length_le
 have h4:=((Tbl.ok_iff t).1 h).2.1
 have hfl:=different_mk (rowsL t.rows)
 have hcl:=collect_one t.w 113 (by decide) [.i (.isl (rowsL t.rows))] (dedup t.rows) (by omega) (fun r hr=>o1 r ((dedup_sub _).subset hr)) (fun R cs hY=>different_it hY _ h4 o2) rfl (fun r=>rfl)
 rw[sortR_dedup h]at hcl
 rw[callA_eq rfl Tryz.func32 rfl rfl]
 simp[hv,hfl,hcl]
theorem UnionAll_eq {a b:Tbl} (ha:a.ok=true) (hb:b.ok=true) (hw:b.w=a.w) (hn:a.rows.length+b.rows.length≤400):callA CE 41 [.i (.agg [.int a.w, .isl (rowsL a.rows)]), .i (.agg [.int a.w, .isl (rowsL b.rows)])] []=some (.tup [.i (.agg [.int a.w, .isl (rowsL (tab a.w (a.rows++b.rows)).rows)]), .bool true],[]):=by
 have hv:=ValidTable_eq a (Tbl.ok_small ha).2
 have hv2:=ValidTable_eq b (Tbl.ok_small hb).2
 rw[ha]at hv
 rw[hb,hw]at hv2
 obtain⟨o1,o2⟩:=oksL_of ha
 obtain⟨o3,o4⟩:=oksL_of hb
 have hraw:(a.rows++b.rows).length≤400:=by simp;omega
 have hcc:=concat_eq a.rows b.rows ((Tbl.ok_iff _).1 ha).2.1 ((Tbl.ok_iff _).1 hb).2.1
 have hfl:=values_mk (rowsL (a.rows++b.rows))
 have hcl:=collect_one a.w 130 (by decide) [.i (.isl (rowsL (a.rows++b.rows)))] (a.rows++b.rows) hraw (fun r hr=>by rcases List.mem_append.1 hr with h|h;exact o1 r h;exact o3 r h) (fun R cs hY=>values_it hY _ hraw fun r hr=>by rcases List.mem_append.1 hr with h|h;exact o2 r h;exact o4 r h) rfl (fun r=>rfl)
 rw[callA_eq rfl Tryz.func41 rfl rfl,tab_rows hraw]
 generalize (a.rows++b.rows)=rows at *
 simp[hv,hv2,hcc,hfl,hcl]
theorem proj_cells (es:List Ex) (p:Pn):(proj es p).cells=[.int 3, .int 0, .isl (Ex.cellsL es), .isl [], .isl [p.cells]]:=by
 rw[Pn.cells_eq];rfl
theorem dist_cells (p:Pn):(Pn.mk 7 0 [] [] [p]).cells=[.int 7, .int 0, .isl [], .isl [], .isl [p.cells]]:=by
 rw[Pn.cells_eq];rfl
theorem group_cells (cs:List Int) (p:Pn):(Pn.mk 8 0 [] cs [p]).cells=[.int 8, .int 0, .isl [], .isl (intsL cs), .isl [p.cells]]:=by
 rw[Pn.cells_eq];rfl
theorem col_cells (i:Int):(colX i).cells=[.int 1, .int i, .bool false, .int 0, .isl []]:=by
 rw[Ex.cells_eq];rfl
theorem wd_dist {ws:List Int} {a:Pn} {lv:Nat}:(Pn.mk 7 0 [] [] [a]).wd ws (lv+1)=a.wd ws lv:=by
 rw[wd_one (by omega)]
 have ho:(Pn.mk 7 0 [] [] [a]).headOk=true:=by simp[Pn.headOk,nKids,nExprs]
 by_cases h:a.wd ws lv=0
 ·simp[h]
 ·simp[ho,h,wdOver]
theorem wd_group0 {ws:List Int} {a:Pn} {lv:Nat} (hw:0≤a.wd ws lv):(Pn.mk 8 0 [] [0] [a]).wd ws (lv+1)=if a.wd ws lv≠0 then 2 else 0:=by
 rw[wd_one (by omega)]
 have ho:(Pn.mk 8 0 [] [0] [a]).headOk=true:=by simp[Pn.headOk,nKids,nExprs]
 by_cases h:a.wd ws lv=0
 ·simp[h]
 ·have:0<a.wd ws lv:=by omega
  simp[ho,h,wdOver,colsOk,this]
theorem law_distinctUnion (code:List UInt8):callA CE 11 [.i (.isl (bytesI code))] []=some (.bool true,[]):=by
 rw[callA_eq rfl Tryz.func11 rfl rfl]
 by_cases hl:(1048576:Int)<code.length
 ·simp[bytesI_length,hl]
 obtain⟨p,db,hd,hp⟩:=drawEval_eq code
 have e1:=EvalPlan_eq p db hp.small hp.fit
 have e2:=sEvalPlan_eq p hp.thin db (by have:=hp.len;omega) hp.small
 cases hev:evOk p db with
 | false =>
  have e3:=eq_zero
  simp only[hev,Bool.false_eq_true,if_false]at e1 e2
  rw[Pn.cells_eq p]at *
  simp[bytesI_length,hl,hd,e1,e2,e3]
 | true =>
  have hD:=evOk_iff.1 hev
  obtain⟨g1,g2⟩:=hD.good
  have e3:=eq_same g1
  have hb:=hp.bd hD.wd
  simp only[hev,if_true]at e1 e2
  have c2:=DistinctRows_eq g1
  have c1:=evalQ (.mk 7 0 [] [] [unionP p p]) hp (by rw[bd_one,unionP,bd_two,if_pos rfl];omega)
  have hr:=hD.rows hp.rows (by omega)
  have hE:(Pn.mk 7 0 [] [] [unionP p p]).evP db=⟨(p.evP db).w,dedup (p.evP db).rows⟩:=by
   rw[evP_dist,evP_union,tab_w]
   exact distinct_union g1 (by omega)
  rw[hE,dist_cells,union_cells]at c1
  have hs:callA C0 30 [.i (.agg [.int (p.evP db).w, .isl (rowsL (dedup (p.evP db).rows))]), .i (.agg [.int (p.evP db).w, .isl (rowsL (dedup (p.evP db).rows))])] []=some (.bool true,[]):=by
   have sm:=Tbl.ok_small g1
   have:=equalTables_eq ⟨(p.evP db).w,dedup (p.evP db).rows⟩ ⟨(p.evP db).w,dedup (p.evP db).rows⟩ ⟨by have:=(dedup_sub (p.evP db).rows).length_le;have:=sm.1;simp only;omega,fun r hr=>sm.2 r ((dedup_sub _).subset hr)⟩
   simpa using this
  rw[Pn.cells_eq p]at *
  generalize p.evP db=t at *
  cases hq:evOk (Pn.mk 7 0 [] [] [unionP p p]) db<;>simp[hq]at c1<;>simp[bytesI_length,hl,hd,e1,e2,e3,c1,c2,hs]
theorem law_groupKeys (code:List UInt8):callA CE 5 [.i (.isl (bytesI code))] []=some (.bool true,[]):=by
 rw[callA_eq rfl Tryz.func5 rfl rfl]
 by_cases hl:(1048576:Int)<code.length
 ·simp[bytesI_length,hl]
 obtain⟨p,db,hd,hp⟩:=drawEval_eq code
 have e1:=EvalPlan_eq p db hp.small hp.fit
 have e2:=sEvalPlan_eq p hp.thin db (by have:=hp.len;omega) hp.small
 cases hev:evOk p db with
 | false =>
  have e3:=eq_zero
  simp only[hev,Bool.false_eq_true,if_false]at e1 e2
  rw[Pn.cells_eq p]at *
  simp[bytesI_length,hl,hd,e1,e2,e3]
 | true =>
  have hD:=evOk_iff.1 hev
  obtain⟨g1,g2⟩:=hD.good
  have e3:=eq_same g1
  have hb:=hp.bd hD.wd
  simp only[hev,if_true]at e1 e2
  obtain⟨t1,t2,t3,t4⟩:=(Tbl.ok_iff _).1 g1
  obtain⟨w1,w2⟩:=(okWidth_iff _).1 t1
  have c1:=evalQ (proj [colX 0] (.mk 8 0 [] [0] [p])) hp (by rw[proj,bd_one,bd_one];omega)
  have c2:=evalQ (.mk 7 0 [] [] [proj [colX 0] p]) hp (by rw[bd_one,proj,bd_one];omega)
  have hcol:∀ r,[colX 0].map (Ex.ev r)=[fstV r]:=by
   intro r
   simp only[List.map_cons,List.map_nil]
   rw[Ex.ev_eq];rfl
  have hE1:(proj [colX 0] (.mk 8 0 [] [0] [p])).evP db=⟨1,dedup (tab 1 ((p.evP db).rows.map fun r=>[fstV r])).rows⟩:=by
   rw[evP_proj,evP_group]
   simp only[hcol]
   exact keys_same g1
  have hT:(tab 1 ((p.evP db).rows.map fun r=>[fstV r])).ok=true:=by
   refine tab_ok rfl fun r hr=>?_
   obtain⟨x,hx,rfl⟩:=List.mem_map.1 hr
   have:=pickV_ok (cs:=[0]) (t3 x hx) (by intro c hc;simp at hc;omega)
   simpa [pick0]using this
  have hE2:(Pn.mk 7 0 [] [] [proj [colX 0] p]).evP db=⟨1,dedup (tab 1 ((p.evP db).rows.map fun r=>[fstV r])).rows⟩:=by
   rw[evP_dist,evP_proj]
   simp only[hcol]
   rw[tab_w]
   have:=tab_dedup hT
   rw[tab_w]at this
   exact this
  have hw:∀ lv,p.wd (db.map Tbl.w) lv≠0→p.wd (db.map Tbl.w) lv=(p.evP db).w:=fun lv h=>((ev_good rfl hD.ok p lv h).2).symm
  have hx:∀ w,okWidth w=true→Ex.ok w (colX 0)=true:=by
   intro w hw
   have:=(okWidth_iff w).1 hw
   unfold Ex.ok
   rw[Ex.vB_eq,Ex.wf_eq,Ex.ht_eq]
   simp[hw,colX,Ex.kids,Ex.kind,Ex.headOk,kidsK,Ex.col,Ex.val,Ex.htL,Val.zero]
   exact decide_eq_true (by omega)
  have w0:0≤p.wd (db.map Tbl.w) 6:=by
   by_cases h6:p.wd (db.map Tbl.w) 6=0
   ·omega
   ·rw[hw 6 h6];omega
  have k1:evOk (proj [colX 0] (.mk 8 0 [] [0] [p])) db=decide (p.wd (db.map Tbl.w) 6≠0):=by
   rw[hD.evOk,wd_proj (lv:=7),wd_group0 (lv:=6) w0]
   by_cases h6:p.wd (db.map Tbl.w) 6=0
   ·simp[h6]
   ·simp[h6,hx 2 rfl,okWidth]
  have k2:evOk (.mk 7 0 [] [] [proj [colX 0] p]) db=decide (p.wd (db.map Tbl.w) 6≠0):=by
   rw[hD.evOk,wd_dist (lv:=7),wd_proj (lv:=6)]
   by_cases h6:p.wd (db.map Tbl.w) 6=0
   ·simp[h6]
   ·have:=hx _ t1
    rw[hw 6 h6]
    have h0:¬ (p.evP db).w=0:=by omega
    simp[h6,h0,this,okWidth]
  rw[k1,hE1,proj_cells,group_cells]at c1
  rw[k2,hE2,dist_cells,proj_cells]at c2
  simp only[Ex.cellsL,col_cells,intsL]at c1 c2
  have hs:callA C0 30 [.i (.agg [.int 1, .isl (rowsL (dedup (tab 1 ((p.evP db).rows.map fun r=>[fstV r])).rows))]), .i (.agg [.int 1, .isl (rowsL (dedup (tab 1 ((p.evP db).rows.map fun r=>[fstV r])).rows))])] []=some (.bool true,[]):=by
   have sm:=Tbl.ok_small hT
   have:=equalTables_eq ⟨1,dedup (tab 1 ((p.evP db).rows.map fun r=>[fstV r])).rows⟩ ⟨1,dedup (tab 1 ((p.evP db).rows.map fun r=>[fstV r])).rows⟩ ⟨by have:=(dedup_sub (tab 1 ((p.evP db).rows.map fun r=>[fstV r])).rows).length_le;have:=sm.1;simp only;omega,fun r hr=>sm.2 r ((dedup_sub _).subset hr)⟩
   simpa using this
  clear hE1 hE2 hT hw
  rw[Pn.cells_eq p]at *
  generalize dedup (tab 1 ((p.evP db).rows.map fun r=>[fstV r])).rows=R at *
  generalize p.evP db=t at *
  have hz:=eq_zero
  by_cases h6:p.wd (db.map Tbl.w) 6=0<;>simp[h6]at c1 c2<;>simp[bytesI_length,hl,hd,e1,e2,e3,c1,c2,hs,hz]
theorem not_ok {e:Ex} {w:Int} (h:e.ok w=true) (hh:e.ht≤6):(notE e).ok w=true∧(nullE e).ok w=true:=by
 obtain⟨h1,h2,h3⟩:=Ex.ok_wf h
 have hw:=(okWidth_iff w).2 ⟨h2,h3⟩
 have hm:1+e.ht≤8:=by omega
 constructor<;>(unfold Ex.ok;rw[Ex.vB_eq,Ex.wf_eq,Ex.ht_eq];simp[hw,notE,nullE,Ex.kids,Ex.kind,Ex.headOk,kidsK,Ex.col,Ex.val,Ex.htL,Val.zero,h1,hm])
theorem filt_ok {t:Tbl} (h:t.ok=true) (f:List Val→Bool):(Tbl.mk t.w (t.rows.filter f)).ok=true:=by
 have:=tab_filter h f
 obtain⟨h1,h2,h3,h4⟩:=(Tbl.ok_iff t).1 h
 rw[← this]
 exact tab_ok h1 fun r hr=>h3 r (List.mem_filter.1 hr).1
theorem notE_cells (e:Ex):(notE e).cells=[.int 10, .int 0, .bool false, .int 0, .isl [e.cells]]:=by
 rw[Ex.cells_eq];rfl
theorem nullE_cells (e:Ex):(nullE e).cells=[.int 11, .int 0, .bool false, .int 0, .isl [e.cells]]:=by
 rw[Ex.cells_eq];rfl
theorem law_filterSplits (code more:List UInt8):callA CE 15 [.i (.isl (bytesI code)), .i (.isl (bytesI more))] []=some (.bool true,[]):=by
 rw[callA_eq rfl Tryz.func15 rfl rfl]
 by_cases hl:(1048576:Int)<code.length
 ·simp[bytesI_length,hl]
 by_cases hl2:(1048576:Int)<more.length
 ·simp[bytesI_length,hl,hl2]
 obtain⟨p,db,hd,hp⟩:=drawEval_eq code
 have e1:=EvalPlan_eq p db hp.small hp.fit
 have e2:=sEvalPlan_eq p hp.thin db (by have:=hp.len;omega) hp.small
 cases hev:evOk p db with
 | false =>
  have e3:=eq_zero
  simp only[hev,Bool.false_eq_true,if_false]at e1 e2
  rw[Pn.cells_eq p]at *
  simp[bytesI_length,hl,hl2,hd,e1,e2,e3]
 | true =>
  have hD:=evOk_iff.1 hev
  obtain⟨g1,g2⟩:=hD.good
  have e3:=eq_same g1
  have hb:=hp.bd hD.wd
  simp only[hev,if_true]at e1 e2
  have hW:=(Tbl.ok_iff _).1 g1 |>.1
  have hw6:=(okWidth_iff _).1 hW
  have hm:(more.length:Int).tmod 4=(more.length % 4:Nat):=(Int.ofNat_tmod more.length 4).symm
  have hm4:more.length % 4<4:=Nat.mod_lt _ (by omega)
  generalize hM:more.length % 4=m at *
  have k1:(Ex.mk 7 0 Val.zero [colX 0,constX ⟨false,(m:Int)⟩]).ok (p.evP db).w=true:=cmp_ok hW (by omega) (by omega) (by omega)
  obtain⟨k2,k3⟩:=not_ok k1 (by rw[Ex.ht_eq];simp[Ex.kids,Ex.htL,Ex.ht_eq,colX,constX])
  have c1:=filt1 hp hD k1
  have c2:=filt1 hp hD k2
  have c3:=filt1 hp hD k3
  simp only[filt_cells,notE_cells,nullE_cells,cmp_cells]at c1 c2 c3
  have hperm:=(split_perm (Ex.mk 7 0 Val.zero [colX 0,constX ⟨false,(m:Int)⟩]) (p.evP db).rows).length_eq
  have h4:=((Tbl.ok_iff _).1 g1).2.1
  rw[List.length_append,List.length_append]at hperm
  have u1:=UnionAll_eq (filt_ok g1 (isT (Ex.mk 7 0 Val.zero [colX 0,constX ⟨false,(m:Int)⟩]))) (filt_ok g1 (isT (notE (Ex.mk 7 0 Val.zero [colX 0,constX ⟨false,(m:Int)⟩])))) rfl (by simp only;omega)
  have hX:(tab (p.evP db).w ((p.evP db).rows.filter (isT (Ex.mk 7 0 Val.zero [colX 0,constX ⟨false,(m:Int)⟩]))++(p.evP db).rows.filter (isT (notE (Ex.mk 7 0 Val.zero [colX 0,constX ⟨false,(m:Int)⟩]))))).ok=true:=by
   refine tab_ok hW fun r hr=>?_
   have h3:=((Tbl.ok_iff _).1 g1).2.2.1
   rcases List.mem_append.1 hr with h|h<;>exact h3 r (List.mem_filter.1 h).1
  have u2:=UnionAll_eq hX (filt_ok g1 (isT (nullE (Ex.mk 7 0 Val.zero [colX 0,constX ⟨false,(m:Int)⟩])))) (by rw[tab_w]) (by rw[tab_rows (by rw[List.length_append];omega),sortR_length,List.length_append];simp only;omega)
  rw[tab_w]at u2
  rw[split_union g1]at u2
  simp only at u1
  clear hX k1 k2 k3 hperm
  rw[Pn.cells_eq p]at *
  generalize isT (notE (Ex.mk 7 0 Val.zero [colX 0,constX ⟨false,(m:Int)⟩]))=F2 at *
  generalize isT (nullE (Ex.mk 7 0 Val.zero [colX 0,constX ⟨false,(m:Int)⟩]))=F3 at *
  generalize isT (Ex.mk 7 0 Val.zero [colX 0,constX ⟨false,(m:Int)⟩])=F1 at *
  generalize p.evP db=t at *
  generalize hXX:(tab t.w (t.rows.filter F1++t.rows.filter F2)).rows=X at *
  generalize t.rows.filter F1=R1 at *
  generalize t.rows.filter F2=R2 at *
  generalize t.rows.filter F3=R3 at *
  by_cases h7:p.wd (db.map Tbl.w) 7=0<;>simp[h7]at c1 c2 c3<;>simp[bytesI_length,hl,hl2,hd,e1,e2,e3,c1,c2,c3,filter_eq,two_eq,not_eq,hm,hM,u1,u2]
theorem law_scan (code:List UInt8):callA CE 7 [.i (.isl (bytesI code))] []=some (.bool true,[]):=by
 rw[callA_eq rfl Tryz.func7 rfl rfl]
 by_cases hl:(1048576:Int)<code.length
 ·simp[bytesI_length,hl]
 obtain⟨p,db,hd,hp⟩:=drawEval_eq code
 have e1:=EvalPlan_eq p db hp.small hp.fit
 have e2:=sEvalPlan_eq p hp.thin db (by have:=hp.len;omega) hp.small
 cases hev:evOk p db with
 | false =>
  have e3:=eq_zero
  simp only[hev,Bool.false_eq_true,if_false]at e1 e2
  rw[Pn.cells_eq p]at *
  simp[bytesI_length,hl,hd,e1,e2,e3]
 | true =>
  have hD:=evOk_iff.1 hev
  obtain⟨g1,g2⟩:=hD.good
  have e3:=eq_same g1
  have hb:=hp.bd hD.wd
  simp only[hev,if_true]at e1 e2
  have c:∀ (i:Nat) (s:Tbl),db[i]?=some s→callA CE 27 [.i (.agg [.int 1, .int i, .isl [], .isl [], .isl []]), .i (.isl (tblsL db))] []=some (.tup [.i (.agg [.int s.w, .isl (rowsL s.rows)]), .bool true],[]):=by
   intro i s hs
   have hok:=hD.ok s (List.mem_of_getElem? hs)
   have h1:=evalQ (.scan i) hp (by rw[bd_scan];omega)
   have hw:(Pn.scan i).wd (db.map Tbl.w) 8=s.w:=scan_wd (by omega) (by simp[hs]) 8
   have hs0:s.w≠0:=by have:=(okWidth_iff _).1 ((Tbl.ok_iff _).1 hok).1;omega
   have hE:(Pn.scan i).evP db=s:=by rw[evP_scan];simp[hs,tab_id hok]
   rw[evOk_iff.2 (hD.of (by rw[hw];exact hs0)),hE]at h1
   simpa [Pn.scan,Pn.cells_mk,Ex.cellsL,Pn.cellsL,intsL]using h1
  have c3:∀ (i:Nat) (s:Tbl),db[i]?=some s→callA C0 30 [.i (.agg [.int s.w, .isl (rowsL s.rows)]), .i (.agg [.int s.w, .isl (rowsL s.rows)])] []=some (.bool true,[]):=fun i s hs=>eq_same (hD.ok s (List.mem_of_getElem? hs))
  have hn:=hp.len
  clear hp hD hev g2
  rw[Pn.cells_eq p]at *
  generalize p.evP db=t at *
  simp[bytesI_length,hl,hd,e1,e2,e3]
  have w1:IntKind.i64.wrap 1=1:=wrap64 (by omega) (by omega)
  have w2:IntKind.i64.wrap 2=2:=wrap64 (by omega) (by omega)
  have w3:IntKind.i64.wrap 3=3:=wrap64 (by omega) (by omega)
  rw[execA_loop]
  by_cases h0:0<db.length
  case neg =>
   have h':¬ (0:Int)<db.length:=by omega
   simp[h0,h']
  obtain⟨s0,hs0⟩:∃ s,db[0]?=some s:=⟨_,List.getElem?_eq_getElem h0⟩
  have hx0:=tblsL_nth hs0
  have hc0:=c 0 s0 hs0
  have hd0:=c3 0 s0 hs0
  have hi0:(0:Int)<db.length:=by omega
  simp at hc0
  simp[h0,hi0,hx0,hc0,hd0,w1,w2,w3]
  rw[execA_loop]
  by_cases h1:1<db.length
  case neg =>
   have h':¬ (1:Int)<db.length:=by omega
   simp[h1,h']
  obtain⟨s1,hs1⟩:∃ s,db[1]?=some s:=⟨_,List.getElem?_eq_getElem h1⟩
  have hx1:=tblsL_nth hs1
  have hc1:=c 1 s1 hs1
  have hd1:=c3 1 s1 hs1
  have hi1:(1:Int)<db.length:=by omega
  simp at hc1
  simp[h1,hi1,hx1,hc1,hd1,w1,w2,w3]
  rw[execA_loop]
  by_cases h2:2<db.length
  case neg =>
   have h':¬ (2:Int)<db.length:=by omega
   simp[h2,h']
  obtain⟨s2,hs2⟩:∃ s,db[2]?=some s:=⟨_,List.getElem?_eq_getElem h2⟩
  have hx2:=tblsL_nth hs2
  have hc2:=c 2 s2 hs2
  have hd2:=c3 2 s2 hs2
  have hi2:(2:Int)<db.length:=by omega
  simp at hc2
  simp[h2,hi2,hx2,hc2,hd2,w1,w2,w3]
  rw[execA_loop]
  by_cases h3:3<db.length
  case neg =>
   have h':¬ (3:Int)<db.length:=by omega
   simp[h3,h']
  omega
theorem law_projectAll (code:List UInt8):callA CE 6 [.i (.isl (bytesI code))] []=some (.bool true,[]):=by
 rw[callA_eq rfl Tryz.func6 rfl rfl]
 by_cases hl:(1048576:Int)<code.length
 ·simp[bytesI_length,hl]
 obtain⟨p,db,hd,hp⟩:=drawEval_eq code
 have e1:=EvalPlan_eq p db hp.small hp.fit
 have e2:=sEvalPlan_eq p hp.thin db (by have:=hp.len;omega) hp.small
 cases hev:evOk p db with
 | false =>
  have e3:=eq_zero
  simp only[hev,Bool.false_eq_true,if_false]at e1 e2
  rw[Pn.cells_eq p]at *
  simp[bytesI_length,hl,hd,e1,e2,e3]
 | true =>
  have hD:=evOk_iff.1 hev
  obtain⟨g1,g2⟩:=hD.good
  have e3:=eq_same g1
  have hb:=hp.bd hD.wd
  simp only[hev,if_true]at e1 e2
  obtain⟨t1,t2,t3,t4⟩:=(Tbl.ok_iff _).1 g1
  obtain⟨w1,w2⟩:=(okWidth_iff _).1 t1
  have c1:=evalQ (proj (allCols (p.evP db).w.toNat) p) hp (by rw[proj,bd_one];omega)
  have hE:(proj (allCols (p.evP db).w.toNat) p).evP db=p.evP db:=proj_all g1
  have hcase:(p.evP db).w=1∨(p.evP db).w=2∨(p.evP db).w=3∨(p.evP db).w=4∨(p.evP db).w=5∨(p.evP db).w=6:=by omega
  have x1:IntKind.i64.wrap 1=1:=wrap64 (by omega) (by omega)
  have x2:IntKind.i64.wrap 2=2:=wrap64 (by omega) (by omega)
  have x3:IntKind.i64.wrap 3=3:=wrap64 (by omega) (by omega)
  have x4:IntKind.i64.wrap 4=4:=wrap64 (by omega) (by omega)
  have x5:IntKind.i64.wrap 5=5:=wrap64 (by omega) (by omega)
  have x6:IntKind.i64.wrap 6=6:=wrap64 (by omega) (by omega)
  rw[hE,proj_cells]at c1
  generalize hq:evOk (proj (allCols (p.evP db).w.toNat) p) db=q at *
  clear hE hD hev g2 hp
  rw[Pn.cells_eq p]at *
  generalize p.evP db=t at *
  obtain⟨W,rows⟩:=t
  simp only at *
  rcases hcase with rfl|rfl|rfl|rfl|rfl|rfl
  all_goals (simp[allCols,List.range,List.range.loop,Ex.cellsL,col_cells]at c1;simp[bytesI_length,hl,hd,e1,e2,e3])
  ·iterate 1 (rw[execA_loop];simp[x1,x2,x3,x4,x5,x6])
   rw[execA_loop]
   cases q<;>simp at c1<;>simp[c1,e3]
  ·iterate 2 (rw[execA_loop];simp[x1,x2,x3,x4,x5,x6])
   rw[execA_loop]
   cases q<;>simp at c1<;>simp[c1,e3]
  ·iterate 3 (rw[execA_loop];simp[x1,x2,x3,x4,x5,x6])
   rw[execA_loop]
   cases q<;>simp at c1<;>simp[c1,e3]
  ·iterate 4 (rw[execA_loop];simp[x1,x2,x3,x4,x5,x6])
   rw[execA_loop]
   cases q<;>simp at c1<;>simp[c1,e3]
  ·iterate 5 (rw[execA_loop];simp[x1,x2,x3,x4,x5,x6])
   rw[execA_loop]
   cases q<;>simp at c1<;>simp[c1,e3]
  ·iterate 6 (rw[execA_loop];simp[x1,x2,x3,x4,x5,x6])
   rw[execA_loop]
   cases q<;>simp at c1<;>simp[c1,e3]
theorem sumI_take:∀ (l:List Int) (i:Nat),(∀ x∈l,0≤x)→0≤sumI (l.take i)∧sumI (l.take i)≤sumI l
 | [],i,_=>by simp[sumI]
 | a::l,0,h=>by
  have:=sumI_take l l.length fun x hx=>h x (by simp[hx])
  have:=h a (by simp)
  simp[sumI]at *;omega
 | a::l,i+1,h=>by
  have:=sumI_take l i fun x hx=>h x (by simp[hx])
  have:=h a (by simp)
  simp[sumI];omega
def GCX (code:List UInt8) (db:List Tbl) (pc:List AV) (t:Tbl) (L:List (List Val)) (i:Nat):AS :=
 { env:=[(0, .i (.isl (bytesI code))),(2, .bool false),(3, .own 0 0),(4, .i (.isl (tblsL db))),(5, .own 1 0),(6, .bool true),(7, .own 2 0),(8, .bool true),(9, .own 3 0),(10, .bool true),(11, .int (sumI ((L.map cntOf).take i))),(12, .int i),(15, .bool false),(45, .bool false),(67,jk i (.bool true)),(110,jk i (.bool false))],st:=[some (.box pc),some (.box [.i (.int t.w), .i (.isl (rowsL t.rows))]),some (.box [.i (.int t.w), .i (.isl (rowsL t.rows))]),some (.box [.i (.int 2), .i (.isl (rowsL L))])] }
theorem law_groupCounts (code:List UInt8):callA CE 4 [.i (.isl (bytesI code))] []=some (.bool true,[]):=by
 rw[callA_eq rfl Tryz.func4 rfl rfl]
 by_cases hl:(1048576:Int)<code.length
 ·simp[bytesI_length,hl]
 obtain⟨p,db,hd,hp⟩:=drawEval_eq code
 have e1:=EvalPlan_eq p db hp.small hp.fit
 have e2:=sEvalPlan_eq p hp.thin db (by have:=hp.len;omega) hp.small
 cases hev:evOk p db with
 | false =>
  have e3:=eq_zero
  simp only[hev,Bool.false_eq_true,if_false]at e1 e2
  rw[Pn.cells_eq p]at *
  simp[bytesI_length,hl,hd,e1,e2,e3]
 | true =>
  have hD:=evOk_iff.1 hev
  obtain⟨g1,g2⟩:=hD.good
  have e3:=eq_same g1
  have hb:=hp.bd hD.wd
  simp only[hev,if_true]at e1 e2
  obtain⟨t1,t2,t3,t4⟩:=(Tbl.ok_iff _).1 g1
  have c1:=evalQ (.mk 8 0 [] [0] [p]) hp (by rw[bd_one];omega)
  have hlen:(groupRows [0] (p.evP db).rows).length≤400:=by
   have:=(groups_facts [0] (fun _=>True) (p.evP db).rows (fun _ _=>trivial)).2.1
   unfold groupRows;rw[List.length_map];omega
  have hE:(Pn.mk 8 0 [] [0] [p]).evP db=⟨2,sortR (groupRows [0] (p.evP db).rows)⟩:=by
   rw[evP_group]
   unfold tab
   rw[if_neg (by omega)];rfl
  rw[hE,group_cells]at c1
  simp only[intsL]at c1
  have hrow:∀ r∈sortR (groupRows [0] (p.evP db).rows),∃ (v:Val) (n:Nat),r=[v,⟨false,(n:Int)⟩]∧1≤n:=by
   intro r hr
   obtain⟨v,n,h1,_,h2⟩:=group0_rows t3 t1 (sortR_mem.1 hr)
   exact⟨v,n,h1,h2⟩
  have hdiff:∀ {i j:Nat} {v u:Val} {n m:Nat},(sortR (groupRows [0] (p.evP db).rows))[i]?=some [v,⟨false,(n:Int)⟩]→(sortR (groupRows [0] (p.evP db).rows))[j]?=some [u,⟨false,(m:Int)⟩]→i≠j→v≠u:=fun h1 h2 h3=>group0_diff t3 t1 h1 h2 h3
  have hsum:=group0_sum t3 t1
  have hl2:(sortR (groupRows [0] (p.evP db).rows)).length≤400:=by rw[sortR_length];exact hlen
  have h4:(p.evP db).rows.length≤400:=t2
  clear hE hlen t1 t2 t3 t4 hD hev g1 g2 hb hp
  rw[Pn.cells_eq p]at *
  generalize p.evP db=t at *
  generalize sortR (groupRows [0] t.rows)=L at *
  cases hq:evOk (.mk 8 0 [] [0] [p]) db with
  | false =>
   simp[hq]at c1
   simp[bytesI_length,hl,hd,e1,e2,e3,c1]
   rw[execA_loop]
   simp
  | true =>
   simp[hq]at c1
   simp[bytesI_length,hl,hd,e1,e2,e3,c1]
   rw[loop_to (GCX code db [.i (.int p.kind), .i (.int p.table), .i (.isl (Ex.cellsL p.exprs)), .i (.isl (intsL p.cols)), .i (.isl (Pn.cellsL p.kids))] t L) L.length (by simp[GCX,sumI])]
   ·rw[execA_loop]
    have e9:L.take L.length=L:=List.take_of_length_le (by simp)
    have e8:(L.map cntOf).take L.length=L.map cntOf:=List.take_of_length_le (by simp)
    simp[GCX,e8,hsum]
   ·intro i hi
    obtain⟨x,hx⟩:∃ x,L[i]?=some x:=⟨_,List.getElem?_eq_getElem hi⟩
    have hxn:=rowsL_nth hx
    obtain⟨v,n,rfl,hn⟩:=hrow x (List.mem_of_getElem? hx)
    have hT:=take_snoc hx
    have hS:sumI ((L.map cntOf).take (i+1))=sumI ((L.map cntOf).take i)+n:=by rw[← List.map_take,← List.map_take,hT,List.map_append,List.map_cons,List.map_nil,sumI_snoc];rfl
    have hnn:∀ x∈L.map cntOf,0≤x:=by
     intro x hx
     obtain⟨r,hr,rfl⟩:=List.mem_map.1 hx
     obtain⟨v,n,rfl,_⟩:=hrow r hr
     simp[cntOf]
    have b1:=sumI_take _ i hnn
    have b2:=sumI_take _ (i+1) hnn
    rw[hsum]at b1 b2
    rw[hS]at b2
    have w2:IntKind.i64.wrap (sumI ((L.map cntOf).take i)+n)=sumI ((L.map cntOf).take i)+n:=wrap64 (by omega) (by omega)
    have w3:IntKind.i64.wrap ((i:Int)+1)=i+1:=wrap64 (by omega) (by omega)
    have n1:¬ (n:Int)<1:=by omega
    by_cases h0:i=0
    ·subst h0
     simp[sumI]at hS w2
     simp[GCX,hi,hxn,n1,w2,valsL,hS,hn,wrap_1,sumI]
    ·obtain⟨y,hy⟩:∃ y,L[i-1]?=some y:=⟨_,List.getElem?_eq_getElem (by omega)⟩
     have hyn:=rowsL_nth hy
     obtain⟨u,m,rfl,hm⟩:=hrow y (List.mem_of_getElem? hy)
     have hne:=hdiff hx hy (by omega)
     have hne':¬ (v.null=u.null∧v.n=u.n):=fun h=>hne (by cases v;cases u;simp_all)
     have hne2:(v.null == u.null && v.n == u.n)=false:=by rw[Bool.eq_false_iff];simpa using hne'
     have w4:IntKind.i64.wrap ((i:Int)-1)=((i-1:Nat):Int):=by rw[wrap64 (by omega) (by omega)];omega
     have hi1:i-1<L.length:=by omega
     have i0:(0:Int)<i:=by omega
     have i0':0<i:=by omega
     simp[GCX,hi,hxn,hyn,n1,w2,w3,w4,valsL,hS,hn,h0,hi1,i0,i0',hne',hne2]
@[simp] theorem ce_validWidth (a:List AV) (st:StL):callA CE 66 a st=callA C0 66 a st:=by
  rw[callA_prim (p:=callA CR 66) rfl,callA_prim (p:=callA C0 66) rfl]
@[simp] theorem ce_validRow (a:List AV) (st:StL):callA CE 67 a st=callA C0 67 a st:=by
  rw[callA_prim (p:=callA CR 67) rfl,callA_prim (p:=callA C0 67) rfl]
def TOX (w:Int) (rows:List (List Val)) (i:Nat):AS :=
 { env:=[(0, .int w),(1, .i (.isl (rowsL rows))),(4, .own 0 0),(5, .bool false),(7,jk i (.isl (valsL ((rows[i-1]?).getD [])))),(15, .bool false),(17, .i (.isl (rowsL rows))),(18, .int rows.length),(19, .int i),(20,jk i (.bool true)),(31,jk i (.bool false))],st:=[some (.box [.i (.int 0), .nils])] }
theorem TableOf_eq {w:Int} {rows:List (List Val)} (hw:okWidth w=true) (hn:rows.length≤400) (hr:∀ r∈rows,rowOk w r=true):callA CE 42 [.int w, .i (.isl (rowsL rows))] []=some (.tup [.i (.agg [.int w, .isl (rowsL (sortR rows))]), .bool true],[]):=by
 obtain⟨o1,o2⟩:=oksL_rows (by have:=(okWidth_iff w).1 hw;omega) hr
 have hfl:=values_mk (rowsL rows)
 have hcl:=collect_one w 130 (by decide) [.i (.isl (rowsL rows))] rows hn o1 (fun R cs hY=>values_it hY _ hn o2) rfl (fun r=>rfl)
 rw[callA_eq rfl Tryz.func42 rfl rfl]
 have hn':¬ (400:Int)<rows.length:=by omega
 have hn'':¬ 400<rows.length:=by omega
 simp[hw,hn',hn'']
 rw[loop_to (TOX w rows) rows.length (by simp[TOX])]
 ·rw[execA_loop]
  simp[TOX,hfl,hcl]
 ·intro i hi
  obtain⟨x,hx⟩:∃ x,rows[i]?=some x:=⟨_,List.getElem?_eq_getElem hi⟩
  have hxn:=rowsL_nth hx
  have hxr:=hr x (List.mem_of_getElem? hx)
  have hxl:=rowOk_len hxr
  have hv:=validRow_eq x (by have:=(okWidth_iff w).1 hw;omega)
  obtain⟨_,hg⟩:=List.getElem?_eq_some_iff.1 hx
  have hok:okRow x=true:=by
   unfold okRow
   rw[hxl,hw]
   exact rowOk_ok hxr
  have w3:IntKind.i64.wrap ((i:Int)+1)=i+1:=wrap64 (by omega) (by omega)
  by_cases h0:i=0
  ·subst h0
   simp[TOX,hi,hxn,hv,hok,hxl,hx,hg,wrap_1]
  ·simp[TOX,hi,hxn,hv,hok,hxl,hx,hg,w3,h0]
def LKX (code:List UInt8) (db:List Tbl) (pc:List AV) (t a:Tbl) (i:Nat):AS :=
 { env:=[(0, .i (.isl (bytesI code))),(2, .bool false),(3, .own 0 0),(4, .i (.isl (tblsL db))),(5, .own 1 0),(6, .bool true),(7, .own 2 0),(8, .bool true),(9, .own 3 0),(10, .bool true),(11, .osl 4 1 0 i),(12, .int i),(13, .junk),(14, .junk),(15, .junk),(16, .junk),(17, .junk),(18, .junk),(21, .bool false),(56, .bool false),(79,jk i (.bool true))],st:=[some (.box pc),some (.box [.i (.int t.w), .i (.isl (rowsL t.rows))]),some (.box [.i (.int t.w), .i (.isl (rowsL t.rows))]),some (.box [.i (.int a.w), .i (.isl (rowsL a.rows))])]++[some (.arr 1 (rowsL ((t.rows.map fun r=>r.take a.w.toNat).take i)))] }
theorem law_leftJoinKeeps (code:List UInt8):callA CE 16 [.i (.isl (bytesI code))] []=some (.bool true,[]):=by
 rw[callA_eq rfl Tryz.func16 rfl rfl]
 by_cases hl:(1048576:Int)<code.length
 ·simp[bytesI_length,hl]
 obtain⟨p,db,hd,hp⟩:=drawEval_eq code
 have e1:=EvalPlan_eq p db hp.small hp.fit
 have e2:=sEvalPlan_eq p hp.thin db (by have:=hp.len;omega) hp.small
 cases hev:evOk p db with
 | false =>
  have e3:=eq_zero
  simp only[hev,Bool.false_eq_true,if_false]at e1 e2
  rw[Pn.cells_eq p]at *
  simp[bytesI_length,hl,hd,e1,e2,e3]
 | true =>
  have hD:=evOk_iff.1 hev
  obtain⟨g1,g2⟩:=hD.good
  have e3:=eq_same g1
  have hb:=hp.bd hD.wd
  simp only[hev,if_true]at e1 e2
  by_cases hk:p.kind=5
  case neg =>
   rw[Pn.cells_eq p]at *
   generalize p.evP db=t at *
   simp[bytesI_length,hl,hd,e1,e2,e3,hk]
  obtain⟨e,a,b,rfl,ha,hb7,hl6,he⟩:=join_of hD (.inr rfl) hk
  have hA:EvD a db:=hD.of (by rw[wd78 ha];exact ha)
  have hB:EvD b db:=hD.of (by rw[wd78 hb7];exact hb7)
  obtain⟨ga,wa⟩:=hA.good
  obtain⟨gb,wb⟩:=hB.good
  have hbd:(pairP 5 e a b).bd 5=a.bd 5*b.bd 5:=by rw[pairP,bd_two,if_neg (by simp)]
  have pa:=bd_pos (n:=5) (by omega) a
  have pb:=bd_pos (n:=5) (by omega) b
  have ra:=hA.rows hp.rows (by have:=Nat.le_mul_of_pos_right (a.bd 5) pb;omega)
  have rb:=hB.rows hp.rows (by have:=Nat.le_mul_of_pos_left (b.bd 5) pa;omega)
  have c1:=evalQ a hp (by have:=Nat.le_mul_of_pos_right (a.bd 5) pb;omega)
  rw[evOk_iff.2 hA,if_pos rfl]at c1
  have hm:(a.evP db).rows.length*max 1 (b.evP db).rows.length≤50:=by
   have:=Nat.mul_le_mul ra (show max 1 (b.evP db).rows.length≤b.bd 5 by omega)
   omega
  have hJ:(joinR e true (a.evP db) (b.evP db)).length≤400:=by
   have:=joinR_len e true (a.evP db) (b.evP db)
   simp only[if_true]at this
   omega
  have hE:(pairP 5 e a b).evP db=tab ((a.evP db).w+(b.evP db).w) (joinR e true (a.evP db) (b.evP db)):=by
   rw[evP_pair db (.inr rfl)];rfl
  obtain⟨l1,l2⟩:=left_keeps (e:=e) ga gb hJ ((a.evP db).w+(b.evP db).w)
  rw[← hE]at l1 l2
  obtain⟨a1,a2,a3,a4⟩:=(Tbl.ok_iff _).1 ga
  obtain⟨t1,t2,t3,t4⟩:=(Tbl.ok_iff _).1 g1
  have hw:((pairP 5 e a b).evP db).w=(a.evP db).w+(b.evP db).w:=by rw[hE,tab_w]
  have a1':=(okWidth_iff _).1 a1
  have b1':=(okWidth_iff _).1 ((Tbl.ok_iff _).1 gb).1
  have hrows:∀ r∈((pairP 5 e a b).evP db).rows.map fun r=>r.take (a.evP db).w.toNat,rowOk (a.evP db).w r=true:=by
   intro r hr
   obtain⟨x,hx,rfl⟩:=List.mem_map.1 hr
   have h1:=t3 x hx
   have h2:=rowOk_len h1
   have h3:=rowOk_ok h1
   unfold rowOk
   simp only[Bool.and_eq_true,decide_eq_true_eq,List.all_eq_true,List.length_take]
   exact⟨by omega,fun v hv=>List.all_eq_true.1 h3 v (List.mem_of_mem_take hv)⟩
  have c2:=TableOf_eq a1 (by rw[List.length_map];exact t2) hrows
  have hS:(Tbl.mk (a.evP db).w (sortR (((pairP 5 e a b).evP db).rows.map fun r=>r.take (a.evP db).w.toNat))).ok=true:=by
   have:=tab_ok (w:=(a.evP db).w) a1 hrows
   unfold tab at this
   rwa [if_neg (by rw[List.length_map];omega)]at this
  have c3:=DistinctRows_eq hS
  have c4:=DistinctRows_eq ga
  simp only[l1]at c3
  have hs:callA C0 30 [.i (.agg [.int (a.evP db).w, .isl (rowsL (dedup (a.evP db).rows))]), .i (.agg [.int (a.evP db).w, .isl (rowsL (dedup (a.evP db).rows))])] []=some (.bool true,[]):=by
   have sm:=Tbl.ok_small ga
   have:=equalTables_eq ⟨(a.evP db).w,dedup (a.evP db).rows⟩ ⟨(a.evP db).w,dedup (a.evP db).rows⟩ ⟨by have:=(dedup_sub (a.evP db).rows).length_le;have:=sm.1;simp only;omega,fun r hr=>sm.2 r ((dedup_sub _).subset hr)⟩
   simpa using this
  have hlen:∀ r∈((pairP 5 e a b).evP db).rows,(a.evP db).w.toNat≤r.length:=by
   intro r hr
   have:=rowOk_len (t3 r hr)
   omega
  clear hS hrows hE l1 hJ hm hbd t1 t3 t4 hD hev g1 g2 hb hp hA hB
  rw[pair_cells]at *
  rw[Pn.cells_eq a]at *
  generalize (pairP 5 e a b).evP db=t at *
  generalize a.evP db=s at *
  generalize hL:(t.rows.map fun r=>r.take s.w.toNat)=L at *
  have hLl:L.length=t.rows.length:=by rw[← hL,List.length_map]
  simp[bytesI_length,hl,hd,e1,e2,e3,c1]
  rw[loop_to (LKX code db [.i (.int 5), .i (.int 0), .i (.isl [e.cells]), .i (.isl []), .i (.isl [[.int a.kind, .int a.table, .isl (Ex.cellsL a.exprs), .isl (intsL a.cols), .isl (Pn.cellsL a.kids)],b.cells])] t s) t.rows.length (by simp[LKX,rowsL_nil])]
  ·rw[execA_loop]
   have e9:L.take t.rows.length=L:=List.take_of_length_le (by omega)
   have e8:(rowsL L).take t.rows.length=rowsL L:=List.take_of_length_le (by simp;omega)
   have hLL:t.rows.length≤L.length:=by omega
   have hge:(s.rows.length:Int)≤t.rows.length:=by omega
   simp[LKX,hL,hLL,e8,e9,c2,c3,c4,hs,hge,l2]
  ·intro i hi
   obtain⟨x,hx⟩:∃ x,t.rows[i]?=some x:=⟨_,List.getElem?_eq_getElem hi⟩
   have hxn:=rowsL_nth hx
   have hxl:=hlen x (List.mem_of_getElem? hx)
   have hLx:L[i]?=some (x.take s.w.toNat):=by rw[← hL,List.getElem?_map,hx];rfl
   have hT:=take_snoc hLx
   have w3:IntKind.i64.wrap ((i:Int)+1)=i+1:=wrap64 (by omega) (by omega)
   have hs0:0≤s.w:=by omega
   have hxl':s.w≤(x.length:Int):=by omega
   have hb24:(i+1)*24≤140737488355328:=by omega
   have hiL:i≤L.length:=by omega
   have hmin:min i L.length=i:=by omega
   have htt:(L.take i).take i=L.take i:=by rw[List.take_take];simp
   by_cases h0:i=0
   ·subst h0
    simp at hT
    simp[LKX,hL,hi,hxn,hs0,hxl,hxl',hT,wrap_1,rowsL_cons,rowsL_nil]
   ·simp[LKX,hL,hi,hxn,hs0,hxl,hxl',hT,w3,h0,hb24,hmin,htt,rowsL_append,rowsL_cons,rowsL_nil]
theorem subM_idx:∀ (A B:List (List Val)),subM A B=true→∃ f:Nat→Nat,f 0=0∧∀ i a,A[i]?=some a→∃ d b,f (i+1)=f i+d+1∧B[f i+d]?=some b∧rowCmp b a=0∧∀ k,k<d→∃ c,B[f i+k]?=some c∧rowCmp c a<0
 | [],_,_=>⟨fun _=>0,rfl,fun i a h=>by simp at h⟩
 | r::l,B,h=>by
  unfold subM at h
  have hB:=List.takeWhile_append_dropWhile (p:=fun x=>decide (rowCmp x r<0)) (l:=B)
  cases hd:B.dropWhile (fun x=>decide (rowCmp x r<0))with
  | nil=>rw[hd]at h;simp at h
  | cons b bs =>
   rw[hd]at h hB
   simp only[Bool.and_eq_true,decide_eq_true_eq]at h
   obtain⟨f,f0,hf⟩:=subM_idx l bs h.2
   generalize hT:B.takeWhile (fun x=>decide (rowCmp x r<0))=T at hB
   have hlt:∀ x∈T,rowCmp x r<0:=by
    intro x hx
    rw[← hT]at hx
    have:=List.all_eq_true.1 List.all_takeWhile x hx
    simpa using this
   refine⟨fun i=>match i with|0=>0|i+1=>T.length+1+f i,rfl,fun i a ha=>?_⟩
   cases i with
   | zero =>
    simp at ha;subst ha
    refine⟨T.length,b,by simp[f0],by rw[← hB];simp,h.1,fun k hk=>⟨T[k],?_,hlt _ (List.getElem_mem hk)⟩⟩
    rw[← hB]
    simp[List.getElem?_append_left hk,hk]
   | succ i =>
    simp at ha
    obtain⟨d,c,h1,h2,h3,h4⟩:=hf i a ha
    refine⟨d,c,by simp only;omega,?_,h3,fun k hk=>?_⟩
    ·rw[← hB,show T.length+1+f i+d=T.length+(f i+d+1)by omega,List.getElem?_append_right (by omega),show T.length+(f i+d+1)-T.length=f i+d+1 by omega]
     simpa using h2
    ·obtain⟨e,k1,k2⟩:=h4 k hk
     refine⟨e,?_,k2⟩
     rw[← hB,show T.length+1+f i+k=T.length+(f i+k+1)by omega,List.getElem?_append_right (by omega),show T.length+(f i+k+1)-T.length=f i+k+1 by omega]
     simpa using k1
theorem sub1_eq (r:List Val) (b c:Bool):callA C0 83 [.i (.isl (valsL r)), .bool b, .own 0 0] [some (.box [.bool c])]=some (.bool b,[some (.box [.bool b])]):=by
 rw[callA_eq rfl Tryz.func83 rfl rfl]
 simp
def EMX (a b:Tbl) (f:Nat→Nat) (i:Nat):AS :=
 { env:=[(0, .i (.agg [.int a.w, .isl (rowsL a.rows)])),(1, .i (.agg [.int b.w, .isl (rowsL b.rows)])),(2, .fn (.func 83) [.own 0 0]),(3, .own 1 0),(4, .own 2 0),(6, .int (f i)),(8,jk i (.isl (valsL ((a.rows[i-1]?).getD [])))),(9,jk i (.bool true)),(11, .i (.isl (rowsL a.rows))),(12, .int a.rows.length),(13, .int i),(14,jk i (.bool true)),(31,jk i (.bool false)),(49,jk i (.bool true)),(56,jk i (.bool false))],st:=[some (.box [.bool true]),some (.box [.i (.int a.w), .i (.isl (rowsL a.rows))]),some (.box [.i (.int b.w), .i (.isl (rowsL b.rows))])] }
def EIX (a b:Tbl) (n:Nat→Nat) (i:Nat) (x:List Val) (k:Nat):AS :=
 { env:=[(0, .i (.agg [.int a.w, .isl (rowsL a.rows)])),(1, .i (.agg [.int b.w, .isl (rowsL b.rows)])),(2, .fn (.func 83) [.own 0 0]),(3, .own 1 0),(4, .own 2 0),(6, .int (n k)),(8, .i (.isl (valsL x))),(9,jk i (.bool true)),(11, .i (.isl (rowsL a.rows))),(12, .int a.rows.length),(13, .int i),(14, .bool true),(31,if k=0 then jk i (.bool false)else .bool true),(49,jk i (.bool true)),(56,jk i (.bool false))],st:=[some (.box [.bool true]),some (.box [.i (.int a.w), .i (.isl (rowsL a.rows))]),some (.box [.i (.int b.w), .i (.isl (rowsL b.rows))])] }
theorem eachMerged_eq {a b:Tbl} (ha:a.small) (hb:b.small) (h:subM a.rows b.rows=true):callA C0 82 [.i (.agg [.int a.w, .isl (rowsL a.rows)]), .i (.agg [.int b.w, .isl (rowsL b.rows)]), .fn (.func 83) [.own 0 0]] [some (.box [.bool true])]=some (.tup [],[some (.box [.bool true])]):=by
 obtain⟨f,f0,hf⟩:=subM_idx _ _ h
 rw[callA_eq rfl Tryz.func82 rfl rfl]
 simp
 rw[loop_to (EMX a b f) a.rows.length (by simp[EMX,f0])]
 ·rw[execA_loop]
  simp[EMX]
 ·intro i hi
  obtain⟨x,hx⟩:∃ x,a.rows[i]?=some x:=⟨_,List.getElem?_eq_getElem hi⟩
  have hxn:=rowsL_nth hx
  obtain⟨_,hg⟩:=List.getElem?_eq_some_iff.1 hx
  have hxs:=ha.2 x (List.mem_of_getElem? hx)
  have hal:=ha.1
  have hbl:=hb.1
  obtain⟨d,y,h1,h2,h3,h4⟩:=hf i x hx
  obtain⟨hyl,_⟩:=List.getElem?_eq_some_iff.1 h2
  have hyn:=rowsL_nth h2
  have hys:=hb.2 y (List.mem_of_getElem? h2)
  have hc:=compareRows_eq y x hys hxs
  have hvi:=sub1_eq x true true
  have w3:IntKind.i64.wrap ((i:Int)+1)=i+1:=wrap64 (by omega) (by omega)
  have w4:IntKind.i64.wrap (((f i+d:Nat):Int)+1)=((f i+d:Nat):Int)+1:=wrap64 (by omega) (by omega)
  have hyi:((f i+d:Nat):Int)<b.rows.length:=by omega
  obtain⟨n,hn⟩:∃ n:Nat→Nat,∀ k,n k=f i+k:=⟨_,fun _=>rfl⟩
  rw[← hn d]at h2 hyl hyn w4 hyi
  have hn0:n 0=f i:=hn 0
  have h1':f (i+1)=n d+1:=by rw[h1,hn]
  have inner:∀ k,k<d→∃ z,b.rows[n k]?=some z∧callA C0 68 [.i (.isl (valsL z)), .i (.isl (valsL x))] []=some (.int (rowCmp z x),[])∧rowCmp z x<0∧n k<b.rows.length:=by
   intro k hk
   obtain⟨z,hz,hz2⟩:=h4 k hk
   rw[← hn k]at hz
   obtain⟨hzl,_⟩:=List.getElem?_eq_some_iff.1 hz
   exact⟨z,hz,compareRows_eq z x (hb.2 z (List.mem_of_getElem? hz)) hxs,hz2,hzl⟩
  simp[EMX,hi,hxn]
  rw[loop_to (EIX a b n i x) d (by simp[EIX,hn0])]
  ·rw[execA_loop]
   have l0:¬ rowCmp y x<0:=by omega
   by_cases h0:i=0
   ·subst h0
    simp[EIX,hyl,hyi,hyn,hc,h3,l0,w4,hvi,hg,wrap_1,h1']
   ·simp[EIX,hyl,hyi,hyn,hc,h3,l0,w3,w4,hvi,hg,h0,h1']
  ·intro k hk
   obtain⟨z,hz,hz1,hz2,hz3⟩:=inner k hk
   have hzn:=rowsL_nth hz
   have hzi:((n k:Nat):Int)<b.rows.length:=by omega
   have hn1:n (k+1)=n k+1:=by rw[hn,hn];omega
   have w5:IntKind.i64.wrap (((n k:Nat):Int)+1)=n k+1:=wrap64 (by omega) (by omega)
   by_cases hk0:k=0
   ·subst hk0
    simp[EIX,hz3,hzi,hzn,hz1,hz2,w5,hn1]
   ·simp[EIX,hz3,hzi,hzn,hz1,hz2,w5,hn1,hk0]
@[simp] theorem ce_IsSubtable (a:List AV) (st:StL):callA CE 43 a st=callA C0 43 a st:=by
  rw[callA_prim (p:=callA CR 43) rfl,callA_prim (p:=callA C0 43) rfl]
theorem IsSubtable_eq {a b:Tbl} (ha:a.ok=true) (hb:b.ok=true) (hw:a.w=b.w) (h:subM a.rows b.rows=true):callA C0 43 [.i (.agg [.int a.w, .isl (rowsL a.rows)]), .i (.agg [.int b.w, .isl (rowsL b.rows)])] []=some (.bool true,[]):=by
 have c1:=ValidTable_eq a (Tbl.ok_small ha).2
 have c2:=ValidTable_eq b (Tbl.ok_small hb).2
 have c3:callA C0 81 [.i (.agg [.int a.w, .isl (rowsL a.rows)]), .i (.agg [.int b.w, .isl (rowsL b.rows)])] []=some (.bool true,[]):=by
  rw[callA_eq rfl Tryz.func81 rfl rfl]
  rw[ha]at c1
  rw[hb]at c2
  obtain⟨aw,ar⟩:=a
  obtain⟨bw,br⟩:=b
  simp only at hw c1 c2
  subst hw
  simp[c1,c2]
 have c4:=eachMerged_eq (Tbl.ok_small ha) (Tbl.ok_small hb) h
 rw[callA_eq rfl Tryz.func43 rfl rfl]
 simp[c3,c4]
theorem law_joinInLeftJoin (code:List UInt8):callA CE 17 [.i (.isl (bytesI code))] []=some (.bool true,[]):=by
 rw[callA_eq rfl Tryz.func17 rfl rfl]
 by_cases hl:(1048576:Int)<code.length
 ·simp[bytesI_length,hl]
 obtain⟨p,db,hd,hp⟩:=drawEval_eq code
 have e1:=EvalPlan_eq p db hp.small hp.fit
 have e2:=sEvalPlan_eq p hp.thin db (by have:=hp.len;omega) hp.small
 cases hev:evOk p db with
 | false =>
  have e3:=eq_zero
  simp only[hev,Bool.false_eq_true,if_false]at e1 e2
  rw[Pn.cells_eq p]at *
  simp[bytesI_length,hl,hd,e1,e2,e3]
 | true =>
  have hD:=evOk_iff.1 hev
  obtain⟨g1,g2⟩:=hD.good
  have e3:=eq_same g1
  have hb:=hp.bd hD.wd
  simp only[hev,if_true]at e1 e2
  by_cases hk:p.kind=5
  case neg =>
   rw[Pn.cells_eq p]at *
   generalize p.evP db=t at *
   simp[bytesI_length,hl,hd,e1,e2,e3,hk]
  obtain⟨e,a,b,rfl,ha,hb7,hl6,he⟩:=join_of hD (.inr rfl) hk
  have hA:EvD a db:=hD.of (by rw[wd78 ha];exact ha)
  have hB:EvD b db:=hD.of (by rw[wd78 hb7];exact hb7)
  obtain⟨ga,wa⟩:=hA.good
  obtain⟨gb,wb⟩:=hB.good
  have hJD:EvD (pairP 4 e a b) db:=hD.of (by rw[wd_pair (.inl rfl),if_pos ⟨ha,hb7,hl6,he⟩];rw[← wd78 ha,← wd78 hb7,← wa,← wb];have:=(okWidth_iff _).1 ((Tbl.ok_iff _).1 ga).1;have:=(okWidth_iff _).1 ((Tbl.ok_iff _).1 gb).1;omega)
  have hbd:(pairP 5 e a b).bd 5=a.bd 5*b.bd 5:=by rw[pairP,bd_two,if_neg (by simp)]
  have hbd2:(pairP 4 e a b).bd 5=a.bd 5*b.bd 5:=by rw[pairP,bd_two,if_neg (by simp)]
  have pa:=bd_pos (n:=5) (by omega) a
  have pb:=bd_pos (n:=5) (by omega) b
  have ra:=hA.rows hp.rows (by have:=Nat.le_mul_of_pos_right (a.bd 5) pb;omega)
  have rb:=hB.rows hp.rows (by have:=Nat.le_mul_of_pos_left (b.bd 5) pa;omega)
  have c1:=evalQ (pairP 4 e a b) hp (by omega)
  rw[evOk_iff.2 hJD,if_pos rfl]at c1
  have hm:(a.evP db).rows.length*max 1 (b.evP db).rows.length≤50:=by
   have:=Nat.mul_le_mul ra (show max 1 (b.evP db).rows.length≤b.bd 5 by omega)
   omega
  have hJ:(joinR e true (a.evP db) (b.evP db)).length≤400:=by
   have:=joinR_len e true (a.evP db) (b.evP db)
   simp only[if_true]at this
   omega
  have hE:(pairP 5 e a b).evP db=tab ((a.evP db).w+(b.evP db).w) (joinR e true (a.evP db) (b.evP db)):=by
   rw[evP_pair db (.inr rfl)];rfl
  have hE2:(pairP 4 e a b).evP db=tab ((a.evP db).w+(b.evP db).w) (joinR e false (a.evP db) (b.evP db)):=by
   rw[evP_pair db (.inl rfl)];rfl
  have hsub:=join_in_left (e:=e) ga gb hJ ((a.evP db).w+(b.evP db).w)
  rw[← hE,← hE2]at hsub
  obtain⟨gj,wj⟩:=hJD.good
  have hww:((pairP 4 e a b).evP db).w=((pairP 5 e a b).evP db).w:=by rw[hE,hE2,tab_w,tab_w]
  have c2:=IsSubtable_eq gj g1 hww hsub
  rw[pair_cells]at *
  clear hE hE2
  generalize (pairP 5 e a b).evP db=t at *
  generalize (pairP 4 e a b).evP db=s at *
  simp[bytesI_length,hl,hd,e1,e2,e3,c1,c2]
def PCX (db:List Tbl) (p:Pn) (i:Nat):AS :=
 { env:=[(0, .i (.agg p.cells)),(1, .i (.isl (tblsL db))),(2, .own 0 0),(4, .int 0),(5, .int (((p.evP db).rows.length:Int)+(((p.kids.map (Pn.cost db)).take i).sum:Nat))),(6, .int i),(16,jk i (.bool true))],st:=[some (.box [.i (.int p.kind), .i (.int p.table), .i (.isl (Ex.cellsL p.exprs)), .i (.isl (intsL p.cols)), .i (.isl (Pn.cellsL p.kids))])] }
theorem sum_take (l:List Nat) (i:Nat):(l.take i).sum≤l.sum:=by
 conv=>rhs;rw[← List.take_append_drop i l]
 rw[List.sum_append_nat];omega
theorem cost_facts {p:Pn} {db:List Tbl} (hdb:∀ t∈db,t.ok=true) (h:p.wd (db.map Tbl.w) 8≠0):p.cost db=(p.evP db).rows.length+(p.kids.map (Pn.cost db)).sum∧p.cost db<1000000000∧p.kids.length≤2:=by
 refine⟨by rw[Pn.cost_eq,costL_sum];omega,?_,?_⟩
 ·have h1:=cost_le rfl hdb p 8 h
  have h2:=(Pn.wd_fit p 8 h).2
  omega
 ·rw[Pn.wd_eq]at h
  exact Pn.headOk_kids (ite_ne h).1.1
theorem splanCost_eq {db:List Tbl} (hdb:∀ t∈db,t.ok=true):∀ (p:Pn),p.wd (db.map Tbl.w) 8≠0→callA C0 61 [.i (.agg p.cells), .i (.isl (tblsL db))] []=some (.int (p.cost db),[]):=by
 intro p
 induction p using Pn.ind with
 | h k t es cs ks ih =>
  intro h
  have hkids:∀ a∈ks,a.wd (db.map Tbl.w) 8≠0:=fun a ha=>(wd_kid h ha).1
  have c3:=sevalPlan_eq (db:=db) rfl hdb _ 8 h
  obtain⟨hc,hlt,hkl⟩:=cost_facts hdb h
  generalize hp:Pn.mk k t es cs ks=p at *
  have hk:ks=p.kids:=by rw[← hp];rfl
  subst hk
  rw[callA_eq rfl Tryz.func61 rfl rfl]
  rw[Pn.cells_eq p]at c3 ⊢
  simp[c3]
  rw[loop_to (PCX db p) p.kids.length (by simp[PCX,Pn.cells_eq p])]
  ·rw[execA_loop]
   have e9:(p.kids.map (Pn.cost db)).take p.kids.length=p.kids.map (Pn.cost db):=List.take_of_length_le (by simp)
   simp[PCX,e9,hc]
  ·intro i hi
   obtain⟨a,ha⟩:∃ a,p.kids[i]?=some a:=⟨_,List.getElem?_eq_getElem hi⟩
   have hm:=List.mem_of_getElem? ha
   have i1:=ih a hm (hkids a hm)
   have q:=Pn.cellsL_nth ha
   have hT:(p.kids.map (Pn.cost db)).take (i+1)=(p.kids.map (Pn.cost db)).take i++[a.cost db]:=take_snoc (by rw[List.getElem?_map,ha];rfl)
   have b1:=sum_take (p.kids.map (Pn.cost db)) (i+1)
   have hS:((p.kids.map (Pn.cost db)).take (i+1)).sum=((p.kids.map (Pn.cost db)).take i).sum+a.cost db:=by rw[hT,List.sum_append_nat];simp
   have w2:IntKind.i64.wrap (((p.evP db).rows.length:Int)+((((p.kids.map (Pn.cost db)).take i).sum:Nat)+(a.cost db:Int)))=((p.evP db).rows.length:Int)+((((p.kids.map (Pn.cost db)).take i).sum:Nat)+(a.cost db:Int)):=wrap64 (by omega) (by omega)
   have w3:IntKind.i64.wrap ((i:Int)+1)=i+1:=wrap64 (by omega) (by omega)
   rw[Pn.cells_eq a]at i1 q
   simp[PCX,hi,q,i1,w3,hS,w2,Int.add_assoc]
theorem sPlanCost_eq (p:Pn) (hp:p.thin) (db:List Tbl) (hl:db.length<1000000) (hs:∀ t∈db,t.small):callA C0 26 [.i (.agg p.cells), .i (.isl (tblsL db))] []=some (.int (if evOk p db=true then(p.cost db:Int)else -1),[]):=by
 have c1:=swidthsOf_eq db hl hs
 have c2:=P.widthOf_eq p (Pn.thin_lim p hp) (if db.all Tbl.ok=true then db.map Tbl.w else []) (by split<;>simp;omega)
 rw[callA_eq rfl Tryz.func26 rfl rfl]
 unfold evOk
 by_cases ha:db.all Tbl.ok=true
 ·rw[if_pos ha]at c1 c2
  by_cases hw:p.width (db.map Tbl.w)=0
  ·rw[hw]at c2
   rw[Pn.cells_eq p]at c2 ⊢
   simp[c1,c2,hw]
  ·have hwd:p.wd (db.map Tbl.w) 8≠0:=(width_ok8 hw).2.1
   have c3:=splanCost_eq (List.all_eq_true.1 ha) p hwd
   rw[Pn.cells_eq p]at c2 c3 ⊢
   have ha':∀ x∈db,x.ok=true:=List.all_eq_true.1 ha
   simp[c1,c2,c3,hw,if_pos ha']
 ·rw[if_neg ha]at c1 c2
  have hz:p.width []=0:=by unfold Pn.width;rw[if_neg (by simp[okWs])]
  rw[hz]at c2
  rw[Pn.cells_eq p]at c2 ⊢
  have ha':db.all Tbl.ok=false:=by simpa using ha
  simp[c1,c2,ha']
@[simp] theorem ce_sPlanCost (a:List AV) (st:StL):callA CE 26 a st=callA C0 26 a st:=by
  rw[callA_prim (p:=callA CR 26) rfl,callA_prim (p:=callA C0 26) rfl]
theorem drawCost_eq (code:List UInt8):∃ (P:Pn) (db:List Tbl),callA CE 24 [.i (.isl (bytesI code))] []=some (.tup [.i (.agg P.cells), .i (.isl (tblsL db))],[])∧Drn P db:=by
 obtain⟨c,hc,hr⟩:=newReader_eq code
 obtain⟨P,db,p',h,h1,h2,h3,h4⟩:=planAndTables_eq hc
 refine⟨P,db,?_,h1,h2,h3,fun t ht=>(h4 t ht).1,fun t ht=>(h4 t ht).2⟩
 rw[callA_eq rfl Tryz.func24 rfl rfl]
 rw[Pn.cells_eq P]at *
 simp[hr,h]
def LPX (code:List UInt8) (db:List Tbl) (p:Pn) (i:Nat):AS :=
 { env:=[(0, .i (.isl (bytesI code))),(2, .bool false),(3, .own 0 0),(4, .i (.isl (tblsL db))),(5, .int (p.cost db)),(6, .own 1 0),(7, .bool true),(8, .int (((p.evP db).rows.length:Int)+(((p.kids.map (Pn.cost db)).take i).sum:Nat))),(9, .int i),(12, .bool false),(29, .bool false),(48,jk i (.bool true))],st:=[some (.box [.i (.int p.kind), .i (.int p.table), .i (.isl (Ex.cellsL p.exprs)), .i (.isl (intsL p.cols)), .i (.isl (Pn.cellsL p.kids))]),some (.box [.i (.int (p.evP db).w), .i (.isl (rowsL (p.evP db).rows))])] }
theorem law_planCost (code:List UInt8):callA CE 3 [.i (.isl (bytesI code))] []=some (.bool true,[]):=by
 rw[callA_eq rfl Tryz.func3 rfl rfl]
 by_cases hl:(1048576:Int)<code.length
 ·simp[bytesI_length,hl]
 obtain⟨p,db,hd,hp⟩:=drawCost_eq code
 have e0:=PlanCost_eq p db hp.small hp.fit
 have e1:=EvalPlan_eq p db hp.small hp.fit
 have e2:=sPlanCost_eq p hp.thin db (by have:=hp.len;omega) hp.small
 cases hev:evOk p db with
 | false =>
  simp only[hev,Bool.false_eq_true,if_false]at e0 e2
  rw[Pn.cells_eq p]at *
  simp[bytesI_length,hl,hd,e0,e2]
 | true =>
  have hD:=evOk_iff.1 hev
  obtain⟨hc,hlt,hkl⟩:=cost_facts hD.ok hD.wd
  have hfi:=(Pn.fit_iff db p).1 (hp.fit hev)
  have hk:∀ a∈p.kids,callA CE 25 [.i (.agg a.cells), .i (.isl (tblsL db))] []=some (.int (a.cost db),[]):=by
   intro a ha
   have:=PlanCost_eq a db hp.small fun _=>hfi.2 a ha
   rwa [evOk_iff.2 (hD.of (wd_kid hD.wd ha).1),if_pos rfl]at this
  simp only[hev,if_true]at e0 e1 e2
  have n0:¬ (p.cost db:Int)<0:=by omega
  rw[Pn.cells_eq p]at *
  simp[bytesI_length,hl,hd,e0,e1,e2,n0]
  rw[loop_to (LPX code db p) p.kids.length (by simp[LPX])]
  ·rw[execA_loop]
   have e9:(p.kids.map (Pn.cost db)).take p.kids.length=p.kids.map (Pn.cost db):=List.take_of_length_le (by simp)
   simp[LPX,e9,hc]
  ·intro i hi
   obtain⟨a,ha⟩:∃ a,p.kids[i]?=some a:=⟨_,List.getElem?_eq_getElem hi⟩
   have hm:=List.mem_of_getElem? ha
   have i1:=hk a hm
   have q:=Pn.cellsL_nth ha
   have hT:(p.kids.map (Pn.cost db)).take (i+1)=(p.kids.map (Pn.cost db)).take i++[a.cost db]:=take_snoc (by rw[List.getElem?_map,ha];rfl)
   have b1:=sum_take (p.kids.map (Pn.cost db)) (i+1)
   have hS:((p.kids.map (Pn.cost db)).take (i+1)).sum=((p.kids.map (Pn.cost db)).take i).sum+a.cost db:=by rw[hT,List.sum_append_nat];simp
   have w2:IntKind.i64.wrap (((p.evP db).rows.length:Int)+((((p.kids.map (Pn.cost db)).take i).sum:Nat)+(a.cost db:Int)))=((p.evP db).rows.length:Int)+((((p.kids.map (Pn.cost db)).take i).sum:Nat)+(a.cost db:Int)):=wrap64 (by omega) (by omega)
   have w3:IntKind.i64.wrap ((i:Int)+1)=i+1:=wrap64 (by omega) (by omega)
   rw[Pn.cells_eq a]at i1 q
   simp[LPX,hi,q,i1,w3,hS,w2,Int.add_assoc]
set_option maxHeartbeats 4000000
theorem law_evalPlan_calls (a:Option Addr) (len cap:Nat) (zs:List Int) (w:World)
 (h:(a=none∧len=0∧cap=0∧zs=[])∨∃ x,a=some x∧len≤cap∧cap≤maxLen∧zs.length=cap∧(∀ i,i<zs.length→w.cell? (x.add i)=some (.int .u8 (zs.getD i 0)))∧∀ n∈zs,(Lit.int .u8 n).wf=true) :
 Calls Tryz.prog 13 #[.slice a len cap] w fun e w'=>e=.returned (.bool true)∧RowKit.Below w.heap.size w w':=by
 obtain⟨code,hc⟩:=bytes_rep h
 exact calls_true soundE (.cons (.i hc) .nil) (law_evalPlan code)
theorem law_filterConstant_calls (a:Option Addr) (len cap:Nat) (zs:List Int) (w:World)
 (h:(a=none∧len=0∧cap=0∧zs=[])∨∃ x,a=some x∧len≤cap∧cap≤maxLen∧zs.length=cap∧(∀ i,i<zs.length→w.cell? (x.add i)=some (.int .u8 (zs.getD i 0)))∧∀ n∈zs,(Lit.int .u8 n).wf=true) :
 Calls Tryz.prog 9 #[.slice a len cap] w fun e w'=>e=.returned (.bool true)∧RowKit.Below w.heap.size w w':=by
 obtain⟨code,hc⟩:=bytes_rep h
 exact calls_true soundE (.cons (.i hc) .nil) (law_filterConstant code)
theorem law_unionSwap_calls (a:Option Addr) (len cap:Nat) (zs:List Int) (w:World)
 (h:(a=none∧len=0∧cap=0∧zs=[])∨∃ x,a=some x∧len≤cap∧cap≤maxLen∧zs.length=cap∧(∀ i,i<zs.length→w.cell? (x.add i)=some (.int .u8 (zs.getD i 0)))∧∀ n∈zs,(Lit.int .u8 n).wf=true) :
 Calls Tryz.prog 8 #[.slice a len cap] w fun e w'=>e=.returned (.bool true)∧RowKit.Below w.heap.size w w':=by
 obtain⟨code,hc⟩:=bytes_rep h
 exact calls_true soundE (.cons (.i hc) .nil) (law_unionSwap code)
theorem law_joinFilter_calls (a:Option Addr) (len cap:Nat) (zs:List Int) (w:World)
 (h:(a=none∧len=0∧cap=0∧zs=[])∨∃ x,a=some x∧len≤cap∧cap≤maxLen∧zs.length=cap∧(∀ i,i<zs.length→w.cell? (x.add i)=some (.int .u8 (zs.getD i 0)))∧∀ n∈zs,(Lit.int .u8 n).wf=true) :
 Calls Tryz.prog 10 #[.slice a len cap] w fun e w'=>e=.returned (.bool true)∧RowKit.Below w.heap.size w w':=by
 obtain⟨code,hc⟩:=bytes_rep h
 exact calls_true soundE (.cons (.i hc) .nil) (law_joinFilter code)
theorem law_distinctUnion_calls (a:Option Addr) (len cap:Nat) (zs:List Int) (w:World)
 (h:(a=none∧len=0∧cap=0∧zs=[])∨∃ x,a=some x∧len≤cap∧cap≤maxLen∧zs.length=cap∧(∀ i,i<zs.length→w.cell? (x.add i)=some (.int .u8 (zs.getD i 0)))∧∀ n∈zs,(Lit.int .u8 n).wf=true) :
 Calls Tryz.prog 11 #[.slice a len cap] w fun e w'=>e=.returned (.bool true)∧RowKit.Below w.heap.size w w':=by
 obtain⟨code,hc⟩:=bytes_rep h
 exact calls_true soundE (.cons (.i hc) .nil) (law_distinctUnion code)
theorem law_groupKeys_calls (a:Option Addr) (len cap:Nat) (zs:List Int) (w:World)
 (h:(a=none∧len=0∧cap=0∧zs=[])∨∃ x,a=some x∧len≤cap∧cap≤maxLen∧zs.length=cap∧(∀ i,i<zs.length→w.cell? (x.add i)=some (.int .u8 (zs.getD i 0)))∧∀ n∈zs,(Lit.int .u8 n).wf=true) :
 Calls Tryz.prog 5 #[.slice a len cap] w fun e w'=>e=.returned (.bool true)∧RowKit.Below w.heap.size w w':=by
 obtain⟨code,hc⟩:=bytes_rep h
 exact calls_true soundE (.cons (.i hc) .nil) (law_groupKeys code)
theorem law_scan_calls (a:Option Addr) (len cap:Nat) (zs:List Int) (w:World)
 (h:(a=none∧len=0∧cap=0∧zs=[])∨∃ x,a=some x∧len≤cap∧cap≤maxLen∧zs.length=cap∧(∀ i,i<zs.length→w.cell? (x.add i)=some (.int .u8 (zs.getD i 0)))∧∀ n∈zs,(Lit.int .u8 n).wf=true) :
 Calls Tryz.prog 7 #[.slice a len cap] w fun e w'=>e=.returned (.bool true)∧RowKit.Below w.heap.size w w':=by
 obtain⟨code,hc⟩:=bytes_rep h
 exact calls_true soundE (.cons (.i hc) .nil) (law_scan code)
theorem law_projectAll_calls (a:Option Addr) (len cap:Nat) (zs:List Int) (w:World)
 (h:(a=none∧len=0∧cap=0∧zs=[])∨∃ x,a=some x∧len≤cap∧cap≤maxLen∧zs.length=cap∧(∀ i,i<zs.length→w.cell? (x.add i)=some (.int .u8 (zs.getD i 0)))∧∀ n∈zs,(Lit.int .u8 n).wf=true) :
 Calls Tryz.prog 6 #[.slice a len cap] w fun e w'=>e=.returned (.bool true)∧RowKit.Below w.heap.size w w':=by
 obtain⟨code,hc⟩:=bytes_rep h
 exact calls_true soundE (.cons (.i hc) .nil) (law_projectAll code)
theorem law_groupCounts_calls (a:Option Addr) (len cap:Nat) (zs:List Int) (w:World)
 (h:(a=none∧len=0∧cap=0∧zs=[])∨∃ x,a=some x∧len≤cap∧cap≤maxLen∧zs.length=cap∧(∀ i,i<zs.length→w.cell? (x.add i)=some (.int .u8 (zs.getD i 0)))∧∀ n∈zs,(Lit.int .u8 n).wf=true) :
 Calls Tryz.prog 4 #[.slice a len cap] w fun e w'=>e=.returned (.bool true)∧RowKit.Below w.heap.size w w':=by
 obtain⟨code,hc⟩:=bytes_rep h
 exact calls_true soundE (.cons (.i hc) .nil) (law_groupCounts code)
theorem law_leftJoinKeeps_calls (a:Option Addr) (len cap:Nat) (zs:List Int) (w:World)
 (h:(a=none∧len=0∧cap=0∧zs=[])∨∃ x,a=some x∧len≤cap∧cap≤maxLen∧zs.length=cap∧(∀ i,i<zs.length→w.cell? (x.add i)=some (.int .u8 (zs.getD i 0)))∧∀ n∈zs,(Lit.int .u8 n).wf=true) :
 Calls Tryz.prog 16 #[.slice a len cap] w fun e w'=>e=.returned (.bool true)∧RowKit.Below w.heap.size w w':=by
 obtain⟨code,hc⟩:=bytes_rep h
 exact calls_true soundE (.cons (.i hc) .nil) (law_leftJoinKeeps code)
theorem law_joinInLeftJoin_calls (a:Option Addr) (len cap:Nat) (zs:List Int) (w:World)
 (h:(a=none∧len=0∧cap=0∧zs=[])∨∃ x,a=some x∧len≤cap∧cap≤maxLen∧zs.length=cap∧(∀ i,i<zs.length→w.cell? (x.add i)=some (.int .u8 (zs.getD i 0)))∧∀ n∈zs,(Lit.int .u8 n).wf=true) :
 Calls Tryz.prog 17 #[.slice a len cap] w fun e w'=>e=.returned (.bool true)∧RowKit.Below w.heap.size w w':=by
 obtain⟨code,hc⟩:=bytes_rep h
 exact calls_true soundE (.cons (.i hc) .nil) (law_joinInLeftJoin code)
theorem law_planCost_calls (a:Option Addr) (len cap:Nat) (zs:List Int) (w:World)
 (h:(a=none∧len=0∧cap=0∧zs=[])∨∃ x,a=some x∧len≤cap∧cap≤maxLen∧zs.length=cap∧(∀ i,i<zs.length→w.cell? (x.add i)=some (.int .u8 (zs.getD i 0)))∧∀ n∈zs,(Lit.int .u8 n).wf=true) :
 Calls Tryz.prog 3 #[.slice a len cap] w fun e w'=>e=.returned (.bool true)∧RowKit.Below w.heap.size w w':=by
 obtain⟨code,hc⟩:=bytes_rep h
 exact calls_true soundE (.cons (.i hc) .nil) (law_planCost code)
theorem law_filterTwice_calls (a:Option Addr) (len cap:Nat) (zs:List Int) (a':Option Addr) (len' cap':Nat) (zs':List Int) (w:World)
 (h:(a=none∧len=0∧cap=0∧zs=[])∨∃ x,a=some x∧len≤cap∧cap≤maxLen∧zs.length=cap∧(∀ i,i<zs.length→w.cell? (x.add i)=some (.int .u8 (zs.getD i 0)))∧∀ n∈zs,(Lit.int .u8 n).wf=true)
 (h':(a'=none∧len'=0∧cap'=0∧zs'=[])∨∃ x,a'=some x∧len'≤cap'∧cap'≤maxLen∧zs'.length=cap'∧(∀ i,i<zs'.length→w.cell? (x.add i)=some (.int .u8 (zs'.getD i 0)))∧∀ n∈zs',(Lit.int .u8 n).wf=true) :
 Calls Tryz.prog 12 #[.slice a len cap, .slice a' len' cap'] w fun e w'=>e=.returned (.bool true)∧RowKit.Below w.heap.size w w':=by
 obtain⟨code,hc⟩:=bytes_rep h
 obtain⟨more,hm⟩:=bytes_rep h'
 exact calls_true soundE (.cons (.i hc) (.cons (.i hm) .nil)) (law_filterTwice code more)
theorem law_filterSplits_calls (a:Option Addr) (len cap:Nat) (zs:List Int) (a':Option Addr) (len' cap':Nat) (zs':List Int) (w:World)
 (h:(a=none∧len=0∧cap=0∧zs=[])∨∃ x,a=some x∧len≤cap∧cap≤maxLen∧zs.length=cap∧(∀ i,i<zs.length→w.cell? (x.add i)=some (.int .u8 (zs.getD i 0)))∧∀ n∈zs,(Lit.int .u8 n).wf=true)
 (h':(a'=none∧len'=0∧cap'=0∧zs'=[])∨∃ x,a'=some x∧len'≤cap'∧cap'≤maxLen∧zs'.length=cap'∧(∀ i,i<zs'.length→w.cell? (x.add i)=some (.int .u8 (zs'.getD i 0)))∧∀ n∈zs',(Lit.int .u8 n).wf=true) :
 Calls Tryz.prog 15 #[.slice a len cap, .slice a' len' cap'] w fun e w'=>e=.returned (.bool true)∧RowKit.Below w.heap.size w w':=by
 obtain⟨code,hc⟩:=bytes_rep h
 obtain⟨more,hm⟩:=bytes_rep h'
 exact calls_true soundE (.cons (.i hc) (.cons (.i hm) .nil)) (law_filterSplits code more)
end Go.Proofs.YtiailccmofdhfaaGreat.P
namespace Go.Proofs.YtiailccmofdhfaaGreat.io
open Go
set_option maxRecDepth 100000
abbrev chs (l:List Nat):List Char:=l.map Char.ofNat
def w0:List Nat:=[104,97,114,110,101,115,115]
def w1:List Nat:=[50,56,102,97,49,53,98,56,52,99,100,48,101,100,100,56,51,100,100,98,102,101,53,102,55,50,99,97,49,49,55,50,56,49,53,101,97,102,100,102,
 50,97,54,48,99,102,98,101,56,57,48,100,53,97,56,97,97,102,100,53,56,48,102,52]
def w2:List Nat:=[99,117,116]
def others:List Nat:=[
 97,116,32,108,111,111,112,46,101,120,97,109,112,108,101,47,113,117,101,114,121,111,112,116,105,109,105,122,101,114,47,108,97,119,115,46,70,110,80,108,
 97,110,67,111,115,116,32,108,111,111,112,46,101,120,97,109,112,108,101,47,113,117,101,114,121,111,112,116,105,109,105,122,101,114,47,108,97,119,115,46,
 70,110,71,114,111,117,112,67,111,117,110,116,115,32,108,111,111,112,46,101,120,97,109,112,108,101,47,113,117,101,114,121,111,112,116,105,109,105,122,101,
 114,47,108,97,119,115,46,70,110,71,114,111,117,112,75,101,121,115,32,108,111,111,112,46,101,120,97,109,112,108,101,47,113,117,101,114,121,111,112,116,
 105,109,105,122,101,114,47,108,97,119,115,46,70,110,80,114,111,106,101,99,116,65,108,108,32,108,111,111,112,46,101,120,97,109,112,108,101,47,113,117,
 101,114,121,111,112,116,105,109,105,122,101,114,47,108,97,119,115,46,70,110,83,99,97,110,32,108,111,111,112,46,101,120,97,109,112,108,101,47,113,117,
 101,114,121,111,112,116,105,109,105,122,101,114,47,108,97,119,115,46,70,110,85,110,105,111,110,83,119,97,112,32,108,111,111,112,46,101,120,97,109,112,
 108,101,47,113,117,101,114,121,111,112,116,105,109,105,122,101,114,47,108,97,119,115,46,70,110,70,105,108,116,101,114,67,111,110,115,116,97,110,116,32,
 108,111,111,112,46,101,120,97,109,112,108,101,47,113,117,101,114,121,111,112,116,105,109,105,122,101,114,47,108,97,119,115,46,70,110,74,111,105,110,70,
 105,108,116,101,114,32,108,111,111,112,46,101,120,97,109,112,108,101,47,113,117,101,114,121,111,112,116,105,109,105,122,101,114,47,108,97,119,115,46,70,
 110,68,105,115,116,105,110,99,116,85,110,105,111,110,32,108,111,111,112,46,101,120,97,109,112,108,101,47,113,117,101,114,121,111,112,116,105,109,105,122,
 101,114,47,108,97,119,115,46,70,110,70,105,108,116,101,114,84,119,105,99,101,32,108,111,111,112,46,101,120,97,109,112,108,101,47,113,117,101,114,121,
 111,112,116,105,109,105,122,101,114,47,108,97,119,115,46,70,110,69,118,97,108,80,108,97,110,32,108,111,111,112,46,101,120,97,109,112,108,101,47,113,
 117,101,114,121,111,112,116,105,109,105,122,101,114,47,108,97,119,115,46,70,110,77,97,116,101,114,105,97,108,105,122,101,32,108,111,111,112,46,101,120,
 97,109,112,108,101,47,113,117,101,114,121,111,112,116,105,109,105,122,101,114,47,108,97,119,115,46,70,110,70,105,108,116,101,114,83,112,108,105,116,115,
 32,108,111,111,112,46,101,120,97,109,112,108,101,47,113,117,101,114,121,111,112,116,105,109,105,122,101,114,47,108,97,119,115,46,70,110,76,101,102,116,
 74,111,105,110,75,101,101,112,115,32,108,111,111,112,46,101,120,97,109,112,108,101,47,113,117,101,114,121,111,112,116,105,109,105,122,101,114,47,108,97,
 119,115,46,70,110,74,111,105,110,73,110,76,101,102,116,74,111,105,110,32,108,111,111,112,46,101,120,97,109,112,108,101,47,113,117,101,114,121,111,112,
 116,105,109,105,122,101,114,47,108,97,119,115,46,70,110,82,111,119,66,111,117,110,100,32,108,111,111,112,46,101,120,97,109,112,108,101,47,113,117,101,
 114,121,111,112,116,105,109,105,122,101,114,47,108,97,119,115,46,70,110,84,97,98,108,101,115,79,102,32,108,111,111,112,46,101,120,97,109,112,108,101,
 47,113,117,101,114,121,111,112,116,105,109,105,122,101,114,47,108,97,119,115,46,70,110,73,115,68,117,112,108,105,99,97,116,101,70,114,101,101,32,108,
 111,111,112,46,101,120,97,109,112,108,101,47,113,117,101,114,121,111,112,116,105,109,105,122,101,114,47,108,97,119,115,46,70,110,69,120,112,97,110,100,
 82,101,115,117,108,116,32,108,111,111,112,46,101,120,97,109,112,108,101,47,113,117,101,114,121,111,112,116,105,109,105,122,101,114,47,108,97,119,115,46,
 70,110,86,105,101,119,82,101,115,117,108,116,32,108,111,111,112,46,101,120,97,109,112,108,101,47,113,117,101,114,121,111,112,116,105,109,105,122,101,114,
 47,108,97,119,115,46,70,110,78,117,108,108,97,98,108,101,67,111,108,117,109,110,115]
theorem order:Tryz.pinned.checked.prog.initOrder=String.ofList (chs w0++Char.ofNat 32::(chs w1++Char.ofNat 32::(chs w2++Char.ofNat 32::chs others))):=by kernel_rfl
theorem word:∀ (w r:List Char),(w.all fun c=>decide (c≠Char.ofNat 32))=true→wordsSigns (w++Char.ofNat 32::r)=w::wordsSigns r
 | [],r,_=>rfl
 | c::w,r,h=>by
  simp only[List.all_cons,Bool.and_eq_true,decide_eq_true_eq]at h
  have ih:=word w r h.2
  rw[List.cons_append,wordsSigns,ih]
  intro e
  exact h.1 e
theorem words:wordsSigns Tryz.pinned.checked.prog.initOrder.toList=chs w0::chs w1::chs w2::wordsSigns (chs others):=by
 rw[order,String.toList_ofList,word _ _ (by decide),word _ _ (by decide),word _ _ (by decide)]
theorem strip_none (c:List Char) (r:List (List Char)):∀ l:List String,(l.all fun o=>!(c == o.toList))=true→stripLifts l (c::r)=([],c::r)
 | [],_=>rfl
 | o::l,h=>by
  simp only[List.all_cons,Bool.and_eq_true,Bool.not_eq_true']at h
  have ih:=strip_none c r l h.2
  rw[stripLifts,h.1]
  exact ih
theorem behind (a b c:List Char) (r:List (List Char)) (ha:a= "harness".toList) (hb:isSumSigns b=true):behindMainWord (a::b::c::r)=c::r:=by
 show(if((a == "harness".toList || a == "ownmain".toList) && isSumSigns b)=true then c::r else a::b::c::r)=c::r
 rw[if_pos (by rw[hb,ha];simp)]
theorem enters_of (P:Program) (c:List Char) (r:List (List Char)) (h:behindMainWord (wordsSigns P.initOrder.toList)=c::r) (hc:c= "cut".toList) (hs:stripLifts liftWords (c::r)=([],c::r)) (l1:P.laysLater=false) (l2:P.bearsReflect=false) (l3:P.doorFits []=true):P.mayEnter=true:=by
 unfold Program.mayEnter
 rw[h]
 simp only[hs,l1,l2,l3]
 simp[hc]
theorem lifts_of (P:Program) (c:List Char) (r:List (List Char)) (h:behindMainWord (wordsSigns P.initOrder.toList)=c::r) (hc:c= "cut".toList) (hs:stripLifts liftWords (c::r)=([],c::r)):P.liftsFinal=false:=by
 unfold Program.liftsFinal Program.headLifts
 rw[h]
 simp only[hs]
 simp[hc]
theorem makes_of (P:Program) (c:List Char) (r:List (List Char)) (h:behindMainWord (wordsSigns P.initOrder.toList)=c::r) (hc:c= "cut".toList):P.make=some .cut:=by
 unfold Program.make
 rw[h]
 simp[hc]
theorem front:behindMainWord (wordsSigns Tryz.pinned.checked.prog.initOrder.toList)=chs w2::wordsSigns (chs others):=by
 rw[words,behind _ _ _ _ (by decide +kernel) (by decide +kernel)]
theorem cut2:chs w2= "cut".toList:=by decide +kernel
theorem strips (r:List (List Char)):stripLifts liftWords (chs w2::r)=([],chs w2::r):=strip_none _ _ _ (by decide +kernel)
theorem enters:Tryz.pinned.checked.prog.mayEnter=true:=enters_of _ _ _ front cut2 (strips _) (by kernel_rfl) (by kernel_rfl) (by kernel_rfl)
theorem lifts:Tryz.pinned.checked.prog.liftsFinal=false:=lifts_of _ _ _ front cut2 (strips _)
theorem makes:Tryz.pinned.checked.prog.make=some .cut:=makes_of _ _ _ front cut2
theorem laid:laidOutB Tryz.pinned.checked.prog=true:=by kernel_rfl
theorem rowed:mapsRowed Tryz.pinned.checked.prog=true:=by kernel_rfl
theorem noStops:Tryz.pinned.checked.prog.stops=[]:=by kernel_rfl
theorem noKnobs:Tryz.pinned.checked.prog.stopKnobs=[]:=by kernel_rfl
theorem plain:Tryz.pinned.checked.prog.plainKeys=true:=by kernel_rfl
theorem heard:Tryz.pinned.checked.prog.stopsHeard=true:=by kernel_rfl
theorem band {a b:Bool} (h:a=true) (k:b=true):(a && b)=true:=by rw[h,k];rfl
end Go.Proofs.YtiailccmofdhfaaGreat.io

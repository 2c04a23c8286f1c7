/- Part 7 of what the proof rests on: the executor and what it is worth, and the program's functions as it runs them. No condition. -/
import Derived.Test.YtiailccmofdhfaaGreatT6
import Derived.Test.YtiailccmofdhfaaGreatRows
import Derived.WalkKit
import Derived.ProofKit
import Derived.Below
import Derived.JoinedOf
set_option linter.unusedVariables false
set_option linter.unusedSimpArgs false
namespace Go.Proofs.YtiailccmofdhfaaGreat.P
open Go Go.Av
set_option maxRecDepth 4000
set_option maxHeartbeats 8000000
def bl (n:Nat):Nat:=if n=0 then 0 else 1
def rX (b:Nat) (P:Pn):AV:=.agg [.int P.kind, .int P.table,gro b 5 P.exprs.length,gro (b+bl P.exprs.length) 1 P.cols.length,gro (b+bl P.exprs.length+bl P.cols.length) 5 P.kids.length]
def rS (P:Pn):StL:=groB 5 (Ex.cellsL P.exprs) P.exprs.length++(groB 1 (intsL P.cols) P.cols.length++groB 5 (Pn.cellsL P.kids) P.kids.length)
@[simp] theorem cq_plan (a:List AV) (st:StL):callA CQ 119 a st=callA CP 119 a st:=by rw[callA_prim (p:=callA CP 119) rfl]
@[simp] theorem cq_filterOf (a:List AV) (st:StL):callA CQ 121 a st=bodyA C0 true 121 a st:=by rw[callA_prim (p:=bodyA C0 true 121) rfl]
@[simp] theorem cq_planWidth (a:List AV) (st:StL):callA CQ 102 a st=callA CP 102 a st:=by rw[callA_prim (p:=lookC (callA C0) 102) rfl,callA_prim (p:=lookC (callA C0) 102) rfl]
@[simp] theorem cq_copyPlan (a:List AV) (st:StL):callA CQ 123 a st=callA CP 123 a st:=by rw[callA_prim (p:=frzO (callA C0) 123) rfl,callA_prim (p:=frzO (callA C0) 123) rfl]
@[simp] theorem cq_pick (a:List AV) (st:StL):callA CQ 98 a st=callA C0 98 a st:=by rw[callA_prim (p:=callA C0 98) rfl]
@[simp] theorem cq_one (a:List AV) (st:StL):callA CQ 124 a st=callA C0 124 a st:=by rw[callA_prim (p:=callA C0 124) rfl]
@[simp] theorem cq_cond (a:List AV) (st:StL):callA CQ 122 a st=callA C0 122 a st:=by rw[callA_prim (p:=callA C0 122) rfl]
@[simp] theorem cq_expr (a:List AV) (st:StL):callA CQ 167 a st=callA C0 167 a st:=by rw[callA_prim (p:=callA C0 167) rfl]
theorem filterOf_own (e:Ex) (p:Pn):bodyA C0 true 121 [.i (.agg e.cells), .i (.agg p.cells)] []=some (.agg [.int 2, .int 0, .osl 0 5 0 1, .nils, .osl 1 5 0 1],[some (.arr 5 [e.cells]),some (.arr 5 [p.cells])]):=by
 rw[bodyA_eq Tryz.func121 rfl rfl,Ex.cells_eq,Pn.cells_eq]
 simp
def RootOk (l:List UInt8) (ws:List Int) (k d j c:Nat):Prop:=∀ p u:Int,0≤p→p+c<300000000→0≤u→u≤1→∃ (P:Pn) (p' u':Int) (j':Nat),
    bodyA CQ true 119 [.own 0 0, .int d] (PSt l ws k j u p)=some (rX 3 P,PSt l ws k j' u' p'++rS P)∧Th P j j' u u'∧p≤p'∧p'≤p+c∧j'≤j∧0≤u'∧u'≤1∧P.exprs.length≤2∧P.cols.length≤1
theorem root_scan {l:List UInt8} {ws:List Int} {k:Nat} {d j:Nat} {p u t:Int} (hd:d<100) (ht:callA C0 98 [.own 0 0, .int k] [Rd l p]=some (.int t,[Rd l (p+1)])) (hv:callA C0 98 [.own 0 0, .int 6] [Rd l (p+1)]=some (.int 0,[Rd l (p+1+1)])) :
 bodyA CQ true 119 [.own 0 0, .int ((d+1:Nat):Int)] (PSt l ws k j u p)=some (rX 3 (Pn.scan t),PSt l ws k j u (p+1+1)++rS (Pn.scan t)):=by
 have wn:¬ ((d:Int)+1=0):=by omega
 rw[bodyA_eq Tryz.func119 rfl rfl]
 simp[PSt,ht,hv,wn,rX,rS,bl,Pn.scan]
theorem root_filter0 {l:List UInt8} (hl:l.length≤2000) {ws:List Int} {k:Nat} {d j c2:Nat} {p u t v W kk p1 u1:Int} {j1:Nat} {K:Pn} (hd:d<100) (h1:p1+400+c2<300000000) (hp1:0≤p1) (hu0:0≤u1) (hu1:u1≤1) (hW0:0≤W) (hW6:W≤6) (hKB:Th K j j1 u u1)
 (ht:callA C0 98 [.own 0 0, .int k] [Rd l p]=some (.int t,[Rd l (p+1)])) (hv:callA C0 98 [.own 0 0, .int 6] [Rd l (p+1)]=some (.int v,[Rd l (p+1+1)])) (v0:¬ v=0)
 (hkid:callA CP 119 [.own 0 0, .int d] (PSt l ws k j u (p+1+1))=some (.i (.agg K.cells),PSt l ws k j1 u1 p1))
 (hW:callA CP 102 [.i (.agg K.cells), .osl 0 1 0 k, .int 8] [some (.arr 1 (intsL ws))]=some (.int W,[some (.arr 1 (intsL ws))]))
 (hkk:callA C0 98 [.own 0 0, .int 10] [Rd l p1]=some (.int kk,[Rd l (p1+1)])) (hq:kk=0):∃ (P:Pn) (p' u':Int) (j':Nat),bodyA CQ true 119 [.own 0 0, .int ((d+1:Nat):Int)] (PSt l ws k j u p)=some (rX 3 P,PSt l ws k j' u' p'++rS P)∧Th P j j' u u'∧p1≤p'∧p'≤p1+400+c2∧j'≤j1∧0≤u'∧u'≤1∧P.exprs.length≤2∧P.cols.length≤1:=by
 have we:IntKind.i64.wrap (d:Int)=d:=wrap64 (by omega) (by omega)
 have hK:=hKB.1
 have wn:¬ ((d:Int)+1=0):=by omega
 simp only[PSt]at hkid
 rw[Pn.cells_eq K]at hkid hW
 obtain⟨e,p2,he,a1,a2,a3⟩:=randomCondition_eq l hl W (p1+1) (by omega) (by omega)
 have hf:=filterOf_own e K
 rw[Pn.cells_eq K,Ex.cells_eq e]at hf
 rw[Ex.cells_eq e]at he
 refine⟨filtP e K,p2,u1,j1,?_,Th.one (filtP_thin (by omega) hK) hKB,by omega,by omega,by omega,by omega,by omega,by simp[filtP,Pn.scan],by simp[filtP,Pn.scan]⟩
 rw[bodyA_eq Tryz.func119 rfl rfl]
 simp[PSt,ht,hv,v0,we,hkid,hW,hkk,wn,hq,rX,rS,bl,he,hf,filtP,Ex.cellsL,intsL,Pn.cellsL,Pn.cells_eq K,Ex.cells_eq e]
theorem root_filter1 {l:List UInt8} (hl:l.length≤2000) {ws:List Int} {k:Nat} {d j c2:Nat} {p u t v W kk p1 u1:Int} {j1:Nat} {K:Pn} (hd:d<100) (h1:p1+400+c2<300000000) (hp1:0≤p1) (hu0:0≤u1) (hu1:u1≤1) (hW0:0≤W) (hW6:W≤6) (hKB:Th K j j1 u u1)
 (ht:callA C0 98 [.own 0 0, .int k] [Rd l p]=some (.int t,[Rd l (p+1)])) (hv:callA C0 98 [.own 0 0, .int 6] [Rd l (p+1)]=some (.int v,[Rd l (p+1+1)])) (v0:¬ v=0)
 (hkid:callA CP 119 [.own 0 0, .int d] (PSt l ws k j u (p+1+1))=some (.i (.agg K.cells),PSt l ws k j1 u1 p1))
 (hW:callA CP 102 [.i (.agg K.cells), .osl 0 1 0 k, .int 8] [some (.arr 1 (intsL ws))]=some (.int W,[some (.arr 1 (intsL ws))]))
 (hkk:callA C0 98 [.own 0 0, .int 10] [Rd l p1]=some (.int kk,[Rd l (p1+1)])) (hq:kk=1):∃ (P:Pn) (p' u':Int) (j':Nat),bodyA CQ true 119 [.own 0 0, .int ((d+1:Nat):Int)] (PSt l ws k j u p)=some (rX 3 P,PSt l ws k j' u' p'++rS P)∧Th P j j' u u'∧p1≤p'∧p'≤p1+400+c2∧j'≤j1∧0≤u'∧u'≤1∧P.exprs.length≤2∧P.cols.length≤1:=by
 have we:IntKind.i64.wrap (d:Int)=d:=wrap64 (by omega) (by omega)
 have hK:=hKB.1
 have wn:¬ ((d:Int)+1=0):=by omega
 simp only[PSt]at hkid
 rw[Pn.cells_eq K]at hkid hW
 obtain⟨e,p2,he,a1,a2,a3⟩:=randomCondition_eq l hl W (p1+1) (by omega) (by omega)
 have hf:=filterOf_own e K
 rw[Pn.cells_eq K,Ex.cells_eq e]at hf
 rw[Ex.cells_eq e]at he
 refine⟨filtP e K,p2,u1,j1,?_,Th.one (filtP_thin (by omega) hK) hKB,by omega,by omega,by omega,by omega,by omega,by simp[filtP,Pn.scan],by simp[filtP,Pn.scan]⟩
 rw[bodyA_eq Tryz.func119 rfl rfl]
 simp[PSt,ht,hv,v0,we,hkid,hW,hkk,wn,hq,rX,rS,bl,he,hf,filtP,Ex.cellsL,intsL,Pn.cellsL,Pn.cells_eq K,Ex.cells_eq e]
theorem root_filter2 {l:List UInt8} (hl:l.length≤2000) {ws:List Int} {k:Nat} {d j c2:Nat} {p u t v W kk p1 u1:Int} {j1:Nat} {K:Pn} (hd:d<100) (h1:p1+400+c2<300000000) (hp1:0≤p1) (hu0:0≤u1) (hu1:u1≤1) (hW0:0≤W) (hW6:W≤6) (hKB:Th K j j1 u u1)
 (ht:callA C0 98 [.own 0 0, .int k] [Rd l p]=some (.int t,[Rd l (p+1)])) (hv:callA C0 98 [.own 0 0, .int 6] [Rd l (p+1)]=some (.int v,[Rd l (p+1+1)])) (v0:¬ v=0)
 (hkid:callA CP 119 [.own 0 0, .int d] (PSt l ws k j u (p+1+1))=some (.i (.agg K.cells),PSt l ws k j1 u1 p1))
 (hW:callA CP 102 [.i (.agg K.cells), .osl 0 1 0 k, .int 8] [some (.arr 1 (intsL ws))]=some (.int W,[some (.arr 1 (intsL ws))]))
 (hkk:callA C0 98 [.own 0 0, .int 10] [Rd l p1]=some (.int kk,[Rd l (p1+1)])) (hq:kk=2):∃ (P:Pn) (p' u':Int) (j':Nat),bodyA CQ true 119 [.own 0 0, .int ((d+1:Nat):Int)] (PSt l ws k j u p)=some (rX 3 P,PSt l ws k j' u' p'++rS P)∧Th P j j' u u'∧p1≤p'∧p'≤p1+400+c2∧j'≤j1∧0≤u'∧u'≤1∧P.exprs.length≤2∧P.cols.length≤1:=by
 have we:IntKind.i64.wrap (d:Int)=d:=wrap64 (by omega) (by omega)
 have hK:=hKB.1
 have wn:¬ ((d:Int)+1=0):=by omega
 simp only[PSt]at hkid
 rw[Pn.cells_eq K]at hkid hW
 obtain⟨e,p2,he,a1,a2,a3⟩:=randomCondition_eq l hl W (p1+1) (by omega) (by omega)
 have hf:=filterOf_own e K
 rw[Pn.cells_eq K,Ex.cells_eq e]at hf
 rw[Ex.cells_eq e]at he
 refine⟨filtP e K,p2,u1,j1,?_,Th.one (filtP_thin (by omega) hK) hKB,by omega,by omega,by omega,by omega,by omega,by simp[filtP,Pn.scan],by simp[filtP,Pn.scan]⟩
 rw[bodyA_eq Tryz.func119 rfl rfl]
 simp[PSt,ht,hv,v0,we,hkid,hW,hkk,wn,hq,rX,rS,bl,he,hf,filtP,Ex.cellsL,intsL,Pn.cellsL,Pn.cells_eq K,Ex.cells_eq e]
theorem root_distinct {l:List UInt8} (hl:l.length≤2000) {ws:List Int} {k:Nat} {d j c2:Nat} {p u t v W kk p1 u1:Int} {j1:Nat} {K:Pn} (hd:d<100) (h1:p1+400+c2<300000000) (hp1:0≤p1) (hu0:0≤u1) (hu1:u1≤1) (hW0:0≤W) (hW6:W≤6) (hKB:Th K j j1 u u1)
 (ht:callA C0 98 [.own 0 0, .int k] [Rd l p]=some (.int t,[Rd l (p+1)])) (hv:callA C0 98 [.own 0 0, .int 6] [Rd l (p+1)]=some (.int v,[Rd l (p+1+1)])) (v0:¬ v=0)
 (hkid:callA CP 119 [.own 0 0, .int d] (PSt l ws k j u (p+1+1))=some (.i (.agg K.cells),PSt l ws k j1 u1 p1))
 (hW:callA CP 102 [.i (.agg K.cells), .osl 0 1 0 k, .int 8] [some (.arr 1 (intsL ws))]=some (.int W,[some (.arr 1 (intsL ws))]))
 (hkk:callA C0 98 [.own 0 0, .int 10] [Rd l p1]=some (.int kk,[Rd l (p1+1)])) (hq:kk=8):∃ (P:Pn) (p' u':Int) (j':Nat),bodyA CQ true 119 [.own 0 0, .int ((d+1:Nat):Int)] (PSt l ws k j u p)=some (rX 3 P,PSt l ws k j' u' p'++rS P)∧Th P j j' u u'∧p1≤p'∧p'≤p1+400+c2∧j'≤j1∧0≤u'∧u'≤1∧P.exprs.length≤2∧P.cols.length≤1:=by
 have we:IntKind.i64.wrap (d:Int)=d:=wrap64 (by omega) (by omega)
 have hK:=hKB.1
 have wn:¬ ((d:Int)+1=0):=by omega
 simp only[PSt]at hkid
 rw[Pn.cells_eq K]at hkid hW
 refine⟨.mk 7 0 [] [] [K],p1+1,u1,j1,?_,Th.one (by simp[Pn.thin,Pn.thinL,hK]) hKB,by omega,by omega,by omega,by omega,by omega,by simp[filtP,Pn.scan],by simp[filtP,Pn.scan]⟩
 rw[bodyA_eq Tryz.func119 rfl rfl]
 simp[PSt,ht,hv,v0,we,hkid,hW,hkk,wn,hq,rX,rS,bl,Pn.cells,Ex.cellsL,intsL,Pn.cellsL,Pn.cells_eq K]
theorem root_nojoin5 {l:List UInt8} (hl:l.length≤2000) {ws:List Int} {k:Nat} {d j c2:Nat} {p u t v W kk p1 u1:Int} {j1:Nat} {K:Pn} (hd:d<100) (h1:p1+400+c2<300000000) (hp1:0≤p1) (hu0:0≤u1) (hu1:u1≤1) (hW0:0≤W) (hW6:W≤6) (hKB:Th K j j1 u u1)
 (ht:callA C0 98 [.own 0 0, .int k] [Rd l p]=some (.int t,[Rd l (p+1)])) (hv:callA C0 98 [.own 0 0, .int 6] [Rd l (p+1)]=some (.int v,[Rd l (p+1+1)])) (v0:¬ v=0)
 (hkid:callA CP 119 [.own 0 0, .int d] (PSt l ws k j u (p+1+1))=some (.i (.agg K.cells),PSt l ws k j1 u1 p1))
 (hW:callA CP 102 [.i (.agg K.cells), .osl 0 1 0 k, .int 8] [some (.arr 1 (intsL ws))]=some (.int W,[some (.arr 1 (intsL ws))]))
 (hkk:callA C0 98 [.own 0 0, .int 10] [Rd l p1]=some (.int kk,[Rd l (p1+1)])) (hj:j1=0) (hq:kk=5):∃ (P:Pn) (p' u':Int) (j':Nat),bodyA CQ true 119 [.own 0 0, .int ((d+1:Nat):Int)] (PSt l ws k j u p)=some (rX 3 P,PSt l ws k j' u' p'++rS P)∧Th P j j' u u'∧p1≤p'∧p'≤p1+400+c2∧j'≤j1∧0≤u'∧u'≤1∧P.exprs.length≤2∧P.cols.length≤1:=by
 have we:IntKind.i64.wrap (d:Int)=d:=wrap64 (by omega) (by omega)
 have hK:=hKB.1
 have wn:¬ ((d:Int)+1=0):=by omega
 simp only[PSt]at hkid
 rw[Pn.cells_eq K]at hkid hW
 obtain⟨e,p2,he,a1,a2,a3⟩:=randomCondition_eq l hl W (p1+1) (by omega) (by omega)
 have hf:=filterOf_own e K
 rw[Pn.cells_eq K,Ex.cells_eq e]at hf
 rw[Ex.cells_eq e]at he
 refine⟨filtP e K,p2,u1,j1,?_,Th.one (filtP_thin (by omega) hK) hKB,by omega,by omega,by omega,by omega,by omega,by simp[filtP,Pn.scan],by simp[filtP,Pn.scan]⟩
 rw[bodyA_eq Tryz.func119 rfl rfl]
 simp[PSt,ht,hv,v0,we,hkid,hW,hkk,wn,hq,rX,rS,bl,he,hf,filtP,Ex.cellsL,intsL,Pn.cellsL,Pn.cells_eq K,Ex.cells_eq e,hj]
theorem root_wide5 {l:List UInt8} (hl:l.length≤2000) {ws:List Int} {k:Nat} {d j c2:Nat} {p u t v W kk p1 u1:Int} {j1:Nat} {K:Pn} (hd:d<100) (h1:p1+400+c2<300000000) (hp1:0≤p1) (hu0:0≤u1) (hu1:u1≤1) (hW0:0≤W) (hW6:W≤6) (hKB:Th K j j1 u u1)
 (ht:callA C0 98 [.own 0 0, .int k] [Rd l p]=some (.int t,[Rd l (p+1)])) (hv:callA C0 98 [.own 0 0, .int 6] [Rd l (p+1)]=some (.int v,[Rd l (p+1+1)])) (v0:¬ v=0)
 (hkid:callA CP 119 [.own 0 0, .int d] (PSt l ws k j u (p+1+1))=some (.i (.agg K.cells),PSt l ws k j1 u1 p1))
 (hW:callA CP 102 [.i (.agg K.cells), .osl 0 1 0 k, .int 8] [some (.arr 1 (intsL ws))]=some (.int W,[some (.arr 1 (intsL ws))]))
 (hkk:callA C0 98 [.own 0 0, .int 10] [Rd l p1]=some (.int kk,[Rd l (p1+1)])) (hj:j1≠0) (hw4:¬ W≤4) (hq:kk=5):∃ (P:Pn) (p' u':Int) (j':Nat),bodyA CQ true 119 [.own 0 0, .int ((d+1:Nat):Int)] (PSt l ws k j u p)=some (rX 3 P,PSt l ws k j' u' p'++rS P)∧Th P j j' u u'∧p1≤p'∧p'≤p1+400+c2∧j'≤j1∧0≤u'∧u'≤1∧P.exprs.length≤2∧P.cols.length≤1:=by
 have we:IntKind.i64.wrap (d:Int)=d:=wrap64 (by omega) (by omega)
 have hK:=hKB.1
 have wn:¬ ((d:Int)+1=0):=by omega
 simp only[PSt]at hkid
 rw[Pn.cells_eq K]at hkid hW
 have hj':0<j1:=by omega
 obtain⟨e,p2,he,a1,a2,a3⟩:=randomCondition_eq l hl W (p1+1) (by omega) (by omega)
 have hf:=filterOf_own e K
 rw[Pn.cells_eq K,Ex.cells_eq e]at hf
 rw[Ex.cells_eq e]at he
 refine⟨filtP e K,p2,u1,j1,?_,Th.one (filtP_thin (by omega) hK) hKB,by omega,by omega,by omega,by omega,by omega,by simp[filtP,Pn.scan],by simp[filtP,Pn.scan]⟩
 rw[bodyA_eq Tryz.func119 rfl rfl]
 simp[PSt,ht,hv,v0,we,hkid,hW,hkk,wn,hq,rX,rS,bl,he,hf,filtP,Ex.cellsL,intsL,Pn.cellsL,Pn.cells_eq K,Ex.cells_eq e,hj',hj,hw4]
theorem root_nojoin6 {l:List UInt8} (hl:l.length≤2000) {ws:List Int} {k:Nat} {d j c2:Nat} {p u t v W kk p1 u1:Int} {j1:Nat} {K:Pn} (hd:d<100) (h1:p1+400+c2<300000000) (hp1:0≤p1) (hu0:0≤u1) (hu1:u1≤1) (hW0:0≤W) (hW6:W≤6) (hKB:Th K j j1 u u1)
 (ht:callA C0 98 [.own 0 0, .int k] [Rd l p]=some (.int t,[Rd l (p+1)])) (hv:callA C0 98 [.own 0 0, .int 6] [Rd l (p+1)]=some (.int v,[Rd l (p+1+1)])) (v0:¬ v=0)
 (hkid:callA CP 119 [.own 0 0, .int d] (PSt l ws k j u (p+1+1))=some (.i (.agg K.cells),PSt l ws k j1 u1 p1))
 (hW:callA CP 102 [.i (.agg K.cells), .osl 0 1 0 k, .int 8] [some (.arr 1 (intsL ws))]=some (.int W,[some (.arr 1 (intsL ws))]))
 (hkk:callA C0 98 [.own 0 0, .int 10] [Rd l p1]=some (.int kk,[Rd l (p1+1)])) (hj:j1=0) (hq:kk=6):∃ (P:Pn) (p' u':Int) (j':Nat),bodyA CQ true 119 [.own 0 0, .int ((d+1:Nat):Int)] (PSt l ws k j u p)=some (rX 3 P,PSt l ws k j' u' p'++rS P)∧Th P j j' u u'∧p1≤p'∧p'≤p1+400+c2∧j'≤j1∧0≤u'∧u'≤1∧P.exprs.length≤2∧P.cols.length≤1:=by
 have we:IntKind.i64.wrap (d:Int)=d:=wrap64 (by omega) (by omega)
 have hK:=hKB.1
 have wn:¬ ((d:Int)+1=0):=by omega
 simp only[PSt]at hkid
 rw[Pn.cells_eq K]at hkid hW
 obtain⟨e,p2,he,a1,a2,a3⟩:=randomCondition_eq l hl W (p1+1) (by omega) (by omega)
 have hf:=filterOf_own e K
 rw[Pn.cells_eq K,Ex.cells_eq e]at hf
 rw[Ex.cells_eq e]at he
 refine⟨filtP e K,p2,u1,j1,?_,Th.one (filtP_thin (by omega) hK) hKB,by omega,by omega,by omega,by omega,by omega,by simp[filtP,Pn.scan],by simp[filtP,Pn.scan]⟩
 rw[bodyA_eq Tryz.func119 rfl rfl]
 simp[PSt,ht,hv,v0,we,hkid,hW,hkk,wn,hq,rX,rS,bl,he,hf,filtP,Ex.cellsL,intsL,Pn.cellsL,Pn.cells_eq K,Ex.cells_eq e,hj]
theorem root_wide6 {l:List UInt8} (hl:l.length≤2000) {ws:List Int} {k:Nat} {d j c2:Nat} {p u t v W kk p1 u1:Int} {j1:Nat} {K:Pn} (hd:d<100) (h1:p1+400+c2<300000000) (hp1:0≤p1) (hu0:0≤u1) (hu1:u1≤1) (hW0:0≤W) (hW6:W≤6) (hKB:Th K j j1 u u1)
 (ht:callA C0 98 [.own 0 0, .int k] [Rd l p]=some (.int t,[Rd l (p+1)])) (hv:callA C0 98 [.own 0 0, .int 6] [Rd l (p+1)]=some (.int v,[Rd l (p+1+1)])) (v0:¬ v=0)
 (hkid:callA CP 119 [.own 0 0, .int d] (PSt l ws k j u (p+1+1))=some (.i (.agg K.cells),PSt l ws k j1 u1 p1))
 (hW:callA CP 102 [.i (.agg K.cells), .osl 0 1 0 k, .int 8] [some (.arr 1 (intsL ws))]=some (.int W,[some (.arr 1 (intsL ws))]))
 (hkk:callA C0 98 [.own 0 0, .int 10] [Rd l p1]=some (.int kk,[Rd l (p1+1)])) (hj:j1≠0) (hw4:¬ W≤4) (hq:kk=6):∃ (P:Pn) (p' u':Int) (j':Nat),bodyA CQ true 119 [.own 0 0, .int ((d+1:Nat):Int)] (PSt l ws k j u p)=some (rX 3 P,PSt l ws k j' u' p'++rS P)∧Th P j j' u u'∧p1≤p'∧p'≤p1+400+c2∧j'≤j1∧0≤u'∧u'≤1∧P.exprs.length≤2∧P.cols.length≤1:=by
 have we:IntKind.i64.wrap (d:Int)=d:=wrap64 (by omega) (by omega)
 have hK:=hKB.1
 have wn:¬ ((d:Int)+1=0):=by omega
 simp only[PSt]at hkid
 rw[Pn.cells_eq K]at hkid hW
 have hj':0<j1:=by omega
 obtain⟨e,p2,he,a1,a2,a3⟩:=randomCondition_eq l hl W (p1+1) (by omega) (by omega)
 have hf:=filterOf_own e K
 rw[Pn.cells_eq K,Ex.cells_eq e]at hf
 rw[Ex.cells_eq e]at he
 refine⟨filtP e K,p2,u1,j1,?_,Th.one (filtP_thin (by omega) hK) hKB,by omega,by omega,by omega,by omega,by omega,by simp[filtP,Pn.scan],by simp[filtP,Pn.scan]⟩
 rw[bodyA_eq Tryz.func119 rfl rfl]
 simp[PSt,ht,hv,v0,we,hkid,hW,hkk,wn,hq,rX,rS,bl,he,hf,filtP,Ex.cellsL,intsL,Pn.cellsL,Pn.cells_eq K,Ex.cells_eq e,hj',hj,hw4]
theorem root_nounion {l:List UInt8} (hl:l.length≤2000) {ws:List Int} {k:Nat} {d j c2:Nat} {p u t v W kk p1 u1:Int} {j1:Nat} {K:Pn} (hd:d<100) (h1:p1+400+c2<300000000) (hp1:0≤p1) (hu0:0≤u1) (hu1:u1≤1) (hW0:0≤W) (hW6:W≤6) (hKB:Th K j j1 u u1)
 (ht:callA C0 98 [.own 0 0, .int k] [Rd l p]=some (.int t,[Rd l (p+1)])) (hv:callA C0 98 [.own 0 0, .int 6] [Rd l (p+1)]=some (.int v,[Rd l (p+1+1)])) (v0:¬ v=0)
 (hkid:callA CP 119 [.own 0 0, .int d] (PSt l ws k j u (p+1+1))=some (.i (.agg K.cells),PSt l ws k j1 u1 p1))
 (hW:callA CP 102 [.i (.agg K.cells), .osl 0 1 0 k, .int 8] [some (.arr 1 (intsL ws))]=some (.int W,[some (.arr 1 (intsL ws))]))
 (hkk:callA C0 98 [.own 0 0, .int 10] [Rd l p1]=some (.int kk,[Rd l (p1+1)])) (hu:¬ 0<u1) (hq:kk=7):∃ (P:Pn) (p' u':Int) (j':Nat),bodyA CQ true 119 [.own 0 0, .int ((d+1:Nat):Int)] (PSt l ws k j u p)=some (rX 3 P,PSt l ws k j' u' p'++rS P)∧Th P j j' u u'∧p1≤p'∧p'≤p1+400+c2∧j'≤j1∧0≤u'∧u'≤1∧P.exprs.length≤2∧P.cols.length≤1:=by
 have we:IntKind.i64.wrap (d:Int)=d:=wrap64 (by omega) (by omega)
 have hK:=hKB.1
 have wn:¬ ((d:Int)+1=0):=by omega
 simp only[PSt]at hkid
 rw[Pn.cells_eq K]at hkid hW
 obtain⟨e,p2,he,a1,a2,a3⟩:=randomCondition_eq l hl W (p1+1) (by omega) (by omega)
 have hf:=filterOf_own e K
 rw[Pn.cells_eq K,Ex.cells_eq e]at hf
 rw[Ex.cells_eq e]at he
 refine⟨filtP e K,p2,u1,j1,?_,Th.one (filtP_thin (by omega) hK) hKB,by omega,by omega,by omega,by omega,by omega,by simp[filtP,Pn.scan],by simp[filtP,Pn.scan]⟩
 rw[bodyA_eq Tryz.func119 rfl rfl]
 simp[PSt,ht,hv,v0,we,hkid,hW,hkk,wn,hq,rX,rS,bl,he,hf,filtP,Ex.cellsL,intsL,Pn.cellsL,Pn.cells_eq K,Ex.cells_eq e,hu]
theorem root_union {l:List UInt8} (hl:l.length≤2000) {ws:List Int} {k:Nat} {d j c2:Nat} {p u t v W kk p1 u1:Int} {j1:Nat} {K:Pn} (hd:d<100) (h1:p1+400+c2<300000000) (hp1:0≤p1) (hu0:0≤u1) (hu1:u1≤1) (hW0:0≤W) (hW6:W≤6) (hKB:Th K j j1 u u1)
 (ht:callA C0 98 [.own 0 0, .int k] [Rd l p]=some (.int t,[Rd l (p+1)])) (hv:callA C0 98 [.own 0 0, .int 6] [Rd l (p+1)]=some (.int v,[Rd l (p+1+1)])) (v0:¬ v=0)
 (hkid:callA CP 119 [.own 0 0, .int d] (PSt l ws k j u (p+1+1))=some (.i (.agg K.cells),PSt l ws k j1 u1 p1))
 (hW:callA CP 102 [.i (.agg K.cells), .osl 0 1 0 k, .int 8] [some (.arr 1 (intsL ws))]=some (.int W,[some (.arr 1 (intsL ws))]))
 (hkk:callA C0 98 [.own 0 0, .int 10] [Rd l p1]=some (.int kk,[Rd l (p1+1)])) (hu:0<u1) (hq:kk=7):∃ (P:Pn) (p' u':Int) (j':Nat),bodyA CQ true 119 [.own 0 0, .int ((d+1:Nat):Int)] (PSt l ws k j u p)=some (rX 3 P,PSt l ws k j' u' p'++rS P)∧Th P j j' u u'∧p1≤p'∧p'≤p1+400+c2∧j'≤j1∧0≤u'∧u'≤1∧P.exprs.length≤2∧P.cols.length≤1:=by
 have we:IntKind.i64.wrap (d:Int)=d:=wrap64 (by omega) (by omega)
 have hK:=hKB.1
 have wn:¬ ((d:Int)+1=0):=by omega
 simp only[PSt]at hkid
 rw[Pn.cells_eq K]at hkid hW
 obtain⟨e,p2,he,a1,a2,a3⟩:=randomCondition_eq l hl W (p1+1) (by omega) (by omega)
 have hf:=filterOf_own e K
 have hc:=cp_copyPlan K hK
 have wu:IntKind.i64.wrap (u1-1)=u1-1:=wrap64 (by omega) (by omega)
 rw[Pn.cells_eq K,Ex.cells_eq e]at hf
 rw[Pn.cells_eq K]at hc
 rw[Ex.cells_eq e]at he
 refine⟨.mk 6 0 [] [] [K,filtP e K],p2,u1-1,j1,?_,Th.un (by have:=filtP_thin (e:=e) (by omega) hK;unfold filtP at this;simp[Pn.thin,Pn.thinL,hK]at this ⊢;exact this) hKB,by omega,by omega,by omega,by omega,by omega,by simp[filtP,Pn.scan],by simp[filtP,Pn.scan]⟩
 rw[bodyA_eq Tryz.func119 rfl rfl]
 simp[PSt,ht,hv,v0,we,hkid,hW,hkk,wn,hq,rX,rS,bl,he,hf,filtP,Ex.cellsL,intsL,Pn.cellsL,Pn.cells_eq K,Ex.cells_eq e,hu,hc,wu,Pn.cells_mk,Ex.cellsL,intsL,Pn.cellsL]
theorem root_group1 {l:List UInt8} (hl:l.length≤2000) {ws:List Int} {k:Nat} {d j c2:Nat} {p u t v W kk p1 u1:Int} {j1:Nat} {K:Pn} (hd:d<100) (h1:p1+400+c2<300000000) (hp1:0≤p1) (hu0:0≤u1) (hu1:u1≤1) (hW0:0≤W) (hW6:W≤6) (hKB:Th K j j1 u u1)
 (ht:callA C0 98 [.own 0 0, .int k] [Rd l p]=some (.int t,[Rd l (p+1)])) (hv:callA C0 98 [.own 0 0, .int 6] [Rd l (p+1)]=some (.int v,[Rd l (p+1+1)])) (v0:¬ v=0)
 (hkid:callA CP 119 [.own 0 0, .int d] (PSt l ws k j u (p+1+1))=some (.i (.agg K.cells),PSt l ws k j1 u1 p1))
 (hW:callA CP 102 [.i (.agg K.cells), .osl 0 1 0 k, .int 8] [some (.arr 1 (intsL ws))]=some (.int W,[some (.arr 1 (intsL ws))]))
 (hkk:callA C0 98 [.own 0 0, .int 10] [Rd l p1]=some (.int kk,[Rd l (p1+1)])) (hw1:¬ 1<W) (hq:kk=9):∃ (P:Pn) (p' u':Int) (j':Nat),bodyA CQ true 119 [.own 0 0, .int ((d+1:Nat):Int)] (PSt l ws k j u p)=some (rX 3 P,PSt l ws k j' u' p'++rS P)∧Th P j j' u u'∧p1≤p'∧p'≤p1+400+c2∧j'≤j1∧0≤u'∧u'≤1∧P.exprs.length≤2∧P.cols.length≤1:=by
 have we:IntKind.i64.wrap (d:Int)=d:=wrap64 (by omega) (by omega)
 have hK:=hKB.1
 have wn:¬ ((d:Int)+1=0):=by omega
 simp only[PSt]at hkid
 rw[Pn.cells_eq K]at hkid hW
 refine⟨.mk 8 0 [] [] [K],p1+1,u1,j1,?_,Th.one (by simp[Pn.thin,Pn.thinL,hK]) hKB,by omega,by omega,by omega,by omega,by omega,by simp[filtP,Pn.scan],by simp[filtP,Pn.scan]⟩
 rw[bodyA_eq Tryz.func119 rfl rfl]
 simp[PSt,ht,hv,v0,we,hkid,hW,hkk,wn,hq,rX,rS,bl,hw1,Pn.cells_mk,Ex.cellsL,intsL,Pn.cellsL,Pn.cells_eq K]
theorem root_group2 {l:List UInt8} (hl:l.length≤2000) {ws:List Int} {k:Nat} {d j c2:Nat} {p u t v W kk p1 u1:Int} {j1:Nat} {K:Pn} (hd:d<100) (h1:p1+400+c2<300000000) (hp1:0≤p1) (hu0:0≤u1) (hu1:u1≤1) (hW0:0≤W) (hW6:W≤6) (hKB:Th K j j1 u u1)
 (ht:callA C0 98 [.own 0 0, .int k] [Rd l p]=some (.int t,[Rd l (p+1)])) (hv:callA C0 98 [.own 0 0, .int 6] [Rd l (p+1)]=some (.int v,[Rd l (p+1+1)])) (v0:¬ v=0)
 (hkid:callA CP 119 [.own 0 0, .int d] (PSt l ws k j u (p+1+1))=some (.i (.agg K.cells),PSt l ws k j1 u1 p1))
 (hW:callA CP 102 [.i (.agg K.cells), .osl 0 1 0 k, .int 8] [some (.arr 1 (intsL ws))]=some (.int W,[some (.arr 1 (intsL ws))]))
 (hkk:callA C0 98 [.own 0 0, .int 10] [Rd l p1]=some (.int kk,[Rd l (p1+1)])) (hw1:1<W) (hq:kk=9):∃ (P:Pn) (p' u':Int) (j':Nat),bodyA CQ true 119 [.own 0 0, .int ((d+1:Nat):Int)] (PSt l ws k j u p)=some (rX 3 P,PSt l ws k j' u' p'++rS P)∧Th P j j' u u'∧p1≤p'∧p'≤p1+400+c2∧j'≤j1∧0≤u'∧u'≤1∧P.exprs.length≤2∧P.cols.length≤1:=by
 have we:IntKind.i64.wrap (d:Int)=d:=wrap64 (by omega) (by omega)
 have hK:=hKB.1
 have wn:¬ ((d:Int)+1=0):=by omega
 simp only[PSt]at hkid
 rw[Pn.cells_eq K]at hkid hW
 obtain⟨g,hg,-,-⟩:=pick_eq l (p1+1) W (by omega) (by omega) hl
 refine⟨.mk 8 0 [] [g] [K],p1+1+1,u1,j1,?_,Th.one (by simp[Pn.thin,Pn.thinL,hK]) hKB,by omega,by omega,by omega,by omega,by omega,by simp[filtP,Pn.scan],by simp[filtP,Pn.scan]⟩
 rw[bodyA_eq Tryz.func119 rfl rfl]
 simp[PSt,ht,hv,v0,we,hkid,hW,hkk,wn,hq,rX,rS,bl,hg,hw1,Pn.cells_mk,Ex.cellsL,intsL,Pn.cellsL,Pn.cells_eq K]
theorem root_join5 {l:List UInt8} (hl:l.length≤2000) {ws:List Int} (hw:∀ w∈ws,0≤w∧w≤6) (hwl:ws.length<1000000) {k:Nat} (hk0:0<k) (hkl:k≤ws.length) {d j c2:Nat} {p u t v W kk p1 u1:Int} {j1:Nat} {K:Pn} (hd:d<100) (h1:p1+400+c2<300000000) (hp1:0≤p1) (hu0:0≤u1) (hu1:u1≤1) (hW0:0≤W) (hW6:W≤6) (hKB:Th K j j1 u u1)
 (ht:callA C0 98 [.own 0 0, .int k] [Rd l p]=some (.int t,[Rd l (p+1)])) (hv:callA C0 98 [.own 0 0, .int 6] [Rd l (p+1)]=some (.int v,[Rd l (p+1+1)])) (v0:¬ v=0)
 (hkid:callA CP 119 [.own 0 0, .int d] (PSt l ws k j u (p+1+1))=some (.i (.agg K.cells),PSt l ws k j1 u1 p1))
 (hW:callA CP 102 [.i (.agg K.cells), .osl 0 1 0 k, .int 8] [some (.arr 1 (intsL ws))]=some (.int W,[some (.arr 1 (intsL ws))]))
 (hkk:callA C0 98 [.own 0 0, .int 10] [Rd l p1]=some (.int kk,[Rd l (p1+1)])) (hj:j1≠0) (hjb:j1<1000) (hw4:W≤4) (hoth:∀ y:Nat,y≤1→PlanOk l ws k y (j1-1) c2) (hq:kk=5):∃ (P:Pn) (p' u':Int) (j':Nat),bodyA CQ true 119 [.own 0 0, .int ((d+1:Nat):Int)] (PSt l ws k j u p)=some (rX 3 P,PSt l ws k j' u' p'++rS P)∧Th P j j' u u'∧p1≤p'∧p'≤p1+400+c2∧j'≤j1∧0≤u'∧u'≤1∧P.exprs.length≤2∧P.cols.length≤1:=by
 have we:IntKind.i64.wrap (d:Int)=d:=wrap64 (by omega) (by omega)
 have hK:=hKB.1
 have wn:¬ ((d:Int)+1=0):=by omega
 simp only[PSt]at hkid
 rw[Pn.cells_eq K]at hkid hW
 have hj':0<j1:=by omega
 have wj:IntKind.i64.wrap ((j1:Int)-1)=((j1-1:Nat):Int):=by rw[wrap64 (by omega) (by omega)];omega
 obtain⟨x,hx,hx1,-⟩:=pick_eq l (p1+1) 2 (by omega) (by omega) hl
 obtain⟨x0,x1⟩:=hx1 (by omega)
 obtain⟨y,rfl⟩:∃ y:Nat,x=y:=⟨x.toNat,by omega⟩
 obtain⟨O,p2,u2,j2,hO,hOt,b1,b2,b3,b4,b5⟩:=hoth y (by omega) (p1+1+1) u1 (by omega) (by omega) hu0 hu1
 have hV:=splanWidth_own hw hwl hk0 hkl O hOt.1
 have hVr:=Pn.wd_range (ws:=ws.take k) (fun w hm=>hw w (List.mem_of_mem_take hm)) O 8
 generalize O.wd (ws.take k) 8=V at hV hVr
 have wv:IntKind.i64.wrap (W+V)=W+V:=wrap64 (by omega) (by omega)
 simp only[PSt]at hO
 rw[Pn.cells_eq O]at hO hV
 by_cases hs:W+V≤6
 ·have h1:=one_eq l p2 (by omega) (by omega) hl [[.int 4],[.int 5]] (by simp) (by simp) (by simp)
  obtain⟨z,hz,hzm⟩:=h1
  obtain⟨e,p3,he,a1,a2,a3⟩:=randomCondition_eq l hl (W+V) (p2+1) (by omega) (by omega)
  rw[Ex.cells_eq e]at he
  simp only[List.length_cons,List.length_nil,Nat.zero_add,Nat.reduceAdd]at hz
  have het:=Ex.thin_of_size e (by omega)
  refine⟨.mk z 0 [e] [] [K,O],p3,u2,j2,?_,Th.jn (by simp[Pn.thin,Pn.thinL,hK,hOt.1,het]) hj hKB hOt,by omega,by omega,by omega,by omega,by omega,by simp[filtP,Pn.scan],by simp[filtP,Pn.scan]⟩
  rw[bodyA_eq Tryz.func119 rfl rfl]
  simp[PSt,ht,hv,v0,we,hkid,hW,hkk,wn,hq,hj',hj,hw4,wj,hx,hO,hV,wv,hs,hz,he,rX,rS,bl,Pn.cells_mk,Ex.cellsL,intsL,Pn.cellsL,Pn.cells_eq K,Pn.cells_eq O,Ex.cells_eq e]
 ·obtain⟨e,p3,he,a1,a2,a3⟩:=randomCondition_eq l hl W p2 (by omega) (by omega)
  have hf:=filterOf_own e K
  rw[Pn.cells_eq K,Ex.cells_eq e]at hf
  rw[Ex.cells_eq e]at he
  refine⟨filtP e K,p3,u2,j2,?_,Th.skip (filtP_thin (by omega) hK) hKB (by omega) hOt.2.1.2.1,by omega,by omega,by omega,by omega,by omega,by simp[filtP,Pn.scan],by simp[filtP,Pn.scan]⟩
  rw[bodyA_eq Tryz.func119 rfl rfl]
  simp[PSt,ht,hv,v0,we,hkid,hW,hkk,wn,hq,hj',hj,hw4,wj,hx,hO,hV,wv,hs,rX,rS,bl,he,hf,filtP,Ex.cellsL,intsL,Pn.cellsL,Pn.cells_eq K,Ex.cells_eq e]
theorem root_join6 {l:List UInt8} (hl:l.length≤2000) {ws:List Int} (hw:∀ w∈ws,0≤w∧w≤6) (hwl:ws.length<1000000) {k:Nat} (hk0:0<k) (hkl:k≤ws.length) {d j c2:Nat} {p u t v W kk p1 u1:Int} {j1:Nat} {K:Pn} (hd:d<100) (h1:p1+400+c2<300000000) (hp1:0≤p1) (hu0:0≤u1) (hu1:u1≤1) (hW0:0≤W) (hW6:W≤6) (hKB:Th K j j1 u u1)
 (ht:callA C0 98 [.own 0 0, .int k] [Rd l p]=some (.int t,[Rd l (p+1)])) (hv:callA C0 98 [.own 0 0, .int 6] [Rd l (p+1)]=some (.int v,[Rd l (p+1+1)])) (v0:¬ v=0)
 (hkid:callA CP 119 [.own 0 0, .int d] (PSt l ws k j u (p+1+1))=some (.i (.agg K.cells),PSt l ws k j1 u1 p1))
 (hW:callA CP 102 [.i (.agg K.cells), .osl 0 1 0 k, .int 8] [some (.arr 1 (intsL ws))]=some (.int W,[some (.arr 1 (intsL ws))]))
 (hkk:callA C0 98 [.own 0 0, .int 10] [Rd l p1]=some (.int kk,[Rd l (p1+1)])) (hj:j1≠0) (hjb:j1<1000) (hw4:W≤4) (hoth:∀ y:Nat,y≤1→PlanOk l ws k y (j1-1) c2) (hq:kk=6):∃ (P:Pn) (p' u':Int) (j':Nat),bodyA CQ true 119 [.own 0 0, .int ((d+1:Nat):Int)] (PSt l ws k j u p)=some (rX 3 P,PSt l ws k j' u' p'++rS P)∧Th P j j' u u'∧p1≤p'∧p'≤p1+400+c2∧j'≤j1∧0≤u'∧u'≤1∧P.exprs.length≤2∧P.cols.length≤1:=by
 have we:IntKind.i64.wrap (d:Int)=d:=wrap64 (by omega) (by omega)
 have hK:=hKB.1
 have wn:¬ ((d:Int)+1=0):=by omega
 simp only[PSt]at hkid
 rw[Pn.cells_eq K]at hkid hW
 have hj':0<j1:=by omega
 have wj:IntKind.i64.wrap ((j1:Int)-1)=((j1-1:Nat):Int):=by rw[wrap64 (by omega) (by omega)];omega
 obtain⟨x,hx,hx1,-⟩:=pick_eq l (p1+1) 2 (by omega) (by omega) hl
 obtain⟨x0,x1⟩:=hx1 (by omega)
 obtain⟨y,rfl⟩:∃ y:Nat,x=y:=⟨x.toNat,by omega⟩
 obtain⟨O,p2,u2,j2,hO,hOt,b1,b2,b3,b4,b5⟩:=hoth y (by omega) (p1+1+1) u1 (by omega) (by omega) hu0 hu1
 have hV:=splanWidth_own hw hwl hk0 hkl O hOt.1
 have hVr:=Pn.wd_range (ws:=ws.take k) (fun w hm=>hw w (List.mem_of_mem_take hm)) O 8
 generalize O.wd (ws.take k) 8=V at hV hVr
 have wv:IntKind.i64.wrap (W+V)=W+V:=wrap64 (by omega) (by omega)
 simp only[PSt]at hO
 rw[Pn.cells_eq O]at hO hV
 by_cases hs:W+V≤6
 ·have h1:=one_eq l p2 (by omega) (by omega) hl [[.int 4],[.int 5]] (by simp) (by simp) (by simp)
  obtain⟨z,hz,hzm⟩:=h1
  obtain⟨e,p3,he,a1,a2,a3⟩:=randomCondition_eq l hl (W+V) (p2+1) (by omega) (by omega)
  rw[Ex.cells_eq e]at he
  simp only[List.length_cons,List.length_nil,Nat.zero_add,Nat.reduceAdd]at hz
  have het:=Ex.thin_of_size e (by omega)
  refine⟨.mk z 0 [e] [] [K,O],p3,u2,j2,?_,Th.jn (by simp[Pn.thin,Pn.thinL,hK,hOt.1,het]) hj hKB hOt,by omega,by omega,by omega,by omega,by omega,by simp[filtP,Pn.scan],by simp[filtP,Pn.scan]⟩
  rw[bodyA_eq Tryz.func119 rfl rfl]
  simp[PSt,ht,hv,v0,we,hkid,hW,hkk,wn,hq,hj',hj,hw4,wj,hx,hO,hV,wv,hs,hz,he,rX,rS,bl,Pn.cells_mk,Ex.cellsL,intsL,Pn.cellsL,Pn.cells_eq K,Pn.cells_eq O,Ex.cells_eq e]
 ·obtain⟨e,p3,he,a1,a2,a3⟩:=randomCondition_eq l hl W p2 (by omega) (by omega)
  have hf:=filterOf_own e K
  rw[Pn.cells_eq K,Ex.cells_eq e]at hf
  rw[Ex.cells_eq e]at he
  refine⟨filtP e K,p3,u2,j2,?_,Th.skip (filtP_thin (by omega) hK) hKB (by omega) hOt.2.1.2.1,by omega,by omega,by omega,by omega,by omega,by simp[filtP,Pn.scan],by simp[filtP,Pn.scan]⟩
  rw[bodyA_eq Tryz.func119 rfl rfl]
  simp[PSt,ht,hv,v0,we,hkid,hW,hkk,wn,hq,hj',hj,hw4,wj,hx,hO,hV,wv,hs,rX,rS,bl,he,hf,filtP,Ex.cellsL,intsL,Pn.cellsL,Pn.cells_eq K,Ex.cells_eq e]
theorem root_proj3 {l:List UInt8} (hl:l.length≤2000) {ws:List Int} {k:Nat} {d j c2:Nat} {p u t v W kk p1 u1:Int} {j1:Nat} {K:Pn} (hd:d<100) (h1:p1+400+c2<300000000) (hp1:0≤p1) (hu0:0≤u1) (hu1:u1≤1) (hW0:0≤W) (hW6:W≤6) (hKB:Th K j j1 u u1)
 (ht:callA C0 98 [.own 0 0, .int k] [Rd l p]=some (.int t,[Rd l (p+1)])) (hv:callA C0 98 [.own 0 0, .int 6] [Rd l (p+1)]=some (.int v,[Rd l (p+1+1)])) (v0:¬ v=0)
 (hkid:callA CP 119 [.own 0 0, .int d] (PSt l ws k j u (p+1+1))=some (.i (.agg K.cells),PSt l ws k j1 u1 p1))
 (hW:callA CP 102 [.i (.agg K.cells), .osl 0 1 0 k, .int 8] [some (.arr 1 (intsL ws))]=some (.int W,[some (.arr 1 (intsL ws))]))
 (hkk:callA C0 98 [.own 0 0, .int 10] [Rd l p1]=some (.int kk,[Rd l (p1+1)])) (hq:kk=3):∃ (P:Pn) (p' u':Int) (j':Nat),bodyA CQ true 119 [.own 0 0, .int ((d+1:Nat):Int)] (PSt l ws k j u p)=some (rX 3 P,PSt l ws k j' u' p'++rS P)∧Th P j j' u u'∧p1≤p'∧p'≤p1+400+c2∧j'≤j1∧0≤u'∧u'≤1∧P.exprs.length≤2∧P.cols.length≤1:=by
 have we:IntKind.i64.wrap (d:Int)=d:=wrap64 (by omega) (by omega)
 have hK:=hKB.1
 have wn:¬ ((d:Int)+1=0):=by omega
 simp only[PSt]at hkid
 rw[Pn.cells_eq K]at hkid hW
 obtain⟨m,hm,hm1,-⟩:=pick_eq l (p1+1) 2 (by omega) (by omega) hl
 obtain⟨m0,m1⟩:=hm1 (by omega)
 have w2:IntKind.i64.wrap (2:Int)=2:=wrap64 (by omega) (by omega)
 have w1:=wrap_1
 have w0:IntKind.i64.wrap (0:Int)=0:=wrap64 (by omega) (by omega)
 obtain⟨x1,hx1,hy1,-⟩:=pick_eq l (p1+1+1) 2 (by omega) (by omega) hl
 obtain⟨x1a,x1b⟩:=hy1 (by omega)
 obtain⟨y1,rfl⟩:∃ y:Nat,x1=y:=⟨x1.toNat,by omega⟩
 have hc1:costE y1≤9:=by rcases(show y1=0∨y1=1 by omega)with h|h<;>simp[h,costE]
 obtain⟨e1,q1,he1,c1a,c1b,c1c⟩:=rE l hl W y1 (by omega) (by omega) ((p1+1+1)+1) (by omega) (by omega)
 rw[Ex.cells_eq e1]at he1
 have t1:=Ex.thin_of_size e1 (by omega)
 rcases(show m=0∨m=1 by omega)with rfl|rfl
 ·refine⟨.mk 3 0 [e1] [] [K],q1,u1,j1,?_,Th.one (by simp[Pn.thin,Pn.thinL,hK,t1]) hKB,by omega,by omega,by omega,by omega,by omega,by simp[filtP,Pn.scan],by simp[filtP,Pn.scan]⟩
  rw[bodyA_eq Tryz.func119 rfl rfl]
  simp[PSt,ht,hv,v0,we,hkid,hW,hkk,wn,hq,hm,w1]
  rw[execA_loop];simp[hx1,he1,w0]
  rw[execA_loop];simp[rX,rS,bl,Pn.cells_mk,Ex.cellsL,intsL,Pn.cellsL,Pn.cells_eq K,Ex.cells_eq e1,PSt]
 ·obtain⟨x2,hx2,hy2,-⟩:=pick_eq l q1 2 (by omega) (by omega) hl
  obtain⟨x2a,x2b⟩:=hy2 (by omega)
  obtain⟨y2,rfl⟩:∃ y:Nat,x2=y:=⟨x2.toNat,by omega⟩
  have hc2:costE y2≤9:=by rcases(show y2=0∨y2=1 by omega)with h|h<;>simp[h,costE]
  obtain⟨e2,q2,he2,c2a,c2b,c2c⟩:=rE l hl W y2 (by omega) (by omega) (q1+1) (by omega) (by omega)
  rw[Ex.cells_eq e2]at he2
  have t2:=Ex.thin_of_size e2 (by omega)
  refine⟨.mk 3 0 [e1,e2] [] [K],q2,u1,j1,?_,Th.one (by simp[Pn.thin,Pn.thinL,hK,t1,t2]) hKB,by omega,by omega,by omega,by omega,by omega,by simp[filtP,Pn.scan],by simp[filtP,Pn.scan]⟩
  rw[bodyA_eq Tryz.func119 rfl rfl]
  simp[PSt,ht,hv,v0,we,hkid,hW,hkk,wn,hq,hm,w2]
  rw[execA_loop];simp[hx1,he1,w1]
  rw[execA_loop];simp[hx2,he2,w0]
  rw[execA_loop];simp[rX,rS,bl,Pn.cells_mk,Ex.cellsL,intsL,Pn.cellsL,Pn.cells_eq K,Ex.cells_eq e1,Ex.cells_eq e2,PSt]
theorem root_proj4 {l:List UInt8} (hl:l.length≤2000) {ws:List Int} {k:Nat} {d j c2:Nat} {p u t v W kk p1 u1:Int} {j1:Nat} {K:Pn} (hd:d<100) (h1:p1+400+c2<300000000) (hp1:0≤p1) (hu0:0≤u1) (hu1:u1≤1) (hW0:0≤W) (hW6:W≤6) (hKB:Th K j j1 u u1)
 (ht:callA C0 98 [.own 0 0, .int k] [Rd l p]=some (.int t,[Rd l (p+1)])) (hv:callA C0 98 [.own 0 0, .int 6] [Rd l (p+1)]=some (.int v,[Rd l (p+1+1)])) (v0:¬ v=0)
 (hkid:callA CP 119 [.own 0 0, .int d] (PSt l ws k j u (p+1+1))=some (.i (.agg K.cells),PSt l ws k j1 u1 p1))
 (hW:callA CP 102 [.i (.agg K.cells), .osl 0 1 0 k, .int 8] [some (.arr 1 (intsL ws))]=some (.int W,[some (.arr 1 (intsL ws))]))
 (hkk:callA C0 98 [.own 0 0, .int 10] [Rd l p1]=some (.int kk,[Rd l (p1+1)])) (hq:kk=4):∃ (P:Pn) (p' u':Int) (j':Nat),bodyA CQ true 119 [.own 0 0, .int ((d+1:Nat):Int)] (PSt l ws k j u p)=some (rX 3 P,PSt l ws k j' u' p'++rS P)∧Th P j j' u u'∧p1≤p'∧p'≤p1+400+c2∧j'≤j1∧0≤u'∧u'≤1∧P.exprs.length≤2∧P.cols.length≤1:=by
 have we:IntKind.i64.wrap (d:Int)=d:=wrap64 (by omega) (by omega)
 have hK:=hKB.1
 have wn:¬ ((d:Int)+1=0):=by omega
 simp only[PSt]at hkid
 rw[Pn.cells_eq K]at hkid hW
 obtain⟨m,hm,hm1,-⟩:=pick_eq l (p1+1) 2 (by omega) (by omega) hl
 obtain⟨m0,m1⟩:=hm1 (by omega)
 have w2:IntKind.i64.wrap (2:Int)=2:=wrap64 (by omega) (by omega)
 have w1:=wrap_1
 have w0:IntKind.i64.wrap (0:Int)=0:=wrap64 (by omega) (by omega)
 obtain⟨x1,hx1,hy1,-⟩:=pick_eq l (p1+1+1) 2 (by omega) (by omega) hl
 obtain⟨x1a,x1b⟩:=hy1 (by omega)
 obtain⟨y1,rfl⟩:∃ y:Nat,x1=y:=⟨x1.toNat,by omega⟩
 have hc1:costE y1≤9:=by rcases(show y1=0∨y1=1 by omega)with h|h<;>simp[h,costE]
 obtain⟨e1,q1,he1,c1a,c1b,c1c⟩:=rE l hl W y1 (by omega) (by omega) ((p1+1+1)+1) (by omega) (by omega)
 rw[Ex.cells_eq e1]at he1
 have t1:=Ex.thin_of_size e1 (by omega)
 rcases(show m=0∨m=1 by omega)with rfl|rfl
 ·refine⟨.mk 3 0 [e1] [] [K],q1,u1,j1,?_,Th.one (by simp[Pn.thin,Pn.thinL,hK,t1]) hKB,by omega,by omega,by omega,by omega,by omega,by simp[filtP,Pn.scan],by simp[filtP,Pn.scan]⟩
  rw[bodyA_eq Tryz.func119 rfl rfl]
  simp[PSt,ht,hv,v0,we,hkid,hW,hkk,wn,hq,hm,w1]
  rw[execA_loop];simp[hx1,he1,w0]
  rw[execA_loop];simp[rX,rS,bl,Pn.cells_mk,Ex.cellsL,intsL,Pn.cellsL,Pn.cells_eq K,Ex.cells_eq e1,PSt]
 ·obtain⟨x2,hx2,hy2,-⟩:=pick_eq l q1 2 (by omega) (by omega) hl
  obtain⟨x2a,x2b⟩:=hy2 (by omega)
  obtain⟨y2,rfl⟩:∃ y:Nat,x2=y:=⟨x2.toNat,by omega⟩
  have hc2:costE y2≤9:=by rcases(show y2=0∨y2=1 by omega)with h|h<;>simp[h,costE]
  obtain⟨e2,q2,he2,c2a,c2b,c2c⟩:=rE l hl W y2 (by omega) (by omega) (q1+1) (by omega) (by omega)
  rw[Ex.cells_eq e2]at he2
  have t2:=Ex.thin_of_size e2 (by omega)
  refine⟨.mk 3 0 [e1,e2] [] [K],q2,u1,j1,?_,Th.one (by simp[Pn.thin,Pn.thinL,hK,t1,t2]) hKB,by omega,by omega,by omega,by omega,by omega,by simp[filtP,Pn.scan],by simp[filtP,Pn.scan]⟩
  rw[bodyA_eq Tryz.func119 rfl rfl]
  simp[PSt,ht,hv,v0,we,hkid,hW,hkk,wn,hq,hm,w2]
  rw[execA_loop];simp[hx1,he1,w1]
  rw[execA_loop];simp[hx2,he2,w0]
  rw[execA_loop];simp[rX,rS,bl,Pn.cells_mk,Ex.cellsL,intsL,Pn.cellsL,Pn.cells_eq K,Ex.cells_eq e1,Ex.cells_eq e2,PSt]
theorem root_step {l:List UInt8} (hl:l.length≤2000) {ws:List Int} (hw:∀ w∈ws,0≤w∧w≤6) (hwl:ws.length<1000000) {k:Nat} (hk0:0<k) (hkl:k≤ws.length) {d j c c2:Nat} (hd:d<100) (hjb:j<1000) (ih:PlanOk l ws k d j c) (hoth:∀ i:Nat,i<j→∀ y:Nat,y≤1→PlanOk l ws k y i c2):RootOk l ws k (d+1) j (c+c2+500):=by
 intro p u h0 h1 hu0 hu1
 obtain⟨t,ht,-,-⟩:=pick_eq l p k h0 (by omega) hl
 obtain⟨v,hv,-,-⟩:=pick_eq l (p+1) 6 (by omega) (by omega) hl
 by_cases v0:v=0
 ·subst v0
  exact⟨.scan t,p+1+1,u,j,root_scan hd ht hv,Th.scan (Pn.scan_thin t) _ _,by omega,by omega,by omega,by omega,by omega,by simp[Pn.scan],by simp[Pn.scan]⟩
 obtain⟨K,p1,u1,j1,hkid,hK,a1,a2,a3,a4,a5⟩:=ih (p+1+1) u (by omega) (by omega) hu0 hu1
 have hW:=splanWidth_own hw hwl hk0 hkl K hK.1
 have hWr:=Pn.wd_range (ws:=ws.take k) (fun w hm=>hw w (List.mem_of_mem_take hm)) K 8
 generalize K.wd (ws.take k) 8=W at hW hWr
 obtain⟨kk,hkk,hkk1,-⟩:=pick_eq l p1 10 (by omega) (by omega) hl
 obtain⟨kk0,kk9⟩:=hkk1 (by omega)
 suffices H:∃ (P:Pn) (p' u':Int) (j':Nat),bodyA CQ true 119 [.own 0 0, .int ((d+1:Nat):Int)] (PSt l ws k j u p)=some (rX 3 P,PSt l ws k j' u' p'++rS P)∧Th P j j' u u'∧p1≤p'∧p'≤p1+400+c2∧j'≤j1∧0≤u'∧u'≤1∧P.exprs.length≤2∧P.cols.length≤1 by
  obtain⟨P,p',u',j',b1,b2,b3,b4,b5,b6,b7,b8⟩:=H
  exact⟨P,p',u',j',b1,b2,by omega,by omega,by omega,b6,b7,b8⟩
 have hb:p1+400+c2<300000000:=by omega
 have hp1:0≤p1:=by omega
 by_cases q0:kk=0
 ·exact root_filter0 hl hd hb hp1 a4 a5 hWr.1 hWr.2 hK ht hv v0 hkid hW hkk q0
 by_cases q1:kk=1
 ·exact root_filter1 hl hd hb hp1 a4 a5 hWr.1 hWr.2 hK ht hv v0 hkid hW hkk q1
 by_cases q2:kk=2
 ·exact root_filter2 hl hd hb hp1 a4 a5 hWr.1 hWr.2 hK ht hv v0 hkid hW hkk q2
 by_cases q3:kk=3
 ·exact root_proj3 hl hd hb hp1 a4 a5 hWr.1 hWr.2 hK ht hv v0 hkid hW hkk q3
 by_cases q4:kk=4
 ·exact root_proj4 hl hd hb hp1 a4 a5 hWr.1 hWr.2 hK ht hv v0 hkid hW hkk q4
 by_cases q5:kk=5
 ·by_cases hj:j1=0
  ·exact root_nojoin5 hl hd hb hp1 a4 a5 hWr.1 hWr.2 hK ht hv v0 hkid hW hkk hj q5
  by_cases hw4:W≤4
  ·exact root_join5 hl hw hwl hk0 hkl hd hb hp1 a4 a5 hWr.1 hWr.2 hK ht hv v0 hkid hW hkk hj (by omega) hw4 (fun y hy=>hoth (j1-1) (by omega) y hy) q5
  ·exact root_wide5 hl hd hb hp1 a4 a5 hWr.1 hWr.2 hK ht hv v0 hkid hW hkk hj hw4 q5
 by_cases q6:kk=6
 ·by_cases hj:j1=0
  ·exact root_nojoin6 hl hd hb hp1 a4 a5 hWr.1 hWr.2 hK ht hv v0 hkid hW hkk hj q6
  by_cases hw4:W≤4
  ·exact root_join6 hl hw hwl hk0 hkl hd hb hp1 a4 a5 hWr.1 hWr.2 hK ht hv v0 hkid hW hkk hj (by omega) hw4 (fun y hy=>hoth (j1-1) (by omega) y hy) q6
  ·exact root_wide6 hl hd hb hp1 a4 a5 hWr.1 hWr.2 hK ht hv v0 hkid hW hkk hj hw4 q6
 by_cases q7:kk=7
 ·by_cases hu:0<u1
  ·exact root_union hl hd hb hp1 a4 a5 hWr.1 hWr.2 hK ht hv v0 hkid hW hkk hu q7
  ·exact root_nounion hl hd hb hp1 a4 a5 hWr.1 hWr.2 hK ht hv v0 hkid hW hkk hu q7
 by_cases q8:kk=8
 ·exact root_distinct hl hd hb hp1 a4 a5 hWr.1 hWr.2 hK ht hv v0 hkid hW hkk q8
 have q9:kk=9:=by omega
 by_cases hw1:1<W
 ·exact root_group2 hl hd hb hp1 a4 a5 hWr.1 hWr.2 hK ht hv v0 hkid hW hkk hw1 q9
 ·exact root_group1 hl hd hb hp1 a4 a5 hWr.1 hWr.2 hK ht hv v0 hkid hW hkk hw1 q9
theorem RootOk.le {l:List UInt8} {ws:List Int} {k:Nat} {d j c c':Nat} (h:RootOk l ws k d j c) (hc:c≤c'):RootOk l ws k d j c':=by
 intro p u h0 h1 hu0 hu1
 obtain⟨P,p',u',j',b1,b2,b3,b4,b5,b6,b7,b8⟩:=h p u h0 (by omega) hu0 hu1
 exact⟨P,p',u',j',b1,b2,b3,by omega,b5,b6,b7,b8⟩
theorem root_one {l:List UInt8} (hl:l.length≤2000) {ws:List Int} (hw:∀ w∈ws,0≤w∧w≤6) (hwl:ws.length<1000000) {k:Nat} (hk0:0<k) (hkl:k≤ws.length) (d:Nat) (h:d+1<50):RootOk l ws k (d+1) 1 (2000*(d+1)+1) :=
 (root_step hl hw hwl hk0 hkl (c2:=501) (by omega) (by omega) (plan_one hl hw hwl hk0 hkl d (by omega)) (fun i hi y hy=>by
  obtain rfl:i=0:=by omega
  exact(plan_none hl hw hwl hk0 hkl y (by omega)).le (by omega))).le (by omega)
@[simp] theorem cr_plan (a:List AV) (st:StL):callA CR 119 a st=bodyA CQ true 119 a st:=by rw[callA_prim (p:=bodyA CQ true 119) rfl]
@[simp] theorem cr_filterOf (a:List AV) (st:StL):callA CR 121 a st=bodyA C0 true 121 a st:=by rw[callA_prim (p:=bodyA C0 true 121) rfl]
@[simp] theorem cr_planWidth (a:List AV) (st:StL):callA CR 102 a st=lookX (callA C0) 102 a st:=by rw[callA_prim (p:=lookX (callA C0) 102) rfl]
@[simp] theorem cr_pick (a:List AV) (st:StL):callA CR 98 a st=callA C0 98 a st:=by rw[callA_prim (p:=callA C0 98) rfl]
@[simp] theorem cr_one (a:List AV) (st:StL):callA CR 124 a st=callA C0 124 a st:=by rw[callA_prim (p:=callA C0 124) rfl]
@[simp] theorem cr_cond (a:List AV) (st:StL):callA CR 122 a st=callA C0 122 a st:=by rw[callA_prim (p:=callA C0 122) rfl]
@[simp] theorem cr_anyExpr (a:List AV) (st:StL):callA CR 144 a st=callA C0 144 a st:=by rw[callA_prim (p:=callA C0 144) rfl]
theorem list_nil {α:Type} (l:List α):l=[]∨(l.length≠0∧l≠[]∧0<l.length):=by cases l<;>simp
theorem randomPlan_root {l:List UInt8} (hl:l.length≤2000) {ws:List Int} (hw:∀ w∈ws,0≤w∧w≤6) (hwl:ws.length<1000000) (hk0:0<ws.length) (p:Int) (h0:0≤p) (h1:p+20000<200000000):∃ (P:Pn) (p':Int),
 callA CR 120 [.own 0 0, .osl 1 1 0 ws.length] [Rd l p,some (.arr 1 (intsL ws))]=some (rX 2 P,[Rd l p',some (.arr 1 (intsL ws))]++rS P)∧Rt P∧p≤p'∧p'≤p+20000∧P.exprs.length≤2∧P.cols.length≤1:=by
 obtain⟨v,hv,hv1,-⟩:=pick_eq l p 4 h0 (by omega) hl
 obtain⟨v0,v1⟩:=hv1 (by omega)
 obtain⟨y,rfl⟩:∃ y:Nat,v=y:=⟨v.toNat,by omega⟩
 have w1:IntKind.i64.wrap (1+(y:Int))=((y+1:Nat):Int):=by rw[wrap64 (by omega) (by omega)];omega
 obtain⟨P,p1,u',j',hP,hPt,b1,b2,b3,b4,b5,b6,b7⟩:=root_one hl hw hwl hk0 (Nat.le_refl _) y (by omega) (p+1) 1 (by omega) (by omega) (by omega) (by omega)
 simp only[PSt,Int.natCast_one,Int.natCast_add]at hP
 obtain⟨z,hz,-,-⟩:=pick_eq l p1 2 (by omega) (by omega) hl
 have te:P.exprs.take P.exprs.length=P.exprs:=List.take_of_length_le (by simp)
 have tc:P.cols.take P.cols.length=P.cols:=List.take_of_length_le (by simp)
 have tk:P.kids.take P.kids.length=P.kids:=List.take_of_length_le (by simp)
 by_cases hz0:z=0
 ·have hW:=splanWidth_eq hw (by omega) P (Pn.thin_lim P hPt.1) 8 (by omega)
  have twd:ws.take ws.length=ws:=List.take_of_length_le (by simp)
  obtain⟨e,p2,he,a1,a2,a3⟩:=randomCondition_eq l hl (P.wd ws 8) (p1+1) (by omega) (by omega)
  have hf:=filterOf_own e P
  refine⟨filtP e P,p2,?_,Rt.one (filt_step a3 hPt.1) (hPt.rt b4),by omega,by omega,by simp[filtP],by simp[filtP]⟩
  rw[callA_eq rfl Tryz.func120 rfl rfl]
  rw[Pn.cells_eq P,Ex.cells_eq e]at hf
  rw[Ex.cells_eq e]at he
  rw[Pn.cells_eq P]at hW
  rcases list_nil P.exprs with ce|⟨ce,ce',ce''⟩<;>rcases list_nil P.cols with cc|⟨cc,cc',cc''⟩<;>rcases list_nil P.kids with ck|⟨ck,ck',ck''⟩ <;>
   (simp[rX,rS,bl, *,gro_pos,groB_pos,Ex.cellsL,intsL,Pn.cellsL]at hP hW hf
    simp[hv,w1,hP,hz,hz0,hW,he,hf,rX,rS,bl,filtP,lookX,viewXs,viewX,viewNs,viewN,viewW,bareC, *,Ex.cellsL,intsL,Pn.cellsL,Pn.cells_eq P,Ex.cells_eq e])
 ·refine⟨P,p1+1,?_,hPt.rt b4,by omega,by omega,b6,b7⟩
  rw[callA_eq rfl Tryz.func120 rfl rfl]
  rcases list_nil P.exprs with ce|⟨ce,ce',ce''⟩<;>rcases list_nil P.cols with cc|⟨cc,cc',cc''⟩<;>rcases list_nil P.kids with ck|⟨ck,ck',ck''⟩ <;>
   (simp[rX,rS,bl, *,gro_pos,groB_pos,Ex.cellsL,intsL,Pn.cellsL]at hP
    simp[hv,w1,hP,hz,hz0,rX,rS,bl, *,gro_pos,groB_pos])
theorem randomWidths_rng (l:List UInt8) (hl:l.length≤2000) (p:Int) (h0:0≤p) (h1:p<900000000):∃ (a b:Int) (r:List Int) (p':Int),callA C0 96 [.own 0 0] [Rd l p]=some (.osl 1 1 0 (r.length+2),[Rd l p',some (.arr 1 (intsL (a::b::r)))])∧p≤p'∧p'≤p+4∧1≤a∧a≤2∧1≤b∧b≤2∧r.length≤1∧∀ w∈r,1≤w∧w≤2:=by
 obtain⟨n,hn,hn1,-⟩:=pick_eq l p 2 h0 (by omega) hl
 obtain⟨a,ha,ha1,-⟩:=pick_eq l (p+1) 2 (by omega) (by omega) hl
 obtain⟨b,hb,hb1,-⟩:=pick_eq l (p+1+1) 2 (by omega) (by omega) hl
 have wa:IntKind.i64.wrap (1+a)=1+a:=wrap64 (by omega) (by omega)
 have wb:IntKind.i64.wrap (1+b)=1+b:=wrap64 (by omega) (by omega)
 have w2:IntKind.i64.wrap (2:Int)=2:=wrap64 (by omega) (by omega)
 have w3:IntKind.i64.wrap (3:Int)=3:=wrap64 (by omega) (by omega)
 have w1:=wrap_1
 have w0:IntKind.i64.wrap (0:Int)=0:=wrap64 (by omega) (by omega)
 obtain⟨n0,n1⟩:=hn1 (by omega)
 have hn2:n=0∨n=1:=by omega
 rcases hn2 with rfl|rfl
 ·refine⟨1+a,1+b,[],p+1+1+1,?_,by omega,by omega,by omega,by omega,by omega,by omega,by simp,by simp⟩
  rw[callA_eq rfl Tryz.func96 rfl rfl]
  simp[hn,w2]
  rw[execA_loop];simp[ha,wa,w1]
  rw[execA_loop];simp[hb,wb,w0]
  rw[execA_loop];simp[intsL]
 ·obtain⟨c,hc,hc1,-⟩:=pick_eq l (p+1+1+1) 2 (by omega) (by omega) hl
  have wc:IntKind.i64.wrap (1+c)=1+c:=wrap64 (by omega) (by omega)
  refine⟨1+a,1+b,[1+c],p+1+1+1+1,?_,by omega,by omega,by omega,by omega,by omega,by omega,by simp,by simp;omega⟩
  rw[callA_eq rfl Tryz.func96 rfl rfl]
  simp[hn,w3]
  rw[execA_loop];simp[ha,wa,w2]
  rw[execA_loop];simp[hb,wb,w1]
  rw[execA_loop];simp[hc,wc,w0]
  rw[execA_loop];simp[intsL]
theorem Pn.thin_with {P:Pn} (h:P.thin) (k t:Int):(Pn.mk k t P.exprs P.cols P.kids).thin:=by
 rw[Pn.thin_iff]at h ⊢;exact h
theorem Pn.thin_cols {P:Pn} (h:P.thin) (c:List Int) (hc:c.length<1000000000):(Pn.mk P.kind P.table P.exprs c P.kids).thin:=by
 rw[Pn.thin_iff]at h ⊢;exact⟨h.1,h.2.1,hc,h.2.2.2⟩
theorem Pn.thin_exprs {P:Pn} (h:P.thin) {e:Ex} (he:e.thin) (hl:P.exprs.length+1<1000000000):(Pn.mk P.kind P.table (P.exprs++[e]) P.cols P.kids).thin:=by
 rw[Pn.thin_iff]at h ⊢
 refine⟨by simpa [Pn.exprs]using hl,fun x hx=>?_,h.2.2⟩
 simp only[Pn.exprs,List.mem_append,List.mem_singleton]at hx
 rcases hx with hx|rfl
 ·exact h.2.1 x hx
 ·exact he
theorem anyPlan_root {l:List UInt8} (hl:l.length≤2000) {ws:List Int} (hw:∀ w∈ws,0≤w∧w≤6) (hwl:ws.length<1000000) (hk0:0<ws.length) (p:Int) (h0:0≤p) (h1:p+30000<200000000):∃ (P:Pn) (p':Int),
 callA CR 97 [.own 0 0, .osl 1 1 0 ws.length] [Rd l p,some (.arr 1 (intsL ws))]=some (rX 2 P,[Rd l p',some (.arr 1 (intsL ws))]++rS P)∧(P.thin∧BdV P)∧p≤p'∧p'≤p+30000:=by
 obtain⟨P,p1,hP,hPt,b1,b2,b6,b7⟩:=randomPlan_root hl hw hwl hk0 p h0 (by omega)
 obtain⟨k,hk,-,-⟩:=pick_eq l p1 18 (by omega) (by omega) hl
 have te:P.exprs.take P.exprs.length=P.exprs:=List.take_of_length_le (by simp)
 have tc:P.cols.take P.cols.length=P.cols:=List.take_of_length_le (by simp)
 have hthin:=(Pn.thin_iff P).1 hPt.1
 by_cases k0:k=0
 ·obtain⟨x,hx,-⟩:=one_eq l (p1+1) (by omega) (by omega) hl [[.int 0],[.int 9],[.int 1],[.int 4]] (by simp) (by simp) (by simp)
  simp only[List.length_cons,List.length_nil,Nat.zero_add,Nat.reduceAdd]at hx
  refine⟨.mk x P.table P.exprs P.cols P.kids,p1+1+1,?_,⟨Pn.thin_with hPt.1 _ _,hPt.head⟩,by omega,by omega⟩
  rw[callA_eq rfl Tryz.func97 rfl rfl]
  rcases list_nil P.exprs with ce|⟨ce,ce',ce''⟩<;>rcases list_nil P.cols with cc|⟨cc,cc',cc''⟩<;>rcases list_nil P.kids with ck|⟨ck,ck',ck''⟩ <;>
   (simp[rX,rS,bl,ce,cc,ck,gro_pos,groB_pos]at hP
    simp[hP,hk,k0,hx,rX,rS,bl,ce,cc,ck,gro_pos,groB_pos])
 by_cases k1:k=1
 ·obtain⟨x,hx,-⟩:=one_eq l (p1+1) (by omega) (by omega) hl [[.int (-1)],[.int 4],[.int 1]] (by simp) (by simp) (by simp)
  simp only[List.length_cons,List.length_nil,Nat.zero_add,Nat.reduceAdd]at hx
  refine⟨.mk P.kind x P.exprs P.cols P.kids,p1+1+1,?_,⟨Pn.thin_with hPt.1 _ _,hPt.head⟩,by omega,by omega⟩
  rw[callA_eq rfl Tryz.func97 rfl rfl]
  rcases list_nil P.exprs with ce|⟨ce,ce',ce''⟩<;>rcases list_nil P.cols with cc|⟨cc,cc',cc''⟩<;>rcases list_nil P.kids with ck|⟨ck,ck',ck''⟩ <;>
   (simp[rX,rS,bl,ce,cc,ck,gro_pos,groB_pos]at hP
    simp[hP,hk,k0,k1,hx,rX,rS,bl,ce,cc,ck,gro_pos,groB_pos])
 by_cases k2:k=2
 ·obtain⟨x,hx,-⟩:=one_eq l (p1+1) (by omega) (by omega) hl [[.int 0],[.int 9]] (by simp) (by simp) (by simp)
  simp only[List.length_cons,List.length_nil,Nat.zero_add,Nat.reduceAdd]at hx
  refine⟨.mk P.kind P.table P.exprs (P.cols++[x]) P.kids,p1+1+1,?_,⟨Pn.thin_cols hPt.1 _ (by simp;omega),hPt.head⟩,by omega,by omega⟩
  have hl1:(P.cols.length+1)*8≤140737488355328:=by omega
  rw[callA_eq rfl Tryz.func97 rfl rfl]
  rcases list_nil P.exprs with ce|⟨ce,ce',ce''⟩<;>rcases list_nil P.cols with cc|⟨cc,cc',cc''⟩<;>rcases list_nil P.kids with ck|⟨ck,ck',ck''⟩ <;>
   (simp[rX,rS,bl,ce,cc,ck,gro_pos,groB_pos]at hP
    simp[hP,hk,k0,k1,k2,hx,rX,rS,bl,ce,cc,ck,gro_pos,groB_pos,intsL,intsL_append,hl1,tc])
 by_cases k3:k=3
 ·obtain⟨e,p2,he,a1,a2,a3⟩:=anyExpr_eq l hl 2 (p1+1) (by omega) (by omega)
  refine⟨.mk P.kind P.table (P.exprs++[e]) P.cols P.kids,p2,?_,⟨Pn.thin_exprs hPt.1 (Ex.thin_of_size _ (by omega)) (by omega),bdV_expr hPt.2.1 hPt.2.2⟩,by omega,by omega⟩
  have hl1:(P.exprs.length+1)*56≤140737488355328:=by omega
  rw[callA_eq rfl Tryz.func97 rfl rfl]
  rw[Ex.cells_eq e]at he
  rcases list_nil P.exprs with ce|⟨ce,ce',ce''⟩<;>rcases list_nil P.cols with cc|⟨cc,cc',cc''⟩<;>rcases list_nil P.kids with ck|⟨ck,ck',ck''⟩ <;>
   (simp[rX,rS,bl,ce,cc,ck,gro_pos,groB_pos]at hP
    simp[hP,hk,k0,k1,k2,k3,he,rX,rS,bl,ce,cc,ck,gro_pos,groB_pos,Ex.cellsL,Ex.cellsL_append,hl1,te,Ex.cells_eq e])
 ·refine⟨P,p1+1,?_,⟨hPt.1,hPt.all⟩,by omega,by omega⟩
  rw[callA_eq rfl Tryz.func97 rfl rfl]
  rcases list_nil P.exprs with ce|⟨ce,ce',ce''⟩<;>rcases list_nil P.cols with cc|⟨cc,cc',cc''⟩<;>rcases list_nil P.kids with ck|⟨ck,ck',ck''⟩ <;>
   (simp[rX,rS,bl,ce,cc,ck,gro_pos,groB_pos]at hP
    simp[hP,hk,k0,k1,k2,k3,rX,rS,bl,ce,cc,ck,gro_pos,groB_pos])
end Go.Proofs.YtiailccmofdhfaaGreat.P
namespace Go.Proofs.YtiailccmofdhfaaGreat.P
open Go Go.Av G
set_option maxRecDepth 4000
set_option maxHeartbeats 8000000
@[simp] theorem ce_randomWidths (a:List AV) (st:StL):callA CE 96 a st=callA C0 96 a st:=by
  rw[callA_prim (p:=callA CR 96) rfl,callA_prim (p:=callA C0 96) rfl]
@[simp] theorem ce_anyPlan (a:List AV) (st:StL):callA CE 97 a st=callA CR 97 a st:=by
  rw[callA_prim (p:=callA CR 97) rfl]
@[simp] theorem ce_randomDatabase (a:List AV) (st:StL):callA CE 72 a st=callA C0 72 a st:=by
  rw[callA_prim (p:=callA CR 72) rfl,callA_prim (p:=callA C0 72) rfl]
@[simp] theorem ce_pick (a:List AV) (st:StL):callA CE 98 a st=callA C0 98 a st:=by
  rw[callA_prim (p:=callA CR 98) rfl,callA_prim (p:=callA C0 98) rfl]
@[simp] theorem ce_newReader (a:List AV) (st:StL):callA CE 57 a st=callA C0 57 a st:=by
  rw[callA_prim (p:=callA CR 57) rfl,callA_prim (p:=callA C0 57) rfl]
@[simp] theorem ce_anyTable (a:List AV) (st:StL):callA CE 99 a st=callA CT 99 a st:=by
  rw[callA_prim (p:=callA CT 99) rfl]
theorem planAndTables_eq {l:List UInt8} (hl:l.length≤2000):∃ (P:Pn) (db:List Tbl) (p':Int),callA CE 56 [.own 0 0] [Rd l 0]=some (.tup [.i (.agg P.cells), .i (.isl (tblsL db))],[Rd l p'])∧P.thin∧BdV P∧db.length≤3∧(∀ t∈db,t.small∧t.rows.length≤5):=by
 obtain⟨a,b,r,p1,hr,r1,r2,r3,r4,r5,r6,r7,r8⟩:=randomWidths_rng l hl 0 (by omega) (by omega)
 have hw:∀ w∈a::b::r,1≤w∧w≤6:=by
  intro w hm
  simp only[List.mem_cons]at hm
  rcases hm with rfl|rfl|hm
  ·omega
  ·omega
  ·have:=r8 w hm;omega
 obtain⟨P,p2,hP,hPt,c1,c2⟩:=anyPlan_root hl (ws:=a::b::r) (fun w hm=>by have:=hw w hm;omega) (by simp;omega) (by simp) p1 (by omega) (by omega)
 obtain⟨ts,p3,hd,d1,d2,d3,d4⟩:=randomDatabase_eq l hl (a::b::r) hw (by simp;omega) p2 (by omega) (by omega)
 obtain⟨k,hk,-,-⟩:=pick_eq l p3 16 (by omega) (by omega) hl
 have te:P.exprs.take P.exprs.length=P.exprs:=List.take_of_length_le (by simp)
 have tc:P.cols.take P.cols.length=P.cols:=List.take_of_length_le (by simp)
 have tk:P.kids.take P.kids.length=P.kids:=List.take_of_length_le (by simp)
 have htl:ts.length=r.length+2:=by have:=congrArg List.length d1;simpa using this
 have tt:(tblsL ts).take (r.length+2)=tblsL ts:=List.take_of_length_le (by simp;omega)
 have tt2:ts.take (r.length+2)=ts:=List.take_of_length_le (by omega)
 have tt3:(tblsL ts).take (r.length+1+1)=tblsL ts:=List.take_of_length_le (by simp;omega)
 have tt4:ts.take (r.length+1+1)=ts:=List.take_of_length_le (by omega)
 have htl2:r.length+1+1≤ts.length:=by omega
 have hr0:(0:Int)<(r.length:Int)+2:=by omega
 have hts:∀ t∈ts,t.small∧t.rows.length≤5:=fun t ht=>⟨Tbl.ok_small (d2 t ht).1,by have:=(d2 t ht).2;omega⟩
 by_cases k0:k=0
 ·obtain⟨t,p4,ht,t1,t2,t3,t4⟩:=anyTable_ok l hl a.toNat (by omega) (by omega) (p3+1) (by omega) (by omega)
  rw[show((a.toNat:Nat):Int)=a by omega]at ht
  obtain⟨t0,ts',rfl⟩:∃ t0 ts',ts=t0::ts':=by cases ts with
   | nil=>simp at htl
   | cons x y=>exact⟨x,y,rfl⟩
  refine⟨P,t::ts',p4,?_,hPt.1,hPt.2,by simp at htl ⊢;omega,fun x hx=>?_⟩
  ·rw[callA_eq rfl Tryz.func56 rfl rfl]
   have hq:(rowsL t.rows).take t.rows.length=rowsL t.rows:=List.take_of_length_le (by simp)
   have hq2:t.rows.take t.rows.length=t.rows:=List.take_of_length_le (by simp)
   have tt5:(tblsL ts').take (r.length+1)=tblsL ts':=List.take_of_length_le (by simp at htl ⊢;omega)
   have tt6:ts'.take (r.length+1)=ts':=List.take_of_length_le (by simp at htl;omega)
   have htl3:r.length+1≤ts'.length:=by simp at htl;omega
   have hr1:(0:Int)<(r.length:Int)+1+1:=by omega
   have hcons:∀ x:Tbl,tblsL (x::ts')=[.int x.w, .isl (rowsL x.rows)]::tblsL ts':=fun x=>rfl
   rw[hcons]at hd ⊢
   by_cases hz:t.rows.length=0
   ·have hn:t.rows=[]:=List.length_eq_zero_iff.1 hz
    rw[hz]at ht
    simp at ht
    rcases list_nil P.exprs with ce|⟨ce,ce',ce''⟩<;>rcases list_nil P.cols with cc|⟨cc,cc',cc''⟩<;>rcases list_nil P.kids with ck|⟨ck,ck',ck''⟩ <;>
     (simp[rX,rS,bl,ce,cc,ck,gro_pos,groB_pos,intsL]at hP
      simp[intsL]at hd
      simp[hr,hP,hd,hk,k0,ht,hn,hr0,hr1,ce,cc,ck,intsL,te,tc,tk,tt5,tt6,htl3,rowsL_nil,Pn.cells_eq P,Ex.cellsL,Pn.cellsL]
      done)
   ·rw[gro_pos hz,groB_pos hz]at ht
    rcases list_nil P.exprs with ce|⟨ce,ce',ce''⟩<;>rcases list_nil P.cols with cc|⟨cc,cc',cc''⟩<;>rcases list_nil P.kids with ck|⟨ck,ck',ck''⟩ <;>
     (simp[rX,rS,bl,ce,cc,ck,gro_pos,groB_pos,intsL]at hP
      simp[intsL]at hd
      simp[hr,hP,hd,hk,k0,ht,hq,hq2,hr0,hr1,ce,cc,ck,intsL,te,tc,tk,tt5,tt6,htl3,Pn.cells_eq P,Ex.cellsL,Pn.cellsL]
      done)
  ·rcases List.mem_cons.1 hx with rfl|hx
   ·exact⟨t1,t2⟩
   ·exact hts x (by simp[hx])
 ·refine⟨P,ts,p3+1,?_,hPt.1,hPt.2,by omega,hts⟩
  rw[callA_eq rfl Tryz.func56 rfl rfl]
  rcases list_nil P.exprs with ce|⟨ce,ce',ce''⟩<;>rcases list_nil P.cols with cc|⟨cc,cc',cc''⟩<;>rcases list_nil P.kids with ck|⟨ck,ck',ck''⟩ <;>
   (simp[rX,rS,bl,ce,cc,ck,gro_pos,groB_pos,intsL]at hP
    simp[intsL]at hd
    simp[hr,hP,hd,hk,k0,ce,cc,ck,intsL,te,tc,tk,tt,tt2,tt3,tt4,htl2,Pn.cells_eq P,Ex.cellsL,Pn.cellsL]
    done)
@[simp] theorem ce_sEvalPlan (a:List AV) (st:StL):callA CE 29 a st=callA C0 29 a st:=by
  rw[callA_prim (p:=callA CR 29) rfl,callA_prim (p:=callA C0 29) rfl]
@[simp] theorem ce_equalTables (a:List AV) (st:StL):callA CE 30 a st=callA C0 30 a st:=by
  rw[callA_prim (p:=callA CR 30) rfl,callA_prim (p:=callA C0 30) rfl]
@[simp] theorem ce_lwidthsOf (a:List AV) (st:StL):callA CE 36 a st=callA C0 36 a st:=by
  rw[callA_prim (p:=callA CR 36) rfl,callA_prim (p:=callA C0 36) rfl]
structure Drn (P:Pn) (db:List Tbl):Prop where
 thin:P.thin
 bdv:BdV P
 len:db.length≤3
 small:∀ t∈db,t.small
 rows:∀ t∈db,t.rows.length≤5
theorem drawEval_eq (code:List UInt8):∃ (P:Pn) (db:List Tbl),callA CE 28 [.i (.isl (bytesI code))] []=some (.tup [.i (.agg P.cells), .i (.isl (tblsL db))],[])∧Drn P db:=by
 obtain⟨c,hc,hr⟩:=newReader_eq code
 obtain⟨P,db,p',h,h1,h2,h3,h4⟩:=planAndTables_eq hc
 refine⟨P,db,?_,h1,h2,h3,fun t ht=>(h4 t ht).1,fun t ht=>(h4 t ht).2⟩
 rw[callA_eq rfl Tryz.func28 rfl rfl]
 rw[Pn.cells_eq P]at *
 simp[hr,h]
structure EvD (p:Pn) (db:List Tbl):Prop where
 ok:∀ t∈db,t.ok=true
 ws:okWs (db.map Tbl.w)=true
 wd:p.wd (db.map Tbl.w) 8≠0
theorem evOk_iff {p:Pn} {db:List Tbl}:evOk p db=true↔EvD p db:=by
 unfold evOk
 simp only[Bool.and_eq_true,decide_eq_true_eq]
 constructor
 ·rintro⟨h1,h2⟩
  obtain⟨k1,k2,_⟩:=width_ok8 h2
  exact⟨fun t ht=>List.all_eq_true.1 h1 t ht,k1,k2⟩
 ·intro h
  refine⟨List.all_eq_true.2 h.ok,?_⟩
  unfold Pn.width
  rw[if_pos h.ws];exact h.wd
theorem EvD.width {p:Pn} {db:List Tbl} (h:EvD p db):p.width (db.map Tbl.w)=p.wd (db.map Tbl.w) 8:=by
 unfold Pn.width;rw[if_pos h.ws]
theorem EvD.good {p:Pn} {db:List Tbl} (h:EvD p db):(p.evP db).ok=true∧(p.evP db).w=p.wd (db.map Tbl.w) 8:=ev_good rfl h.ok p 8 h.wd
theorem fit_bd {p:Pn} {db:List Tbl} (hr:∀ t∈db,t.rows.length≤5) (h:EvD p db) (hb:p.bd 5≤400):p.fit db=true :=
 (bd_fit (n:=5) (by omega) rfl (fun t ht=>⟨h.ok t ht,hr t ht⟩) p 8 h.wd hb).1
theorem Drn.bd {P:Pn} {db:List Tbl} (h:Drn P db) {lv:Nat} (hw:P.wd (db.map Tbl.w) lv≠0):P.bd 5≤50:=h.bdv _ lv 5 (by omega) hw
theorem Drn.fit {P:Pn} {db:List Tbl} (h:Drn P db) (he:evOk P db=true):P.fit db=true:=by
 have hd:=evOk_iff.1 he
 have:=h.bd hd.wd
 exact fit_bd h.rows hd (by omega)
theorem zsmall:(⟨0,[]⟩:Tbl).small:=⟨by simp,by simp⟩
theorem eq_zero:callA C0 30 [.i (.agg [.int 0, .isl []]), .i (.agg [.int 0, .isl []])] []=some (.bool true,[]):=by
 have:=equalTables_eq ⟨0,[]⟩ ⟨0,[]⟩ zsmall
 simpa [rowsL_nil]using this
theorem eq_same {t:Tbl} (h:t.ok=true):callA C0 30 [.i (.agg [.int t.w, .isl (rowsL t.rows)]), .i (.agg [.int t.w, .isl (rowsL t.rows)])] []=some (.bool true,[]):=by
 have:=equalTables_eq t t (Tbl.ok_small h)
 simpa using this
theorem EvD.evOk {P Q:Pn} {db:List Tbl} (h:EvD P db):evOk Q db=decide (Q.wd (db.map Tbl.w) 8≠0):=by
 unfold Go.Av.evOk Pn.width
 rw[if_pos h.ws,List.all_eq_true.2 h.ok];rfl
theorem EvD.rows {P:Pn} {db:List Tbl} (h:EvD P db) (hr:∀ t∈db,t.rows.length≤5) (hb:P.bd 5≤400):(P.evP db).rows.length≤P.bd 5 :=
 (bd_fit (n:=5) (by omega) rfl (fun t ht=>⟨h.ok t ht,hr t ht⟩) P 8 h.wd hb).2
def TOX (w:Int) (rows:List (List Val)) (i:Nat):AS :=
 { env:=[(0, .int w),(1, .i (.isl (rowsL rows))),(4, .own 0 0),(5, .bool false),(7,jk i (.isl (valsL ((rows[i-1]?).getD [])))),(15, .bool false),(17, .i (.isl (rowsL rows))),(18, .int rows.length),(19, .int i),(20,jk i (.bool true)),(31,jk i (.bool false))],st:=[some (.box [.i (.int 0), .nils])] }
def PCX (db:List Tbl) (p:Pn) (i:Nat):AS :=
 { env:=[(0, .i (.agg p.cells)),(1, .i (.isl (tblsL db))),(2, .own 0 0),(4, .int 0),(5, .int (((p.evP db).rows.length:Int)+(((p.kids.map (Pn.cost db)).take i).sum:Nat))),(6, .int i),(16,jk i (.bool true))],st:=[some (.box [.i (.int p.kind), .i (.int p.table), .i (.isl (Ex.cellsL p.exprs)), .i (.isl (intsL p.cols)), .i (.isl (Pn.cellsL p.kids))])] }
end Go.Proofs.YtiailccmofdhfaaGreat.P
namespace Go.Av
end Go.Av
namespace Go.Proofs.YtiailccmofdhfaaGreat.P
open Go Go.Av
set_option maxRecDepth 4000
set_option maxHeartbeats 4000000
set_option maxHeartbeats 2000000
end Go.Proofs.YtiailccmofdhfaaGreat.P
namespace Go.Proofs.YtiailccmofdhfaaGreat.P
open Go Go.Av G
set_option maxRecDepth 4000
set_option maxHeartbeats 8000000
end Go.Proofs.YtiailccmofdhfaaGreat.P
namespace Go.Proofs.YtiailccmofdhfaaGreat.P
open Go Go.Av
set_option maxRecDepth 4000
def bsL (l:List Bool):List (List IV):=l.map fun b=>[.bool b]
@[simp] theorem bsL_length (l:List Bool):(bsL l).length=l.length:=by simp[bsL]
theorem bsL_nth:∀ {l:List Bool} {i:Nat} {b:Bool},l[i]?=some b→nthE (bsL l) i=some [.bool b]
 | [],_,_,h=>by simp at h
 | a::l,0,b,h=>by simp at h;subst h;rfl
 | a::l,i+1,b,h=>by simp at h;exact bsL_nth (l:=l) h
end Go.Proofs.YtiailccmofdhfaaGreat.P
namespace Go.Proofs.YtiailccmofdhfaaGreat.P
open Go Go.Av G
set_option maxRecDepth 4000
set_option maxHeartbeats 8000000
end Go.Proofs.YtiailccmofdhfaaGreat.P
namespace Go.Av
end Go.Av
namespace Go.Proofs.YtiailccmofdhfaaGreat.P
open Go Go.Av G
set_option maxRecDepth 4000
set_option maxHeartbeats 8000000
end Go.Proofs.YtiailccmofdhfaaGreat.P
namespace Go.Proofs.YtiailccmofdhfaaGreat.P
open Go Go.Av
set_option maxRecDepth 4000
set_option maxHeartbeats 4000000
@[simp] theorem wr0:IntKind.i64.wrap 0=0:=by decide
@[simp] theorem wr1:IntKind.i64.wrap 1=1:=by decide
@[simp] theorem wr2:IntKind.i64.wrap 2=2:=by decide
@[simp] theorem wr3:IntKind.i64.wrap 3=3:=by decide
@[simp] theorem wr4:IntKind.i64.wrap 4=4:=by decide
@[simp] theorem wr7:IntKind.i64.wrap 7=7:=by decide
@[simp] theorem p64n:(2:Nat) ^ IntKind.i64.bits=18446744073709551616:=rfl
@[simp] theorem p64i:(2:Int) ^ IntKind.i64.bits=18446744073709551616:=rfl
theorem istate_eq (b:Bool) (n:Int):callA C0 171 [.i (.agg [.bool b, .int n])] []=some (.int (stV ⟨b,n⟩),[]):=by
 rw[callA_eq rfl Tryz.func171 rfl rfl]
 cases b
 ·by_cases h:n=0<;>simp[stV,h]
 ·simp[stV]
theorem eight {a:Int} (h:0≤a∧a≤7):a=0∨a=1∨a=2∨a=3∨a=4∨a=5∨a=6∨a=7:=by omega
theorem examples_eq {a:Int} (h:0≤a∧a≤7):callA C0 207 [.int a] []=some (.i (.isl (valsL (exS a))),[]):=by
 rw[callA_eq rfl Tryz.func207 rfl rfl]
 have s0:=istate_eq false 0
 have s1:=istate_eq false 1
 have s2:=istate_eq true 0
 simp only[stV,Bool.false_eq_true,if_false,if_true,Int.reduceEq]at s0 s1 s2
 rcases eight h with rfl|rfl|rfl|rfl|rfl|rfl|rfl|rfl
 all_goals
  simp
  rw[execA_loop]
  simp[s0,s1,s2]
  rw[execA_loop]
  simp[s0,s1,s2]
  rw[execA_loop]
  simp[s0,s1,s2]
  rw[execA_loop]
  simp[exS,hasS,valsL]
end Go.Proofs.YtiailccmofdhfaaGreat.P
namespace Go.Av
theorem orS_nat (a b:Nat):orS a b=((a ||| b:Nat):Int):=by simp[orS]
def accI (k:Int) (v:Val) (l:List Val) (s:Int) (j:Nat):Int:=(l.take j).foldl (fun s w=>orS s (stV (Val.cmb k v w))) s
def accO (k:Int) (l r:List Val) (i:Nat):Int:=(l.take i).foldl (fun s v=>r.foldl (fun s w=>orS s (stV (Val.cmb k v w))) s) 0
theorem accI_succ {k:Int} {v w:Val} {l:List Val} {s:Int} {j:Nat} (h:l[j]?=some w):accI k v l s (j+1)=orS (accI k v l s j) (stV (Val.cmb k v w)):=by
 unfold accI;rw[take_snoc h,List.foldl_append];rfl
theorem accO_succ {k:Int} {v:Val} {l r:List Val} {i:Nat} (h:l[i]?=some v):accO k l r (i+1)=accI k v r (accO k l r i) r.length:=by
 unfold accO accI;rw[take_snoc h,List.foldl_append,List.take_length];rfl
def lowN (s:Int):Prop:=∃ n:Nat,s=n∧n<8
theorem stV_low (v:Val):lowN (stV v):=by
 unfold stV
 split
 ·exact⟨4,rfl,by omega⟩
 ·split
  ·exact⟨1,rfl,by omega⟩
  ·exact⟨2,rfl,by omega⟩
theorem orS_low {a b:Int} (ha:lowN a) (hb:lowN b):lowN (orS a b):=by
 obtain⟨m,rfl,hm⟩:=ha
 obtain⟨n,rfl,hn⟩:=hb
 exact⟨m ||| n,orS_nat m n,Nat.or_lt_two_pow (n:=3) hm hn⟩
theorem accI_low {k:Int} {v:Val}:∀ (l:List Val) {s:Int} (j:Nat),lowN s→lowN (accI k v l s j)
 | [],s,j,h=>by simpa [accI]using h
 | a::l,s,0,h=>by simpa [accI]using h
 | a::l,s,j+1,h=>by
  have:=accI_low (k:=k) (v:=v) l (s:=orS s (stV (Val.cmb k v a))) j (orS_low h (stV_low _))
  simpa [accI]using this
theorem accO_low {k:Int} {r:List Val} (l:List Val) (i:Nat) (hi:i≤l.length):lowN (accO k l r i):=by
 induction i with
 | zero=>exact⟨0,by simp[accO],by omega⟩
 | succ i ih =>
  rw[accO_succ (List.getElem?_eq_getElem (show i<l.length by omega))]
  exact accI_low r _ (ih (by omega))
theorem cmbS_acc {k a b:Int} (h:k=8∨k=9):cmbS k a b=accO k (exS a) (exS b) (exS a).length:=by
 unfold cmbS accO
 rw[if_pos h,List.take_length]
theorem exS_ok {a:Int} {v:Val} (h:v∈exS a):v.ok=true:=by
 unfold exS at h
 simp only[List.mem_append]at h
 rcases h with h|h|h
 ·split at h
  ·simp at h;subst h;rfl
  ·cases h
 ·split at h
  ·simp at h;subst h;rfl
  ·cases h
 ·split at h
  ·simp at h;subst h;rfl
  ·cases h
theorem exS_ne {b:Int} (h:okS b):exS b≠[]:=by
 obtain⟨h1,h2⟩:=h
 have:b=1∨b=2∨b=3∨b=4∨b=5∨b=6∨b=7:=by omega
 rcases this with rfl|rfl|rfl|rfl|rfl|rfl|rfl<;>decide
theorem exS_len (a:Int):(exS a).length≤3:=by
 unfold exS;simp only[List.length_append]
 repeat' split
 all_goals simp
end Go.Av
namespace Go.Proofs.YtiailccmofdhfaaGreat.P
open Go Go.Av
set_option maxRecDepth 4000
set_option maxHeartbeats 4000000
theorem mod8 {n:Nat} (h:n<8):n % 18446744073709551616=n:=Nat.mod_eq_of_lt (by omega)
theorem or8 {m n:Nat} (hm:m<8) (hn:n<8):IntKind.i64.wrap ((m ||| n:Nat):Int)=((m ||| n:Nat):Int):=by
 have:=Nat.or_lt_two_pow (n:=3) hm hn
 exact wrap64 (by omega) (by omega)
def vBx (v:Val):Option Blk:=some (.box [.bool v.null, .int v.n])
def vAt (l:List Val) (i:Nat):Val:=(l[i]?).getD Val.zero
def jz (i:Nat) (v:AV):AV:=if i=0 then .junk else v
@[simp] theorem jz_0 (v:AV):jz 0 v=.junk:=rfl
@[simp] theorem jz_s (i:Nat) (v:AV):jz (i+1) v=v:=rfl
theorem jz_pos {i:Nat} (h:i≠0) (v:AV):jz i v=v:=if_neg h
def CSX (k a b:Int) (A B:List Val) (i:Nat):AS :=
 { env:=[(0, .int k),(1, .int a),(2, .int b),(6, .int 0),(7, .int (accO k A B i)),(9,jz i (.own 0 0)),(11,jz i (.own 1 0)),(17, .bool true),(19, .i (.isl (valsL A))),(20, .int A.length),(21, .int i),(22,jz i (.bool true)),(26,jz i (.i (.isl (valsL B)))),(27,jz i (.int B.length)),(28,jz i (.int B.length)),(29,jz i (.bool false)),(46, .junk),(54, .junk),(66, .junk)],
   st:=if i=0 then []else [vBx (vAt A (i-1)),vBx (vAt B (B.length-1))] }
def CSI (k a b:Int) (A B:List Val) (i:Nat) (j:Nat):AS :=
 { env:=[(0, .int k),(1, .int a),(2, .int b),(6, .int 0),(7, .int (accI k (vAt A i) B (accO k A B i) j)),(9, .own 0 0),(11,if j=0 then jz i (.own 1 0)else .own 1 0),(17, .bool true),(19, .i (.isl (valsL A))),(20, .int A.length),(21, .int i),(22, .bool true),(26, .i (.isl (valsL B))),(27, .int B.length),(28, .int j),(29,if j=0 then jz i (.bool false)else .bool true),(46, .junk),(54, .junk),(66, .junk)],
   st:=vBx (vAt A i)::(if j=0 then(if i=0 then []else [vBx (vAt B (B.length-1))])else [vBx (vAt B (j-1))]) }
theorem combinedStates_and {k a b:Int} (hk:k=8∨k=9) (ha:okS a) (hb:okS b):callA C0 172 [.int k, .int a, .int b] []=some (.int (cmbS k a b),[]):=by
 have hea:=examples_eq (a:=a) ⟨by have:=ha.1;omega,ha.2⟩
 have heb:=examples_eq (a:=b) ⟨by have:=hb.1;omega,hb.2⟩
 have hbn:=exS_ne hb
 have hbl:(exS b).length≠0:=fun h=>hbn (List.length_eq_zero_iff.1 h)
 have la:=exS_len a
 have lb:=exS_len b
 have oka:∀ v∈exS a,v.ok=true:=fun v hv=>exS_ok hv
 have okb:∀ v∈exS b,v.ok=true:=fun v hv=>exS_ok hv
 rw[callA_eq rfl Tryz.func172 rfl rfl,cmbS_acc hk]
 generalize exS a=A at *
 generalize exS b=B at *
 rcases hk with rfl|rfl
 ·simp[hea]
  rw[loop_to (CSX 8 a b A B) A.length (by simp[CSX,accO])]
  ·rw[execA_loop]
   simp[CSX]
  ·intro i hi
   have h3:=List.getElem?_eq_getElem hi
   have hm:=List.mem_of_getElem? h3
   generalize A[i]=v at h3 hm
   have rA:=valsL_nth h3
   have hv:vAt A i=v:=by simp[vAt,h3]
   have w2:IntKind.i64.wrap ((i:Int)+1)=i+1:=wrap64 (by omega) (by omega)
   have hlow0:=accO_low (k:=8) (r:=B) A i (by omega)
   have hsc:=accO_succ (k:=8) (r:=B) h3
   have inner:∀ j,j<B.length→∃ w,B[j]?=some w∧w∈B∧nthE (valsL B) j=some [.bool w.null, .int w.n]∧vAt B j=w∧∃ m n:Nat,accI 8 v B (accO 8 A B i) j=m∧stV (Val.cmb 8 v w)=n∧m<8∧n<8∧accI 8 v B (accO 8 A B i) (j+1)=((m ||| n:Nat):Int)∧IntKind.i64.wrap ((m ||| n:Nat):Int)=((m ||| n:Nat):Int):=by
    intro j hj
    have q3:=List.getElem?_eq_getElem hj
    obtain⟨m,hm1,hm2⟩:=accI_low (k:=8) (v:=v) B j hlow0
    obtain⟨n,hn1,hn2⟩:=stV_low (Val.cmb 8 v B[j])
    refine⟨B[j],q3,List.getElem_mem hj,valsL_nth q3,by simp[vAt,q3],m,n,hm1,hn1,hm2,hn2,?_,or8 hm2 hn2⟩
    rw[accI_succ q3,hm1,hn1,orS_nat]
   by_cases h0:i=0
   ·subst h0
    simp[CSX,hi,rA,heb]
    rw[loop_to (CSI 8 a b A B 0) B.length (by simp[CSI,accI,hv,vBx])]
    ·rw[execA_loop]
     simp[CSI,hbl,w2,hv,hsc,CSX,vBx]
    ·intro j hj
     obtain⟨w,q3,qm,q4,q5,m,n,m1,n1,m2,n2,hn,hwr⟩:=inner j hj
     have hcm:=combined_eq 8 v w (oka v hm) (okb w qm)
     have hst:=istate_eq (Val.cmb 8 v w).null (Val.cmb 8 v w).n
     have w3:IntKind.i64.wrap ((j:Int)+1)=j+1:=wrap64 (by omega) (by omega)
     rw[show stV ⟨(Val.cmb 8 v w).null,(Val.cmb 8 v w).n⟩=stV (Val.cmb 8 v w)from rfl,n1]at hst
     by_cases j0:j=0
     ·subst j0
      simp[CSI,hj,hv,q4,q5,vBx,m1,hcm,hst,mod8 m2,mod8 n2,hwr,hn]
     ·simp[CSI,hj,hv,q4,q5,vBx,m1,hcm,hst,mod8 m2,mod8 n2,hwr,hn,j0,w3]
   ·simp[CSX,hi,rA,heb,h0,jz_pos h0,vBx]
    rw[loop_to (CSI 8 a b A B i) B.length (by simp[CSI,accI,hv,vBx,jz_pos h0,h0])]
    ·rw[execA_loop]
     simp[CSI,hbl,w2,hv,hsc,CSX,vBx]
    ·intro j hj
     obtain⟨w,q3,qm,q4,q5,m,n,m1,n1,m2,n2,hn,hwr⟩:=inner j hj
     have hcm:=combined_eq 8 v w (oka v hm) (okb w qm)
     have hst:=istate_eq (Val.cmb 8 v w).null (Val.cmb 8 v w).n
     have w3:IntKind.i64.wrap ((j:Int)+1)=j+1:=wrap64 (by omega) (by omega)
     rw[show stV ⟨(Val.cmb 8 v w).null,(Val.cmb 8 v w).n⟩=stV (Val.cmb 8 v w)from rfl,n1]at hst
     by_cases j0:j=0
     ·subst j0
      simp[CSI,hj,hv,q4,q5,vBx,m1,hcm,hst,mod8 m2,mod8 n2,hwr,hn,jz_pos h0,h0]
     ·simp[CSI,hj,hv,q4,q5,vBx,m1,hcm,hst,mod8 m2,mod8 n2,hwr,hn,j0,w3,jz_pos h0,h0]
 ·simp[hea]
  rw[loop_to (CSX 9 a b A B) A.length (by simp[CSX,accO])]
  ·rw[execA_loop]
   simp[CSX]
  ·intro i hi
   have h3:=List.getElem?_eq_getElem hi
   have hm:=List.mem_of_getElem? h3
   generalize A[i]=v at h3 hm
   have rA:=valsL_nth h3
   have hv:vAt A i=v:=by simp[vAt,h3]
   have w2:IntKind.i64.wrap ((i:Int)+1)=i+1:=wrap64 (by omega) (by omega)
   have hlow0:=accO_low (k:=9) (r:=B) A i (by omega)
   have hsc:=accO_succ (k:=9) (r:=B) h3
   have inner:∀ j,j<B.length→∃ w,B[j]?=some w∧w∈B∧nthE (valsL B) j=some [.bool w.null, .int w.n]∧vAt B j=w∧∃ m n:Nat,accI 9 v B (accO 9 A B i) j=m∧stV (Val.cmb 9 v w)=n∧m<8∧n<8∧accI 9 v B (accO 9 A B i) (j+1)=((m ||| n:Nat):Int)∧IntKind.i64.wrap ((m ||| n:Nat):Int)=((m ||| n:Nat):Int):=by
    intro j hj
    have q3:=List.getElem?_eq_getElem hj
    obtain⟨m,hm1,hm2⟩:=accI_low (k:=9) (v:=v) B j hlow0
    obtain⟨n,hn1,hn2⟩:=stV_low (Val.cmb 9 v B[j])
    refine⟨B[j],q3,List.getElem_mem hj,valsL_nth q3,by simp[vAt,q3],m,n,hm1,hn1,hm2,hn2,?_,or8 hm2 hn2⟩
    rw[accI_succ q3,hm1,hn1,orS_nat]
   by_cases h0:i=0
   ·subst h0
    simp[CSX,hi,rA,heb]
    rw[loop_to (CSI 9 a b A B 0) B.length (by simp[CSI,accI,hv,vBx])]
    ·rw[execA_loop]
     simp[CSI,hbl,w2,hv,hsc,CSX,vBx]
    ·intro j hj
     obtain⟨w,q3,qm,q4,q5,m,n,m1,n1,m2,n2,hn,hwr⟩:=inner j hj
     have hcm:=combined_eq 9 v w (oka v hm) (okb w qm)
     have hst:=istate_eq (Val.cmb 9 v w).null (Val.cmb 9 v w).n
     have w3:IntKind.i64.wrap ((j:Int)+1)=j+1:=wrap64 (by omega) (by omega)
     rw[show stV ⟨(Val.cmb 9 v w).null,(Val.cmb 9 v w).n⟩=stV (Val.cmb 9 v w)from rfl,n1]at hst
     by_cases j0:j=0
     ·subst j0
      simp[CSI,hj,hv,q4,q5,vBx,m1,hcm,hst,mod8 m2,mod8 n2,hwr,hn]
     ·simp[CSI,hj,hv,q4,q5,vBx,m1,hcm,hst,mod8 m2,mod8 n2,hwr,hn,j0,w3]
   ·simp[CSX,hi,rA,heb,h0,jz_pos h0,vBx]
    rw[loop_to (CSI 9 a b A B i) B.length (by simp[CSI,accI,hv,vBx,jz_pos h0,h0])]
    ·rw[execA_loop]
     simp[CSI,hbl,w2,hv,hsc,CSX,vBx]
    ·intro j hj
     obtain⟨w,q3,qm,q4,q5,m,n,m1,n1,m2,n2,hn,hwr⟩:=inner j hj
     have hcm:=combined_eq 9 v w (oka v hm) (okb w qm)
     have hst:=istate_eq (Val.cmb 9 v w).null (Val.cmb 9 v w).n
     have w3:IntKind.i64.wrap ((j:Int)+1)=j+1:=wrap64 (by omega) (by omega)
     rw[show stV ⟨(Val.cmb 9 v w).null,(Val.cmb 9 v w).n⟩=stV (Val.cmb 9 v w)from rfl,n1]at hst
     by_cases j0:j=0
     ·subst j0
      simp[CSI,hj,hv,q4,q5,vBx,m1,hcm,hst,mod8 m2,mod8 n2,hwr,hn,jz_pos h0,h0]
     ·simp[CSI,hj,hv,q4,q5,vBx,m1,hcm,hst,mod8 m2,mod8 n2,hwr,hn,j0,w3,jz_pos h0,h0]
set_option maxHeartbeats 8000000
theorem or_tab:∀ m n:Fin 8,((m.val ||| n.val) &&& 4=0∧hasS (orS m.val n.val) 4=false)∨((m.val ||| n.val) &&& 4=4∧hasS (orS m.val n.val) 4=true):=by decide
theorem or_four {m n:Nat} (hm:m<8) (hn:n<8):((m ||| n) &&& 4=0∧hasS (orS m n) 4=false)∨((m ||| n) &&& 4=4∧hasS (orS m n) 4=true):=or_tab ⟨m,hm⟩ ⟨n,hn⟩
theorem low_tab:∀ m:Fin 8,(m.val &&& 18446744073709551611=0∧(hasS m.val 1 || hasS m.val 2)=false)∨((m.val &&& 18446744073709551611=1∨m.val &&& 18446744073709551611=2∨m.val &&& 18446744073709551611=3)∧(hasS m.val 1 || hasS m.val 2)=true):=by decide
theorem low_any {m:Nat} (hm:m<8):∃ v:Nat,m &&& 18446744073709551611=v∧IntKind.i64.wrap (v:Int)=v∧((v=0∧(hasS m 1 || hasS m 2)=false)∨(¬ v=0∧(hasS m 1 || hasS m 2)=true)):=by
 rcases low_tab ⟨m,hm⟩with ⟨h,q⟩|⟨h|h|h,q⟩
 ·exact⟨0,h,by decide, .inl ⟨rfl,q⟩⟩
 ·exact⟨1,h,by decide, .inr ⟨by omega,q⟩⟩
 ·exact⟨2,h,by decide, .inr ⟨by omega,q⟩⟩
 ·exact⟨3,h,by decide, .inr ⟨by omega,q⟩⟩
theorem combinedStates_rest {k:Int} (hk:3≤k∧k≠8∧k≠9) {m n:Nat} (hm:m<8) (hn:n<8):callA C0 172 [.int k, .int m, .int n] []=some (.int (cmbS k m n),[]):=by
 rw[callA_eq rfl Tryz.func172 rfl rfl]
 have h1:=mod8 hm
 have h2:=mod8 hn
 have h3:=or8 hm hn
 have h4:(m ||| n) % 18446744073709551616=m ||| n:=mod8 (Nat.or_lt_two_pow (n:=3) hm hn)
 obtain⟨x,x1,x2,x3⟩:=low_any hm
 obtain⟨y,y1,y2,y3⟩:=low_any hn
 have k8:¬ k=8:=hk.2.1
 have k9:¬ k=9:=hk.2.2
 have e7:orS 0 7=7:=by decide
 have e3:orS 0 3=3:=by decide
 have e47:orS 4 7=7:=by decide
 have e43:orS 4 3=7:=by decide
 have e40:orS 4 0=4:=by decide
 have e00:orS 0 0=0:=by decide
 by_cases k6:k<6
 ·have hk3:k=3∨k=4∨k=5:=by omega
  rcases hk3 with rfl|rfl|rfl
  ·rcases or_four hm hn with ⟨p,q⟩|⟨p,q⟩
   ·rcases x3 with ⟨x3,x4⟩|⟨x3,x4⟩
    ·simp[h1,h2,h3,h4,p,x1,x2,x3,cmbS,q,x4,e00]
    ·rcases y3 with ⟨y3,y4⟩|⟨y3,y4⟩
     ·simp[h1,h2,h3,h4,p,x1,x2,x3,y1,y2,y3,cmbS,q,x4,y4,e00]
     ·simp[h1,h2,h3,h4,p,x1,x2,x3,y1,y2,y3,cmbS,q,x4,y4,e7,e3]
   ·rcases x3 with ⟨x3,x4⟩|⟨x3,x4⟩
    ·simp[h1,h2,h3,h4,p,x1,x2,x3,cmbS,q,x4,e40]
    ·rcases y3 with ⟨y3,y4⟩|⟨y3,y4⟩
     ·simp[h1,h2,h3,h4,p,x1,x2,x3,y1,y2,y3,cmbS,q,x4,y4,e40]
     ·simp[h1,h2,h3,h4,p,x1,x2,x3,y1,y2,y3,cmbS,q,x4,y4,e47,e43]
  ·rcases or_four hm hn with ⟨p,q⟩|⟨p,q⟩
   ·rcases x3 with ⟨x3,x4⟩|⟨x3,x4⟩
    ·simp[h1,h2,h3,h4,p,x1,x2,x3,cmbS,q,x4,e00]
    ·rcases y3 with ⟨y3,y4⟩|⟨y3,y4⟩
     ·simp[h1,h2,h3,h4,p,x1,x2,x3,y1,y2,y3,cmbS,q,x4,y4,e00]
     ·simp[h1,h2,h3,h4,p,x1,x2,x3,y1,y2,y3,cmbS,q,x4,y4,e7,e3]
   ·rcases x3 with ⟨x3,x4⟩|⟨x3,x4⟩
    ·simp[h1,h2,h3,h4,p,x1,x2,x3,cmbS,q,x4,e40]
    ·rcases y3 with ⟨y3,y4⟩|⟨y3,y4⟩
     ·simp[h1,h2,h3,h4,p,x1,x2,x3,y1,y2,y3,cmbS,q,x4,y4,e40]
     ·simp[h1,h2,h3,h4,p,x1,x2,x3,y1,y2,y3,cmbS,q,x4,y4,e47,e43]
  ·rcases or_four hm hn with ⟨p,q⟩|⟨p,q⟩
   ·rcases x3 with ⟨x3,x4⟩|⟨x3,x4⟩
    ·simp[h1,h2,h3,h4,p,x1,x2,x3,cmbS,q,x4,e00]
    ·rcases y3 with ⟨y3,y4⟩|⟨y3,y4⟩
     ·simp[h1,h2,h3,h4,p,x1,x2,x3,y1,y2,y3,cmbS,q,x4,y4,e00]
     ·simp[h1,h2,h3,h4,p,x1,x2,x3,y1,y2,y3,cmbS,q,x4,y4,e7,e3]
   ·rcases x3 with ⟨x3,x4⟩|⟨x3,x4⟩
    ·simp[h1,h2,h3,h4,p,x1,x2,x3,cmbS,q,x4,e40]
    ·rcases y3 with ⟨y3,y4⟩|⟨y3,y4⟩
     ·simp[h1,h2,h3,h4,p,x1,x2,x3,y1,y2,y3,cmbS,q,x4,y4,e40]
     ·simp[h1,h2,h3,h4,p,x1,x2,x3,y1,y2,y3,cmbS,q,x4,y4,e47,e43]
 ·have k3:¬ k=3:=by omega
  have k4:¬ k=4:=by omega
  have k5:¬ k=5:=by omega
  rcases or_four hm hn with ⟨p,q⟩|⟨p,q⟩
  ·rcases x3 with ⟨x3,x4⟩|⟨x3,x4⟩
   ·simp[h1,h2,h3,h4,p,x1,x2,x3,cmbS,q,x4,e00,k3,k4,k5,k6,k8,k9]
   ·rcases y3 with ⟨y3,y4⟩|⟨y3,y4⟩
    ·simp[h1,h2,h3,h4,p,x1,x2,x3,y1,y2,y3,cmbS,q,x4,y4,e00,k3,k4,k5,k6,k8,k9]
    ·simp[h1,h2,h3,h4,p,x1,x2,x3,y1,y2,y3,cmbS,q,x4,y4,e7,e3,k3,k4,k5,k6,k8,k9]
  ·rcases x3 with ⟨x3,x4⟩|⟨x3,x4⟩
   ·simp[h1,h2,h3,h4,p,x1,x2,x3,cmbS,q,x4,e40,k3,k4,k5,k6,k8,k9]
   ·rcases y3 with ⟨y3,y4⟩|⟨y3,y4⟩
    ·simp[h1,h2,h3,h4,p,x1,x2,x3,y1,y2,y3,cmbS,q,x4,y4,e40,k3,k4,k5,k6,k8,k9]
    ·simp[h1,h2,h3,h4,p,x1,x2,x3,y1,y2,y3,cmbS,q,x4,y4,e47,e43,k3,k4,k5,k6,k8,k9]
end Go.Proofs.YtiailccmofdhfaaGreat.P
namespace Go.Av
theorem Ex.wf_shape {w:Int} {e:Ex} (h:e.wf w=true):(e.kind=1∧0≤e.col∧e.col<w∧e.kids=[])∨(e.kind=2∧e.kids=[])∨((e.kind=10∨e.kind=11)∧∃ x,e.kids=[x]∧x.wf w=true)∨((3≤e.kind∧e.kind≤9)∧∃ x y,e.kids=[x,y]∧x.wf w=true∧y.wf w=true):=by
 have hk:∀ x∈e.kids,x.wf w=true:=fun x hx=>Ex.wf_kids h hx
 by_cases h1:e.kind=1
 ·have:=Ex.wf_col h h1;exact .inl ⟨h1,this.1,this.2.1,this.2.2⟩
 rw[Ex.wf_eq]at h
 simp only[Bool.and_eq_true,decide_eq_true_eq]at h
 have hl:=h.1
 unfold kidsK at hl
 split at hl
 ·rename_i hc
  exact .inr (.inl ⟨by omega,List.length_eq_zero_iff.1 (by omega)⟩)
 ·split at hl
  ·rename_i hc
   obtain⟨x,hx⟩:=list_one (show e.kids.length=1 by omega)
   exact .inr (.inr (.inl ⟨hc,x,hx,hk x (by simp[hx])⟩))
  ·split at hl
   ·rename_i hc
    obtain⟨x,y,hx⟩:=list_two (show e.kids.length=2 by omega)
    exact .inr (.inr (.inr ⟨hc,x,y,hx,hk x (by simp[hx]),hk y (by simp[hx])⟩))
   ·omega
theorem outS_ok {W:Int} (st:List Int) (hl:(st.length:Int)=W) (hs:∀ a∈st,okS a):∀ e:Ex,e.wf W=true→okS (outS st e):=by
 intro e
 induction e using Ex.ind with
 | h k c v ks ih =>
  intro hw
  rw[outS_eq]
  rcases Ex.wf_shape hw with ⟨h1,h2,h3,h4⟩|⟨h1,h2⟩|⟨h1,x,h2,h3⟩|⟨h1,x,y,h2,h3,h4⟩
  ·rw[if_pos h1]
   generalize Ex.col (.mk k c v ks)=cc at *
   have hlt:cc.toNat<st.length:=by omega
   rw[List.getElem?_eq_getElem hlt]
   exact hs _ (List.getElem_mem hlt)
  ·rw[if_neg (by omega),if_pos h1];exact stV_ok _
  ·have hx:=ih x (by simp only[Ex.kids]at h2;simp[h2]) h3
   obtain⟨n,hn⟩:=Int.eq_ofNat_of_zero_le (show 0≤outS st x by have:=hx.1;omega)
   have ht:=notS_tab ⟨n,by have:=hx.2;omega⟩ (by have:=hx.1;simp;omega)
   rw[if_neg (by omega),if_neg (by omega),h2]
   simp only[List.getElem?_cons_zero,Option.map_some,Option.getD_some,hn]
   rcases h1 with h1|h1
   ·rw[if_pos h1];exact ht.1
   ·rw[if_neg (by omega),if_pos h1];exact ht.2
  ·have hx:=ih x (by simp only[Ex.kids]at h2;simp[h2]) h3
   have hy:=ih y (by simp only[Ex.kids]at h2;simp[h2]) h4
   rw[if_neg (by omega),if_neg (by omega),if_neg (by omega),if_neg (by omega),h2]
   exact cmbS_ok hx hy
end Go.Av
namespace Go.Proofs.YtiailccmofdhfaaGreat.P
open Go Go.Av
set_option maxRecDepth 4000
set_option maxHeartbeats 8000000
theorem seven {a:Int} (h:okS a):a=1∨a=2∨a=3∨a=4∨a=5∨a=6∨a=7:=by have:=h.1;have:=h.2;omega
theorem icomb_all {k a b:Int} (hk:3≤k) (ha:okS a) (hb:okS b):callA C0 172 [.int k, .int a, .int b] []=some (.int (cmbS k a b),[]):=by
 by_cases h:k=8∨k=9
 ·exact combinedStates_and h ha hb
 ·obtain⟨m,rfl⟩:=Int.eq_ofNat_of_zero_le (show 0≤a by have:=ha.1;omega)
  obtain⟨n,rfl⟩:=Int.eq_ofNat_of_zero_le (show 0≤b by have:=hb.1;omega)
  exact combinedStates_rest ⟨hk,by omega,by omega⟩ (by have:=ha.2;omega) (by have:=hb.2;omega)
theorem ioutcomes_eq {W:Int} (st:List Int) (hl:(st.length:Int)=W) (hs:∀ a∈st,okS a):∀ e:Ex,e.wf W=true→callA C0 143 [.i (.iref e.cells), .i (.isl (intsL st))] []=some (.int (outS st e),[]):=by
 intro e
 induction e using Ex.ind with
 | h k c v ks ih =>
  intro hw
  have hall:=outS_ok st hl hs
  rw[callA_eq rfl Tryz.func143 rfl rfl,Ex.cells_eq,outS_eq]
  rcases Ex.wf_shape hw with ⟨h1,h2,h3,h4⟩|⟨h1,h2⟩|⟨h1,x,h2,h3⟩|⟨h1,x,y,h2,h3,h4⟩
  ·generalize Ex.mk k c v ks=e at *
   have hlt:e.col.toNat<st.length:=by omega
   have h5:=List.getElem?_eq_getElem hlt
   generalize st[e.col.toNat]=s at h5
   have r2:=intsL_nth h5
   obtain⟨_,h6⟩:=List.getElem?_eq_some_iff.1 h5
   simp[h1,h2,r2,h6,show e.col<st.length by omega]
  ·generalize Ex.mk k c v ks=e at *
   have hst:=istate_eq e.val.null e.val.n
   simp[h1,hst]
  ·have hx:=ih x (by simp only[Ex.kids]at h2;simp[h2]) h3
   have ho:=hall x h3
   generalize Ex.mk k c v ks=e at *
   generalize hso:outS st x=s at hx ho
   rw[Ex.cells_eq]at hx
   rcases h1 with h1|h1
   ·rcases seven ho with rfl|rfl|rfl|rfl|rfl|rfl|rfl<;>(simp[h1,h2,Ex.cellsL,Ex.cells_eq x,hx,hso];try decide)
   ·rcases seven ho with rfl|rfl|rfl|rfl|rfl|rfl|rfl<;>(simp[h1,h2,Ex.cellsL,Ex.cells_eq x,hx,hso];try decide)
  ·have hx:=ih x (by simp only[Ex.kids]at h2;simp[h2]) h3
   have hy:=ih y (by simp only[Ex.kids]at h2;simp[h2]) h4
   have ho:=hall x h3
   have hp:=hall y h4
   generalize Ex.mk k c v ks=e at *
   have hc:=icomb_all (k:=e.kind) h1.1 ho hp
   generalize hso:outS st x=s at hx ho hc
   generalize hto:outS st y=t at hy hp hc
   rw[Ex.cells_eq]at hx hy
   have q1:¬ e.kind=1:=by omega
   have q2:¬ e.kind=2:=by omega
   have q3:¬ e.kind=10:=by omega
   have q4:¬ e.kind=11:=by omega
   simp[q1,q2,q3,q4,h2,Ex.cellsL,Ex.cells_eq x,Ex.cells_eq y,hx,hy,hc,hso,hto]
end Go.Proofs.YtiailccmofdhfaaGreat.P
namespace Go.Av
theorem flag_rep (n:Nat) (x:Int):intsL (List.replicate n x)=List.replicate n [.int x]:=by
 induction n with
 | zero=>rfl
 | succ n ih=>simp[List.replicate_succ,intsL,ih]
theorem flag_tab:∀ a:Fin 8,(a.val &&& 2=0∧hasS a.val 2=false)∨(a.val &&& 2=2∧hasS a.val 2=true):=by decide
theorem four_tab:∀ a:Fin 8,(a.val &&& 4=0∧hasS a.val 4=false)∨(a.val &&& 4=4∧hasS a.val 4=true):=by decide
end Go.Av
namespace Go.Proofs.YtiailccmofdhfaaGreat.P
open Go Go.Av
set_option maxRecDepth 4000
set_option maxHeartbeats 8000000
theorem bsL_set:∀ (l:List Bool) (i:Nat) (x:Bool),(bsL l).set i [.bool x]=bsL (l.set i x)
 | [],i,x=>by simp[bsL]
 | a::l,0,x=>by simp[bsL]
 | a::l,i+1,x=>by
  have h:=bsL_set l i x
  unfold bsL at h ⊢
  rw[List.map_cons,List.set_cons_succ,h,List.set_cons_succ,List.map_cons]
theorem bsL_append (a b:List Bool):bsL (a++b)=bsL a++bsL b:=by simp[bsL]
theorem bsL_rep (n:Nat):List.replicate n [IV.bool false]=bsL (List.replicate n false):=by simp[bsL]
@[simp] theorem bsL_take (n:Nat) (l:List Bool):(bsL l).take n=bsL (l.take n):=by simp[bsL,List.map_take]
@[simp] theorem bsL_widths (l:List Bool):widths 1 (bsL l)=true:=by simp[bsL,widths]
theorem copiedB_eq {l:List Bool} (h:l≠[]) (hl:l.length<1000000000):callA C0 140 [.i (.isl (bsL l))] []=some (.osl 0 1 0 l.length,[some (.arr 1 (bsL l))]):=by
 rw[callA_eq rfl Tryz.func140 rfl rfl]
 have h1:(l.length:Int)≤281474976710656:=by omega
 simp[h,h1]
 unfold over
 simp
def stA (fl:List Bool) (i:Nat):List Int:=stsOf (fl.take i)++List.replicate (fl.length-i) 0
theorem stsOf_len (fl:List Bool):(stsOf fl).length=fl.length:=by simp[stsOf]
theorem stA_nth {fl:List Bool} {i:Nat} (h:i<fl.length):(stA fl i)[i]?=some 0:=by
 unfold stA
 have:(stsOf (fl.take i)).length=i:=by rw[stsOf_len];simp;omega
 rw[List.getElem?_append_right (by omega),this]
 simp[List.getElem?_replicate];omega
theorem stA_set {fl:List Bool} {i:Nat} {b:Bool} (h:fl[i]?=some b):(stA fl i).set i (if b=true then 7 else 3)=stA fl (i+1):=by
 unfold stA
 have hi:=(List.getElem?_eq_some_iff.1 h).1
 have hl:(stsOf (fl.take i)).length=i:=by rw[stsOf_len];simp;omega
 rw[List.set_append_right _ _ (by omega),hl,take_snoc h,show fl.length-i=(fl.length-(i+1))+1 by omega,List.replicate_succ]
 simp[stsOf]
@[simp] theorem stA_length {fl:List Bool} {i:Nat} (h:i≤fl.length):(stA fl i).length=fl.length:=by
  unfold stA;rw[List.length_append,stsOf_len];simp;omega
theorem stA_all (fl:List Bool):stA fl fl.length=stsOf fl:=by simp[stA]
def SOX (fl:List Bool) (i:Nat):AS :=
 { env:=[(0, .i (.isl (bsL fl))),(2, .nils),(3, .osl 0 1 0 fl.length),(4,jk i (.int ((i:Int)-1))),(9, .int fl.length),(10, .int i),(11,jk i (.bool true)),(19,jk i (.bool ((fl[i-1]?).getD false)))],st:=[some (.arr 1 (intsL (stA fl i)))] }
theorem statesOf_eq (fl:List Bool) (hl:fl.length<1000000):callA C0 142 [.i (.isl (bsL fl))] []=some (.osl 0 1 0 fl.length,[some (.arr 1 (intsL (stsOf fl)))]):=by
 rw[callA_eq rfl Tryz.func142 rfl rfl]
 have h1:8*(fl.length:Int)≤281474976710656:=by omega
 have hz:=flag_rep fl.length 0
 simp[h1]
 rw[loop_to (SOX fl) fl.length (by simp[SOX,stA,stsOf,hz])]
 ·rw[execA_loop]
  simp[SOX,stA_all]
 ·intro i hi
  obtain⟨b,hb⟩:∃ b,fl[i]?=some b:=⟨_,List.getElem?_eq_getElem hi⟩
  obtain⟨_,hg⟩:=List.getElem?_eq_some_iff.1 hb
  have k1:=bsL_nth hb
  have k2:=intsL_nth (stA_nth hi)
  have k3:nthE (intsL ((stA fl i).set i 3)) i=some [.int 3]:=by
   apply intsL_nth
   rw[List.getElem?_set_self (by rw[stA_length (by omega)];exact hi)]
  have k4:=stA_set hb
  have w3:IntKind.i64.wrap ((i:Int)+1)=i+1:=wrap64 (by omega) (by omega)
  have hll:=stA_length (fl:=fl) (i:=i) (by omega)
  cases b
  ·simp at k4
   simp[SOX,hi,k1,k2,k3,k4,w3,intsL_set,hg,hb]
  ·simp at k4
   simp[SOX,hi,k1,k2,k3,k4,w3,intsL_set,hg,hb]
def nfS (fl:List Bool):Nat→Option (List Int)
 | 0=>none
 | i+1=>if(fl[i]?).getD false=true then some ((stsOf fl).set i 4)else nfS fl i
def nfV (n:Nat):Option (List Int)→AV
 | none=>.junk
 | some _=>.osl 1 1 0 n
def nfB:Option (List Int)→StL
 | none=>[]
 | some s=>[some (.frz 1 (intsL s))]
def hfB (l:List Bool) (i:Nat):List Bool:=l.take i++List.replicate (l.length-i) false
theorem hfB_len {l:List Bool} {i:Nat} (h:i≤l.length):(hfB l i).length=l.length:=by simp[hfB];omega
theorem hfB_nth {l:List Bool} {i:Nat} (h:i<l.length):(hfB l i)[i]?=some false:=by
 unfold hfB
 rw[List.getElem?_append_right (by simp;omega)]
 simp[List.getElem?_replicate];omega
theorem hfB_set {l:List Bool} {i:Nat} {b:Bool} (h:l[i]?=some b):(hfB l i).set i b=hfB l (i+1):=by
 have hi:=(List.getElem?_eq_some_iff.1 h).1
 unfold hfB
 have hl:(l.take i).length=i:=by simp;omega
 rw[List.set_append_right _ _ (by omega),hl,take_snoc h,show l.length-i=(l.length-(i+1))+1 by omega,List.replicate_succ]
 simp
theorem hfB_skip {l:List Bool} {i:Nat} (h:l[i]?=some false):hfB l (i+1)=hfB l i:=by
 have hi:=(List.getElem?_eq_some_iff.1 h).1
 rw[← hfB_set h]
 apply List.ext_getElem?
 intro j
 rw[List.getElem?_set]
 split
 ·rename_i e;subst e
  rw[if_pos (by rw[hfB_len (by omega)];exact hi),hfB_nth hi]
 ·rfl
def NFX (p:List IV) (e:Ex) (fl:List Bool) (i:Nat):AS :=
 { env:=[(0, .i (.iref p)),(1, .i (.isl (bsL fl))),(4, .nils),(5, .osl 0 1 0 fl.length),(6,jk i (.int ((i:Int)-1))),(7,nfV fl.length (nfS fl i)),(12, .int fl.length),(13, .int i),(14,jk i (.bool true)),(20,jk i (.bool (!(fl[i-1]?).getD false)))],st:=[some (.arr 1 (bsL (hfB (nlFilt e fl) i)))]++nfB (nfS fl i) }
theorem nlFilt_len (e:Ex) (fl:List Bool):(nlFilt e fl).length=fl.length:=by simp[nlFilt]
theorem afterFilter_eq (e:Ex) (a:Pn) (fl:List Bool) {W:Int} (hW:(fl.length:Int)=W) (hl:fl.length<1000000) (he:e.wf W=true):callA C0 141 [.i (.iref (filt e a).cells), .i (.isl (bsL fl))] []=some (.osl 0 1 0 fl.length,[some (.arr 1 (bsL (nlFilt e fl)))]):=by
 rw[callA_eq rfl Tryz.func141 rfl rfl]
 have h1:(fl.length:Int)≤281474976710656:=by omega
 have hst:=statesOf_eq fl hl
 have hz:=bsL_rep fl.length
 simp[h1]
 rw[loop_to (NFX (filt e a).cells e fl) fl.length (by simp[NFX,nfS,nfV,nfB,hfB,nlFilt_len,hz])]
 ·rw[execA_loop]
  have ht:(hfB (nlFilt e fl) fl.length)=nlFilt e fl:=by
   have:=nlFilt_len e fl
   unfold hfB;rw[this];simp;exact List.take_of_length_le (by omega)
  cases hn:nfS fl fl.length<;>simp[NFX,hn,nfV,nfB,ht]
 ·intro i hi
  obtain⟨b,hb⟩:∃ b,fl[i]?=some b:=⟨_,List.getElem?_eq_getElem hi⟩
  obtain⟨_,hg⟩:=List.getElem?_eq_some_iff.1 hb
  have k1:=bsL_nth hb
  have w3:IntKind.i64.wrap ((i:Int)+1)=i+1:=wrap64 (by omega) (by omega)
  have hnl:=nlFilt_len e fl
  have hnth:(nlFilt e fl)[i]?=some (b && hasS (outS ((stsOf fl).set i 4) e) 2):=by
   unfold nlFilt
   rw[List.getElem?_map,List.getElem?_range hi,Option.map_some,hb];rfl
  cases b
  ·have hs:hfB (nlFilt e fl) (i+1)=hfB (nlFilt e fl) i:=hfB_skip (by simpa using hnth)
   cases hn:nfS fl i<;>simp[NFX,hi,k1,w3,hb,hg,hs,nfS,hn,nfV,nfB]
  ·have hs:=hfB_set hnth
   have k2:=bsL_nth (hfB_nth (l:=nlFilt e fl) (i:=i) (by omega))
   have k3:nthE (intsL (stsOf fl)) i=some [.int 7]:=by
    apply intsL_nth
    unfold stsOf
    rw[List.getElem?_map,hb];rfl
   have hok:∀ a∈(stsOf fl).set i 4,okS a:=fun x hx=>by
    rcases List.mem_or_eq_of_mem_set hx with hx|rfl
    ·exact stsOf_ok _ x hx
    ·unfold okS;omega
   have hlen:(((stsOf fl).set i 4).length:Int)=W:=by rw[List.length_set,stsOf_len];exact hW
   have ho:=ioutcomes_eq ((stsOf fl).set i 4) hlen hok e he
   have hso:=outS_ok ((stsOf fl).set i 4) hlen hok e he
   have hl2:((stsOf fl).set i 4).take fl.length=(stsOf fl).set i 4:=List.take_of_length_le (by simp[stsOf_len])
   have hl3:(stsOf fl).length=fl.length:=stsOf_len fl
   generalize outS ((stsOf fl).set i 4) e=s at ho hso hs hnth
   obtain⟨s,rfl⟩:=Int.eq_ofNat_of_zero_le (show 0≤s by have:=hso.1;omega)
   have hs8:s<8:=by have:=hso.2;omega
   rw[Ex.cells_eq]at ho
   have hll:=hfB_len (l:=nlFilt e fl) (i:=i) (by omega)
   rcases flag_tab ⟨s,hs8⟩with ⟨h2,h3⟩|⟨h2,h3⟩
   ·simp at h2 h3
    simp[h3]at hs
    cases hn:nfS fl i<;>simp[NFX,hn,nfV,nfB,filt,Pn.cells_mk,Ex.cellsL,Ex.cells_eq,hi,k1,k2,k3,w3,hb,hg,hs,nfS,hst,ho,intsL_set,bsL_set,mod8 hs8,h2,h3,hl2,hl3,hll,hnl]
   ·simp at h2 h3
    simp[h3]at hs
    cases hn:nfS fl i<;>simp[NFX,hn,nfV,nfB,filt,Pn.cells_mk,Ex.cellsL,Ex.cells_eq,hi,k1,k2,k3,w3,hb,hg,hs,nfS,hst,ho,intsL_set,bsL_set,mod8 hs8,h2,h3,hl2,hl3,hll,hnl]
def bbL (l:List (List Bool)):List (List IV):=l.map fun b=>[.isl (bsL b)]
@[simp] theorem bbL_length (l:List (List Bool)):(bbL l).length=l.length:=by simp[bbL]
theorem bbL_nth:∀ {l:List (List Bool)} {i:Nat} {b:List Bool},l[i]?=some b→nthE (bbL l) i=some [.isl (bsL b)]
 | [],_,_,h=>by simp at h
 | a::l,0,r,h=>by simp at h;subst h;simp[bbL,nthE]
 | a::l,i+1,r,h=>by simp only[bbL,List.map_cons,nthE];exact bbL_nth (l:=l) (by simpa using h)
def NlR (p:Pn) (flags:List (List Bool)):Prop:=callA C0 95 [.i (.iref p.cells), .i (.isl (bbL flags))] []=some (.osl 0 1 0 (p.nl flags).length,[some (.arr 1 (bsL (p.nl flags)))])
theorem nlR_scan {flags:List (List Bool)} {t:Int} {fl:List Bool} (h0:0≤t) (h:flags[t.toNat]?=some fl) (hn:fl≠[]) (hl:fl.length<1000000):NlR (.scan t) flags:=by
 unfold NlR
 have hi:=(List.getElem?_eq_some_iff.1 h).1
 have hi':t<(flags.length:Int):=by omega
 have q:=bbL_nth h
 have c:=copiedB_eq hn (by omega)
 have hnl:(Pn.scan t).nl flags=fl:=by rw[Pn.nl_eq];simp[Pn.scan,nlK,h]
 rw[callA_eq rfl Tryz.func95 rfl rfl,hnl]
 simp[Pn.scan,Pn.cells_mk,h0,hi',q,c]
theorem nl_filt (flags:List (List Bool)) (e:Ex) (a:Pn):(filt e a).nl flags=nlFilt e (a.nl flags):=by rw[Pn.nl_eq];simp[filt,nlK,exO]
theorem nl_proj (flags:List (List Bool)) (es:List Ex) (a:Pn):(proj es a).nl flags=es.map fun e=>hasS (outS (stsOf (a.nl flags)) e) 4:=by rw[Pn.nl_eq];simp[proj,nlK]
theorem nl_join (flags:List (List Bool)) (e:Ex) (a b:Pn):(pairP 4 e a b).nl flags=a.nl flags++b.nl flags:=by rw[Pn.nl_eq];simp[pairP,nlK]
theorem nl_left (flags:List (List Bool)) (e:Ex) (a b:Pn):(pairP 5 e a b).nl flags=a.nl flags++List.replicate (b.nl flags).length true:=by
 have hc:∀ l:List Bool,l.map (fun _=>true)=List.replicate l.length true:=fun l=>by induction l<;>simp_all [List.replicate_succ]
 rw[Pn.nl_eq];simp[pairP,nlK,hc]
theorem nl_union (flags:List (List Bool)) (a b:Pn):(unionP a b).nl flags=List.zipWith (· || ·) (a.nl flags) (b.nl flags):=by rw[Pn.nl_eq];simp[unionP,nlK]
theorem nl_dist (flags:List (List Bool)) (a:Pn):(Pn.mk 7 0 [] [] [a]).nl flags=a.nl flags:=by rw[Pn.nl_eq];simp[nlK]
theorem nl_group (flags:List (List Bool)) (cs:List Int) (a:Pn):(Pn.mk 8 0 [] cs [a]).nl flags=(cs.map fun c=>((a.nl flags)[c.toNat]?).getD false)++[false]:=by rw[Pn.nl_eq];simp[nlK]
theorem nlR_filt {flags:List (List Bool)} {e:Ex} {a:Pn} {W:Int} (ih:NlR a flags) (hW:((a.nl flags).length:Int)=W) (hl:(a.nl flags).length<1000000) (he:e.wf W=true):NlR (filt e a) flags:=by
 unfold NlR at ih ⊢
 have c:=afterFilter_eq e a (a.nl flags) hW hl he
 have hln:=nlFilt_len e (a.nl flags)
 rw[nl_filt,hln]
 rw[callA_eq rfl Tryz.func95 rfl rfl]
 rw[Pn.cells_eq a]at ih
 have ht:(bsL (a.nl flags)).take (a.nl flags).length=bsL (a.nl flags):=List.take_of_length_le (by simp)
 have ht2:(a.nl flags).take (a.nl flags).length=a.nl flags:=List.take_of_length_le (by simp)
 simp only[filt,Pn.cells_mk,Pn.cellsL,Pn.cells_eq a]at c
 simp[filt,Pn.cells_mk,Pn.cellsL,Pn.cells_eq a,ih,c,ht,ht2]
theorem nlR_dist {flags:List (List Bool)} {a:Pn} (ih:NlR a flags):NlR (.mk 7 0 [] [] [a]) flags:=by
 unfold NlR at ih ⊢
 rw[nl_dist]
 rw[callA_eq rfl Tryz.func95 rfl rfl]
 rw[Pn.cells_eq a]at ih
 simp[Pn.cells_mk,Pn.cellsL,Pn.cells_eq a,ih]
theorem nlR_join {flags:List (List Bool)} {e:Ex} {a b:Pn} (ih:NlR a flags) (jh:NlR b flags) (h6:(a.nl flags).length+(b.nl flags).length≤6) (ha:a.nl flags≠[]) (hb:b.nl flags≠[]):NlR (pairP 4 e a b) flags:=by
 unfold NlR at ih jh ⊢
 rw[nl_join]
 rw[callA_eq rfl Tryz.func95 rfl rfl]
 rw[Pn.cells_eq a]at ih
 rw[Pn.cells_eq b]at jh
 have ht2:(a.nl flags).take (a.nl flags).length=a.nl flags:=List.take_of_length_le (by simp)
 have ht3:(b.nl flags).take (b.nl flags).length=b.nl flags:=List.take_of_length_le (by simp)
 have hb6:(a.nl flags).length+(b.nl flags).length≤140737488355328:=by omega
 simp[pairP,Pn.cells_mk,Pn.cellsL,Pn.cells_eq a,Pn.cells_eq b,ih,jh,bsL_append,ht2,ht3,ha,hb,hb6]
def stB (s:List Int):Nat→Blk
 | 0=>.arr 1 (intsL s)
 | _+1=>.frz 1 (intsL s)
@[simp] theorem idsOfB_stB (s:List Int) (i:Nat):idsOfB (some (stB s i))=[]:=by cases i<;>simp[stB]
@[simp] theorem renB_stB (r:Nat→Option Nat) (s:List Int) (i:Nat):renB r (some (stB s i))=some (stB s i):=by cases i<;>simp[stB]
def mixB (fl gl:List Bool) (i:Nat):List Bool:=(List.zipWith (· || ·) fl gl).take i++fl.drop i
theorem mixB_len {fl gl:List Bool} (h:fl.length=gl.length) {i:Nat} (hi:i≤fl.length):(mixB fl gl i).length=fl.length:=by
 unfold mixB;rw[List.length_append,List.length_take,List.length_zipWith,List.length_drop];omega
theorem mixB_nth {fl gl:List Bool} (h:fl.length=gl.length) {i:Nat} {a:Bool} (ha:fl[i]?=some a):(mixB fl gl i)[i]?=some a:=by
 have hi:=(List.getElem?_eq_some_iff.1 ha).1
 unfold mixB
 rw[List.getElem?_append_right (by rw[List.length_take,List.length_zipWith];omega),List.getElem?_drop,List.length_take,List.length_zipWith,show i+(i-min i (min fl.length gl.length))=i by omega,ha]
theorem mixB_set {fl gl:List Bool} (h:fl.length=gl.length) {i:Nat} {a b:Bool} (ha:fl[i]?=some a) (hb:gl[i]?=some b):(mixB fl gl i).set i (a || b)=mixB fl gl (i+1):=by
 have hi:=(List.getElem?_eq_some_iff.1 ha).1
 have hz:(List.zipWith (· || ·) fl gl)[i]?=some (a || b):=by rw[List.getElem?_zipWith,ha,hb]
 have hl:((List.zipWith (· || ·) fl gl).take i).length=i:=by rw[List.length_take,List.length_zipWith];omega
 have hd:=List.drop_eq_getElem_cons hi
 unfold mixB
 rw[List.set_append_right _ _ (by omega),hl,Nat.sub_self,take_snoc hz,hd,List.set_cons_zero,List.append_assoc]
 rfl
def NPX (p:List IV) (flags:List (List Bool)) (fl out:List Bool) (n m:Nat) (i:Nat):AS :=
 { env:=[(0, .i (.iref p)),(1, .i (.isl (bbL flags))),(4, .nils),(5, .osl 0 1 0 n),(6, .osl 1 1 0 n),(7, .osl 2 1 0 m),(8,jk i (.int ((i:Int)-1))),(9, .junk),(10, .junk),(11, .junk),(13, .junk),(18, .bool false),(37, .int 3),(38, .bool false),(43, .bool true),(57, .int m),(58, .int i),(59,jk i (.bool true)),(76, .junk),(87, .junk),(96, .junk),(97, .junk),(98, .junk),(104, .junk),(112, .junk),(113, .junk),(114, .junk),(115, .junk),(131, .junk),(136, .junk),(137, .junk),(138, .junk),(139, .junk)],st:=[some (.frz 1 (bsL fl)),some (stB (stsOf fl) i),some (.arr 1 (bsL (hfB out i)))] }
def NLX (p:List IV) (flags:List (List Bool)) (fl:List Bool) (n m:Nat) (i:Nat):AS :=
 { env:=[(0, .i (.iref p)),(1, .i (.isl (bbL flags))),(4, .nils),(5, .osl 0 1 0 (n+i)),(6, .junk),(7, .junk),(8, .junk),(9, .junk),(10, .junk),(11, .junk),(13, .junk),(18, .bool false),(37, .int 5),(38, .bool false),(43, .bool false),(57, .junk),(58, .junk),(59, .junk),(76, .bool false),(87, .bool true),(96, .int m),(97, .int i),(98,jk i (.bool true)),(104, .junk),(112, .junk),(113, .junk),(114, .junk),(115, .junk),(131, .junk),(136, .junk),(137, .junk),(138, .junk),(139, .junk)],st:=[some (.arr 1 (bsL (fl++List.replicate i true)))] }
def NUX (p:List IV) (flags:List (List Bool)) (fl gl:List Bool) (n:Nat) (i:Nat):AS :=
 { env:=[(0, .i (.iref p)),(1, .i (.isl (bbL flags))),(4, .nils),(5, .osl 0 1 0 n),(6, .junk),(7, .junk),(8, .junk),(9,jk i (.int ((i:Int)-1))),(10,jk i (.bool ((gl[i-1]?).getD false))),(11, .junk),(13, .junk),(18, .bool false),(37, .int 6),(38, .bool false),(43, .bool false),(57, .junk),(58, .junk),(59, .junk),(76, .bool false),(87, .bool false),(96, .junk),(97, .junk),(98, .junk),(104, .bool true),(112, .osl 1 1 0 n),(113, .int n),(114, .int i),(115,jk i (.bool true)),(131, .junk),(136, .junk),(137, .junk),(138, .junk),(139, .junk)],st:=[some (.arr 1 (bsL (mixB fl gl i))),some (.arr 1 (bsL gl))] }
def NGX (p:List IV) (flags:List (List Bool)) (fl:List Bool) (cs:List Int) (L:List Bool) (n:Nat) (i:Nat):AS :=
 { env:=[(0, .i (.iref p)),(1, .i (.isl (bbL flags))),(4, .nils),(5, .osl 0 1 0 n),(6, .junk),(7, .junk),(8, .junk),(9, .junk),(10, .junk),(11,gro 1 1 i),(13,jk i (.int ((cs[i-1]?).getD 0))),(18, .bool false),(37, .int 8),(38, .bool false),(43, .bool false),(57, .junk),(58, .junk),(59, .junk),(76, .bool false),(87, .bool false),(96, .junk),(97, .junk),(98, .junk),(104, .bool false),(112, .junk),(113, .junk),(114, .junk),(115, .junk),(131, .bool true),(136, .i (.isl (intsL cs))),(137, .int cs.length),(138, .int i),(139,jk i (.bool true))],st:=[some (.arr 1 (bsL fl))]++groB 1 (bsL (L.take i)) i }
theorem nlR_proj {flags:List (List Bool)} {es:List Ex} {a:Pn} {W:Int} (ih:NlR a flags) (hW:((a.nl flags).length:Int)=W) (h6:(a.nl flags).length≤6) (hl:es.length≤6) (he:∀ e∈es,e.wf W=true):NlR (proj es a) flags:=by
 unfold NlR at ih ⊢
 rw[nl_proj]
 rw[callA_eq rfl Tryz.func95 rfl rfl]
 rw[Pn.cells_eq a]at ih
 have hst:=statesOf_eq (a.nl flags) (by omega)
 have hsl:=stsOf_len (a.nl flags)
 have hsk:=stsOf_ok (a.nl flags)
 have ht2:(a.nl flags).take (a.nl flags).length=a.nl flags:=List.take_of_length_le (by simp)
 have ht4:(stsOf (a.nl flags)).take (a.nl flags).length=stsOf (a.nl flags):=List.take_of_length_le (by omega)
 generalize hfl:a.nl flags=fl at *
 have hout:(es.map fun e=>hasS (outS (stsOf fl) e) 4).length=es.length:=by simp
 have hz:=bsL_rep es.length
 have hb1:(es.length:Int)≤281474976710656:=by omega
 simp[proj,Pn.cells_mk,Pn.cellsL,Pn.cells_eq a,ih,hst,ht2,hb1]
 rw[loop_to (NPX (proj es a).cells flags fl (es.map fun e=>hasS (outS (stsOf fl) e) 4) fl.length es.length) es.length (by simp[NPX,stB,hfB,hz,proj,Pn.cells_mk,Pn.cellsL,Pn.cells_eq a])]
 ·rw[execA_loop]
  have hq:hfB (es.map fun e=>hasS (outS (stsOf fl) e) 4) es.length=es.map fun e=>hasS (outS (stsOf fl) e) 4:=by unfold hfB;simp;exact List.take_of_length_le (by simp)
  simp[NPX,hq]
 ·intro i hi
  obtain⟨e,hee⟩:∃ e,es[i]?=some e:=⟨_,List.getElem?_eq_getElem hi⟩
  have hen:=Ex.cellsL_nth hee
  have hwf:=he e (List.mem_of_getElem? hee)
  have w3:IntKind.i64.wrap ((i:Int)+1)=i+1:=wrap64 (by omega) (by omega)
  have hlen:((stsOf fl).length:Int)=W:=by rw[hsl];exact hW
  have ho:=ioutcomes_eq (stsOf fl) hlen hsk e hwf
  have hso:=outS_ok (stsOf fl) hlen hsk e hwf
  have hnth:(es.map fun e=>hasS (outS (stsOf fl) e) 4)[i]?=some (hasS (outS (stsOf fl) e) 4):=by rw[List.getElem?_map,hee];rfl
  have hs:=hfB_set hnth
  have k2:=bsL_nth (hfB_nth (l:=es.map fun e=>hasS (outS (stsOf fl) e) 4) (i:=i) (by rw[hout];exact hi))
  have hll:=hfB_len (l:=es.map fun e=>hasS (outS (stsOf fl) e) 4) (i:=i) (by omega)
  generalize (es.map fun e=>hasS (outS (stsOf fl) e) 4)=out at *
  generalize outS (stsOf fl) e=s at ho hso hs hnth
  obtain⟨s,rfl⟩:=Int.eq_ofNat_of_zero_le (show 0≤s by have:=hso.1;omega)
  have hs8:s<8:=by have:=hso.2;omega
  rw[Ex.cells_eq]at ho hen
  rcases four_tab ⟨s,hs8⟩with ⟨h2,h3⟩|⟨h2,h3⟩
  ·simp at h2 h3
   simp[h3]at hs
   cases i with
   | zero=>simp at hi k2 hs hen hll w3;simp[NPX,stB,proj,Pn.cells_mk,hi,hen,k2,wrap_1,hs,ho,bsL_set,mod8 hs8,h2,h3,ht4,hll,hout,hsl]
   | succ n =>
    have hi':(n:Int)+1<es.length:=by omega
    have hn0:(0:Int)≤(n:Int)+1:=by omega
    simp at w3
    simp[NPX,stB,proj,Pn.cells_mk,hi,hi',hn0,hen,k2,w3,hs,ho,bsL_set,mod8 hs8,h2,h3,ht4,hll,hout,hsl]
  ·simp at h2 h3
   simp[h3]at hs
   cases i with
   | zero=>simp at hi k2 hs hen hll w3;simp[NPX,stB,proj,Pn.cells_mk,hi,hen,k2,wrap_1,hs,ho,bsL_set,mod8 hs8,h2,h3,ht4,hll,hout,hsl]
   | succ n =>
    have hi':(n:Int)+1<es.length:=by omega
    have hn0:(0:Int)≤(n:Int)+1:=by omega
    simp at w3
    simp[NPX,stB,proj,Pn.cells_mk,hi,hi',hn0,hen,k2,w3,hs,ho,bsL_set,mod8 hs8,h2,h3,ht4,hll,hout,hsl]
theorem nlR_left {flags:List (List Bool)} {e:Ex} {a b:Pn} (ih:NlR a flags) (jh:NlR b flags) (h6:(a.nl flags).length+(b.nl flags).length≤6) (ha:a.nl flags≠[]):NlR (pairP 5 e a b) flags:=by
 unfold NlR at ih jh ⊢
 rw[nl_left]
 rw[callA_eq rfl Tryz.func95 rfl rfl]
 rw[Pn.cells_eq a]at ih
 rw[Pn.cells_eq b]at jh
 generalize a.nl flags=fl at *
 generalize b.nl flags=gl at *
 have hpos:fl.length≠0:=fun e=>ha (List.length_eq_zero_iff.1 e)
 simp[pairP,Pn.cells_mk,Pn.cellsL,Pn.cells_eq a,Pn.cells_eq b,ih,jh]
 rw[loop_to (NLX (pairP 5 e a b).cells flags fl fl.length gl.length) gl.length (by simp[NLX,pairP,Pn.cells_mk,Pn.cellsL,Pn.cells_eq a,Pn.cells_eq b])]
 ·rw[execA_loop]
  simp[NLX]
 ·intro i hi
  have w3:IntKind.i64.wrap ((i:Int)+1)=i+1:=wrap64 (by omega) (by omega)
  have hb:fl.length+i+1≤140737488355328:=by omega
  have hb2:fl.length+(i+1)≤140737488355328:=by omega
  have ht:(fl++List.replicate i true).take (fl.length+i)=fl++List.replicate i true:=List.take_of_length_le (by simp)
  have hs:bsL (fl++List.replicate i true)++[[IV.bool true]]=bsL (fl++List.replicate (i+1) true):=by rw[List.replicate_succ',← List.append_assoc,bsL_append (fl++_)];rfl
  have hln:(fl++List.replicate i true).length=fl.length+i:=by simp
  simp[NLX,hi,w3,hb,hb2,ht,hs,hln,Nat.add_assoc]
theorem nlR_union {flags:List (List Bool)} {a b:Pn} (ih:NlR a flags) (jh:NlR b flags) (h6:(a.nl flags).length≤6) (hab:(a.nl flags).length=(b.nl flags).length):NlR (unionP a b) flags:=by
 unfold NlR at ih jh ⊢
 rw[nl_union]
 rw[callA_eq rfl Tryz.func95 rfl rfl]
 rw[Pn.cells_eq a]at ih
 rw[Pn.cells_eq b]at jh
 generalize a.nl flags=fl at *
 generalize b.nl flags=gl at *
 have hzl:(List.zipWith (· || ·) fl gl).length=fl.length:=by rw[List.length_zipWith];omega
 rw[← hab]at jh
 simp[unionP,Pn.cells_mk,Pn.cellsL,Pn.cells_eq a,Pn.cells_eq b,ih,jh]
 rw[loop_to (NUX (unionP a b).cells flags fl gl fl.length) fl.length (by simp[NUX,mixB,unionP,Pn.cells_mk,Pn.cellsL,Pn.cells_eq a,Pn.cells_eq b])]
 ·rw[execA_loop]
  have hq:mixB fl gl fl.length=List.zipWith (· || ·) fl gl:=by
   unfold mixB;rw[List.drop_length,List.append_nil];exact List.take_of_length_le (by omega)
  have hmin:min fl.length gl.length=fl.length:=by omega
  simp[NUX,hq,hzl,hmin]
 ·intro i hi
  obtain⟨x,hx⟩:∃ x,fl[i]?=some x:=⟨_,List.getElem?_eq_getElem hi⟩
  obtain⟨y,hy⟩:∃ y,gl[i]?=some y:=⟨_,List.getElem?_eq_getElem (by omega)⟩
  obtain⟨_,hg⟩:=List.getElem?_eq_some_iff.1 hy
  have w3:IntKind.i64.wrap ((i:Int)+1)=i+1:=wrap64 (by omega) (by omega)
  have k1:=bsL_nth (mixB_nth hab hx)
  have k2:=bsL_nth hy
  have hs:=mixB_set hab hx hy
  have hll:=mixB_len hab (i:=i) (by omega)
  have higl:i<gl.length:=by omega
  cases x
  ·simp at hs
   simp[NUX,hi,k1,k2,w3,hs,hll,bsL_set,hg,higl,hy]
  ·simp at hs
   simp[NUX,hi,k1,k2,w3,hs,hll,bsL_set,hg,higl,hy]
theorem nlR_group {flags:List (List Bool)} {cs:List Int} {a:Pn} (ih:NlR a flags) (h6:(a.nl flags).length≤6) (hl:cs.length≤6) (hc:∀ c∈cs,0≤c∧c<(a.nl flags).length):NlR (.mk 8 0 [] cs [a]) flags:=by
 unfold NlR at ih ⊢
 rw[nl_group]
 rw[callA_eq rfl Tryz.func95 rfl rfl]
 rw[Pn.cells_eq a]at ih
 generalize a.nl flags=fl at *
 have hLl:(cs.map fun c=>(fl[c.toNat]?).getD false).length=cs.length:=by simp
 have hL:∀ (i:Nat) (c:Int),cs[i]?=some c→(cs.map fun(c:Int)=>(fl[c.toNat]?).getD false)[i]?=some ((fl[c.toNat]?).getD false):=fun i c h=>by rw[List.getElem?_map,h];rfl
 simp[Pn.cells_mk,Pn.cellsL,Pn.cells_eq a,ih]
 generalize (cs.map fun c=>(fl[c.toNat]?).getD false)=L at *
 rw[loop_to (NGX (Pn.mk 8 0 [] cs [a]).cells flags fl cs L fl.length) cs.length (by simp[NGX,Pn.cells_mk,Pn.cellsL,Pn.cells_eq a])]
 ·rw[execA_loop]
  have e0:L.take cs.length=L:=List.take_of_length_le (by omega)
  have hs:bsL L++[[IV.bool false]]=bsL (L++[false]):=by rw[bsL_append];rfl
  have hb:cs.length+1≤140737488355328:=by omega
  by_cases hz:cs.length=0
  ·have h0:L=[]:=List.length_eq_zero_iff.1 (by omega)
   subst h0
   simp[NGX,bsL,hz]
  ·simp[NGX,hz,gro_pos hz,groB_pos hz,hs,e0,hLl,hb]
 ·intro i hi
  obtain⟨c,hcc⟩:∃ c,cs[i]?=some c:=⟨_,List.getElem?_eq_getElem hi⟩
  obtain⟨_,hg⟩:=List.getElem?_eq_some_iff.1 hcc
  obtain⟨c0,c1⟩:=hc c (List.mem_of_getElem? hcc)
  have k1:=intsL_nth hcc
  have hcl:c.toNat<fl.length:=by omega
  have k2:=bsL_nth (List.getElem?_eq_getElem hcl)
  have w3:IntKind.i64.wrap ((i:Int)+1)=i+1:=wrap64 (by omega) (by omega)
  have hM:(L.take i).length=i:=by rw[List.length_take];omega
  have hLi:=hL i c hcc
  rw[List.getElem?_eq_getElem hcl,Option.getD_some]at hLi
  have hs:bsL (L.take i)++[[IV.bool (fl[c.toNat]'hcl)]]=bsL (L.take (i+1)):=by
   rw[take_snoc hLi,bsL_append];rfl
  have ht:(L.take i).take i=L.take i:=List.take_of_length_le (by omega)
  have hmin:min i L.length=i:=by omega
  have hb:i+1≤140737488355328:=by omega
  by_cases h0:i=0
  ·subst h0
   have hs1:bsL (L.take 1)=[[IV.bool (fl[c.toNat]'hcl)]]:=hs.symm
   simp[NGX,hi,k1,k2,c0,c1,wrap_1,hg,hs1]
  ·simp[NGX,hi,k1,k2,c0,c1,w3,hg,hcc,hb,ht,hs,hM,hmin,gro_pos h0,groB_pos h0]
theorem nullable_eq {ws:List Int} {flags:List (List Bool)} (hws:∀ w∈ws,1≤w∧w≤6) (hf:flags.map (fun fl=>(fl.length:Int))=ws):∀ (p:Pn) (lv:Nat),p.wd ws lv≠0→NlR p flags∧((p.nl flags).length:Int)=p.wd ws lv:=by
 intro p
 induction p using Pn.ind with
 | h k t es cs ks ih =>
  intro lv h
  have hrng:=Pn.wd_range (ws:=ws) (fun w hw=>by have:=hws w hw;omega)
  have hsh:=wd_shape h
  have hr0:=hrng (.mk k t es cs ks) lv
  generalize hp:Pn.mk k t es cs ks=p at hsh h hr0
  have hk:ks=p.kids:=by rw[← hp];rfl
  subst hk
  cases hsh with
  | scan t W h0 h1 hW =>
   have h2:=h1
   rw[← hf,List.getElem?_map]at h1
   obtain⟨fl,hfl,rfl⟩:=Option.map_eq_some_iff.1 h1
   have hr:=hws _ (List.mem_of_getElem? h2)
   refine⟨nlR_scan h0 hfl (fun e=>by rw[e]at hr;simp at hr) (by omega),?_⟩
   have hnl:(Pn.scan t).nl flags=fl:=by rw[Pn.nl_eq];simp[Pn.scan,nlK,hfl]
   rw[hnl,scan_wd h0 h2 lv]
  | filt m e a h1 ha he =>
   obtain⟨i1,i2⟩:=ih a (by simp[filt]) m ha
   have hr:=hrng a m
   refine⟨nlR_filt i1 i2 (by omega) (ok_wf he),?_⟩
   rw[nl_filt,nlFilt_len,i2,h1,wd_filt,if_pos ⟨ha,he⟩]
  | proj m es a h1 ha hl he =>
   obtain⟨i1,i2⟩:=ih a (by simp[proj]) m ha
   have hr:=hrng a m
   have hl':=(okWidth_iff _).1 hl
   refine⟨nlR_proj i1 i2 (by omega) (by omega) (fun e hee=>ok_wf (he e hee)),?_⟩
   rw[nl_proj,List.length_map,h1,wd_proj,if_pos ⟨ha,hl,List.all_eq_true.2 he⟩]
  | pair m k e a b h1 hk ha hb hl6 he =>
   obtain⟨i1,i2⟩:=ih a (by simp[pairP]) m ha
   obtain⟨j1,j2⟩:=ih b (by simp[pairP]) m hb
   have hra:=hrng a m
   have hrb:=hrng b m
   have n1:a.nl flags≠[]:=fun e=>by rw[e]at i2;simp at i2;omega
   have n2:b.nl flags≠[]:=fun e=>by rw[e]at j2;simp at j2;omega
   have hwd:(pairP k e a b).wd ws lv=a.wd ws m+b.wd ws m:=by rw[h1,wd_pair hk,if_pos ⟨ha,hb,hl6,he⟩]
   rw[hwd]
   rcases hk with rfl|rfl
   ·exact⟨nlR_join i1 j1 (by omega) n1 n2,by rw[nl_join,List.length_append];omega⟩
   ·exact⟨nlR_left i1 j1 (by omega) n1,by rw[nl_left,List.length_append,List.length_replicate];omega⟩
  | union m a b h1 ha hb =>
   have hb':b.wd ws m≠0:=by rw[hb];exact ha
   obtain⟨i1,i2⟩:=ih a (by simp[unionP]) m ha
   obtain⟨j1,j2⟩:=ih b (by simp[unionP]) m hb'
   have hra:=hrng a m
   refine⟨nlR_union i1 j1 (by omega) (by omega),?_⟩
   rw[nl_union,List.length_zipWith,h1,wd_union,if_pos ⟨ha,hb.symm⟩]
   omega
  | dist m a h1 ha =>
   obtain⟨i1,i2⟩:=ih a (by simp) m ha
   refine⟨nlR_dist i1,?_⟩
   rw[nl_dist,i2]
   have h':=h
   rw[h1,wd_one (by omega)]at h' ⊢
   rw[if_pos (ite_ne h').1]
   simp[wdOver]
  | group m cs a h1 ha hc ho =>
   obtain⟨i1,i2⟩:=ih a (by simp) m ha
   have hra:=hrng a m
   refine⟨nlR_group i1 (by omega) (by omega) (by rw[i2];exact colsOk_rng ho),?_⟩
   rw[nl_group,List.length_append,List.length_map]
   have h':=h
   rw[h1,wd_one (by omega)]at h' ⊢
   rw[if_pos (ite_ne h').1]
   simp[wdOver,hc,ho]
end Go.Proofs.YtiailccmofdhfaaGreat.P
namespace Go.Av
theorem evP_len (db:List Tbl) (p:Pn):(p.evP db).rows.length≤400:=by
 rw[Pn.evP_eq]
 unfold evK
 repeat' split
 all_goals exact(tab_len _ _).1
theorem rows_len {t:Tbl} (h:t.ok=true):∀ r∈t.rows,(r.length:Int)=t.w:=fun r hr=>rowOk_len (((Tbl.ok_iff t).1 h).2.2.1 r hr)
end Go.Av
namespace Go.Proofs.YtiailccmofdhfaaGreat.P
open Go Go.Av G
set_option maxRecDepth 4000
set_option maxHeartbeats 8000000
def NCX (p:Pn) (ws:List Int) (flags:List (List Bool)) (i:Nat):AS :=
 { env:=[(0, .i (.agg [.int p.kind, .int p.table, .isl (Ex.cellsL p.exprs), .isl (intsL p.cols), .isl (Pn.cellsL p.kids)])),(1, .i (.isl (intsL ws))),(2, .i (.isl (bbL flags))),(3, .own 0 0),(6, .nils),(7,jk i (.int ((i:Int)-1))),(8,jk i (.isl (bsL ((flags[i-1]?).getD [])))),(19, .bool false),(20, .i (.isl (bbL flags))),(21, .int flags.length),(22, .int i),(23,jk i (.bool true)),(33,jk i (.bool false))],
   st:=[some (.box [.i (.int p.kind), .i (.int p.table), .i (.isl (Ex.cellsL p.exprs)), .i (.isl (intsL p.cols)), .i (.isl (Pn.cellsL p.kids))])] }
theorem NullableColumns_eq {ws:List Int} {flags:List (List Bool)} (hws:∀ w∈ws,1≤w∧w≤6) (hf:flags.map (fun fl=>(fl.length:Int))=ws) (hn:ws.length<1000000) (p:Pn) (hw:okWs ws=true) (h:p.wd ws 8≠0):callA C0 55 [.i (.agg p.cells), .i (.isl (intsL ws)), .i (.isl (bbL flags))] []=some (.i (.isl (bsL (p.nl flags))),[]):=by
 have c1:=planWidth_eq p ws
 obtain⟨c2,c3⟩:=nullable_eq hws hf p 8 h
 unfold NlR at c2
 have hwd:p.width ws≠0:=by unfold Pn.width;rw[if_pos hw];exact h
 have hfl:flags.length=ws.length:=by rw[← hf];simp
 have hfl2:(flags.length:Int)=ws.length:=by omega
 have ht:(p.nl flags).take (p.nl flags).length=p.nl flags:=List.take_of_length_le (by simp)
 rw[callA_eq rfl Tryz.func55 rfl rfl]
 rw[Pn.cells_eq p]at *
 simp[c1,hwd,hfl2]
 rw[loop_to (NCX p ws flags) flags.length (by simp[NCX,hfl2])]
 ·rw[execA_loop]
  simp[NCX,c2,ht]
 ·intro i hi
  obtain⟨fl,hx⟩:∃ x,flags[i]?=some x:=⟨_,List.getElem?_eq_getElem hi⟩
  obtain⟨_,hg⟩:=List.getElem?_eq_some_iff.1 hx
  have k1:=bbL_nth hx
  have hwi:ws[i]?=some (fl.length:Int):=by rw[← hf,List.getElem?_map,hx];rfl
  have k2:=intsL_nth hwi
  have hiw:i<ws.length:=by omega
  have w3:IntKind.i64.wrap ((i:Int)+1)=i+1:=wrap64 (by omega) (by omega)
  simp[NCX,hi,k1,k2,hiw,w3,hg,hx]
@[simp] theorem ce_NullableColumns (a:List AV) (st:StL):callA CE 55 a st=callA C0 55 a st:=by
  rw[callA_prim (p:=callA CR 55) rfl,callA_prim (p:=callA C0 55) rfl]
def cN (t:Tbl) (c:Nat):Bool:=t.rows.any fun r=>((r[c]?).getD Val.zero).null
def flT (t:Tbl):List Bool:=(List.range t.w.toNat).map (cN t)
theorem flT_len (t:Tbl):(flT t).length=t.w.toNat:=by simp[flT]
def sel (i:Nat) (a b:AV):AV:=if i=0 then a else b
@[simp] theorem sel_0 (a b:AV):sel 0 a b=a:=(rfl)
@[simp] theorem sel_s (i:Nat) (a b:AV):sel (i+1) a b=b:=(rfl)
def NCS (code:List UInt8) (db:List Tbl) (pc:List AV) (t:Tbl) (m:Nat) (fb:List (List IV)) (i:Nat) (s11:AV) (tail:StL) (s12 s13 s14 s63 s73 s83:AV):AS :=
 { env:=[(0, .i (.isl (bytesI code))),(2, .bool false),(3, .own 0 0),(4, .i (.isl (tblsL db))),(5, .own 1 0),(6, .bool true),(7, .own 2 0),(8, .bool true),(9, .osl 3 1 0 m),(10, .int i),(11,s11),(12,s12),(13,s13),(14,s14),(15, .junk),(16, .junk),(17, .junk),(20, .bool false),(50, .bool false),(63,s63),(73,s73),(83,s83),(118, .junk),(123, .junk),(129, .junk),(147, .junk)],st:=[some (.box pc),some (.box [.i (.int t.w), .i (.isl (rowsL t.rows))]),some (.box [.i (.int t.w), .i (.isl (rowsL t.rows))]),some (.arr 1 fb)]++tail }
def NDS (code:List UInt8) (db:List Tbl) (pc:List AV) (t:Tbl) (m w:Nat) (s13 s14:AV) (bl:StL) (L:List Bool) (i:Nat) (s17 s123 s129 s147:AV):AS :=
 { env:=[(0, .i (.isl (bytesI code))),(2, .bool false),(3, .own 0 0),(4, .i (.isl (tblsL db))),(5, .own 1 0),(6, .bool true),(7, .own 2 0),(8, .bool true),(9, .osl 3 1 0 m),(10, .int m),(11, .osl 4 1 0 w),(12, .int w),(13,s13),(14,s14),(15, .i (.isl (bsL L))),(16, .int i),(17,s17),(20, .bool false),(50, .bool false),(63, .bool false),(73, .bool false),(83, .bool false),(118, .bool false),(123,s123),(129,s129),(147,s147)],st:=[some (.box pc),some (.box [.i (.int t.w), .i (.isl (rowsL t.rows))]),some (.box [.i (.int t.w), .i (.isl (rowsL t.rows))])]++bl }
def l12:Option Tbl→AV
 | none=>.junk
 | some t=>.int t.w.toNat
def l11:Option Tbl→AV
 | none=>.junk
 | some t=>.osl 4 1 0 t.w.toNat
def l13:Option Tbl→AV
 | none=>.junk
 | some t=>.bool (cN t (t.w.toNat-1))
def l14:Option Tbl→AV
 | none=>.junk
 | some t=>.int t.rows.length
def lF:Option Tbl→AV
 | none=>.junk
 | some _=>.bool false
def lT:Option Tbl→AV
 | none=>.junk
 | some _=>.bool true
def lB:Option Tbl→StL
 | none=>[]
 | some t=>[some (.frz 1 (bsL (flT t)))]
def pvT (db:List Tbl):Nat→Option Tbl
 | 0=>none
 | i+1=>db[i]?
def pwT (db:List Tbl) (i:Nat):Option Tbl:=pvT db i
@[simp] theorem i12 (o:Option Tbl):idsOf (l12 o)=[]:=by cases o<;>rfl
@[simp] theorem i13 (o:Option Tbl):idsOf (l13 o)=[]:=by cases o<;>rfl
@[simp] theorem i14 (o:Option Tbl):idsOf (l14 o)=[]:=by cases o<;>rfl
@[simp] theorem iF (o:Option Tbl):idsOf (lF o)=[]:=by cases o<;>rfl
@[simp] theorem r12 (r:Nat→Option Nat) (o:Option Tbl):ren r (l12 o)=l12 o:=by cases o<;>rfl
@[simp] theorem r13 (r:Nat→Option Nat) (o:Option Tbl):ren r (l13 o)=l13 o:=by cases o<;>rfl
@[simp] theorem r14 (r:Nat→Option Nat) (o:Option Tbl):ren r (l14 o)=l14 o:=by cases o<;>rfl
@[simp] theorem rF (r:Nat→Option Nat) (o:Option Tbl):ren r (lF o)=lF o:=by cases o<;>rfl
theorem idsOf_sel (i:Nat) (a b:AV):idsOf (sel i a b)=if i=0 then idsOf a else idsOf b:=by unfold sel;split<;>rfl
theorem ren_sel (r:Nat→Option Nat) (i:Nat) (a b:AV):ren r (sel i a b)=sel i (ren r a) (ren r b):=by unfold sel;split<;>rfl
theorem law_nullableColumns (code:List UInt8):callA CE 23 [.i (.isl (bytesI code))] []=some (.bool true,[]):=by
 rw[callA_eq rfl Tryz.func23 rfl rfl]
 by_cases hl:(1048576:Int)<code.length
 ·simp[bytesI_length,hl]
 obtain⟨p,db,hd,hp⟩:=drawEval_eq code
 have e1:=EvalPlan_eq p db hp.small hp.fit
 have e2:=sEvalPlan_eq p hp.thin db (by have:=hp.len;omega) hp.small
 cases hev:evOk p db with
 | false =>
  have e3:=eq_zero
  simp only[hev,Bool.false_eq_true,if_false]at e1 e2
  rw[Pn.cells_eq p]at *
  simp[bytesI_length,hl,hd,e1,e2,e3]
 | true =>
  have hD:=evOk_iff.1 hev
  obtain⟨g1,g2⟩:=hD.good
  have e3:=eq_same g1
  simp only[hev,if_true]at e1 e2
  have hlen:=hp.len
  have e5:=lwidthsOf_eq db (by omega)
  have hdl:=(okWs_len hD.ws).1
  rw[List.length_map]at hdl
  have hw6:∀ T∈db,1≤T.w∧T.w≤6:=fun T hT=>(okWidth_iff _).1 ((Tbl.ok_iff T).1 (hD.ok T hT)).1
  have hrl:∀ T∈db,∀ r∈T.rows,(r.length:Int)=T.w:=fun T hT r hr=>rowOk_len (((Tbl.ok_iff T).1 (hD.ok T hT)).2.2.1 r hr)
  have hr5:=hp.rows
  have hff:(db.map flT).map (fun fl=>(fl.length:Int))=db.map Tbl.w:=by
   rw[List.map_map]
   refine List.map_congr_left fun T hT=>?_
   have:=hw6 T hT
   simp only[Function.comp,flT_len];omega
  have hN:=NullableColumns_eq (ws:=db.map Tbl.w) (flags:=db.map flT) (fun w hw=>by obtain⟨T,hT,rfl⟩:=List.mem_map.1 hw;exact hw6 T hT) hff (by simp;omega) p hD.ws hD.wd
  obtain⟨n1,n2⟩:=ev_null (flags:=db.map flT) rfl hD.ok (fun i T hT=>⟨flT T,by rw[List.getElem?_map,hT];rfl,by have:=hw6 T (List.mem_of_getElem? hT);rw[flT_len];omega,fun r hr j v hv hn=>by
   have:=hrl T (List.mem_of_getElem? hT) r hr
   have hj:=(List.getElem?_eq_some_iff.1 hv).1
   unfold flT
   rw[List.getElem?_map,List.getElem?_range (by omega),Option.map_some]
   congr 1
   unfold cN
   rw[List.any_eq_true]
   exact⟨r,hr,by rw[hv];exact hn⟩⟩) p 8 hD.wd
  have hrows:=rows_len g1
  have h400:=evP_len db p
  have htw:=(okWidth_iff _).1 ((Tbl.ok_iff _).1 g1).1
  have n3:((p.nl (db.map flT)).length:Int)=(p.evP db).w:=by rw[n1,g2]
  clear hp hD hev g1 g2 n1 hff
  rw[Pn.cells_eq p]at *
  generalize p.evP db=t at *
  generalize hL:p.nl (db.map flT)=L at *
  simp[bytesI_length,hl,hd,e1,e2,e3]
  rw[loop_to (fun i=>NCS code db [.i (.int p.kind), .i (.int p.table), .i (.isl (Ex.cellsL p.exprs)), .i (.isl (intsL p.cols)), .i (.isl (Pn.cellsL p.kids))] t i (bbL ((db.map flT).take i)) i (l11 (pvT db i)) (lB (pvT db i)) (l12 (pwT db i)) (l13 (pwT db i)) (l14 (pwT db i)) (lT (pwT db i)) (lF (pwT db i)) (lF (pwT db i))) db.length (by simp[NCS,pvT,pwT,l11,l12,l13,l14,lT,lF,lB,bbL])]
  ·rw[execA_loop]
   obtain⟨n,hn⟩:∃ n,db.length=n+1:=⟨db.length-1,by omega⟩
   obtain⟨T,hT⟩:∃ T,db[n]?=some T:=⟨_,List.getElem?_eq_getElem (by omega)⟩
   have hpv:pvT db db.length=some T:=by rw[hn];exact hT
   have hall:(db.map flT).take db.length=db.map flT:=List.take_of_length_le (by simp)
   have hpw:pwT db db.length=some T:=hpv
   have hbt2:List.take db.length (bbL (db.map flT))=bbL (db.map flT):=List.take_of_length_le (by simp)
   simp only[hpv,hpw,hall]
   simp[NCS,l11,l12,l13,l14,lT,lF,lB,e5,hN,n3,hbt2]
   rw[loop_to (fun i=>NDS code db [.i (.int p.kind), .i (.int p.table), .i (.isl (Ex.cellsL p.exprs)), .i (.isl (intsL p.cols)), .i (.isl (Pn.cellsL p.kids))] t db.length T.w.toNat (.bool (cN T (T.w.toNat-1))) (.int T.rows.length) [some (.frz 1 (bbL (db.map flT))),some (.frz 1 (bsL (flT T)))] L i (sel i .junk (.int t.w.toNat)) (sel i .junk (.bool true)) (sel i .junk (.bool false)) (sel i .junk (.bool false))) t.rows.length (by simp[NDS])]
   ·rw[execA_loop]
    simp[NDS,idsOf_sel,ren_sel]
   ·intro i hi
    obtain⟨r,hr⟩:∃ r,t.rows[i]?=some r:=⟨_,List.getElem?_eq_getElem hi⟩
    have k1:=rowsL_nth hr
    have hrw:=hrows r (List.mem_of_getElem? hr)
    have w3:IntKind.i64.wrap ((i:Int)+1)=i+1:=wrap64 (by omega) (by omega)
    simp[NDS,hi,idsOf_sel,ren_sel]
    rw[loop_to (fun c=>NDS code db [.i (.int p.kind), .i (.int p.table), .i (.isl (Ex.cellsL p.exprs)), .i (.isl (intsL p.cols)), .i (.isl (Pn.cellsL p.kids))] t db.length T.w.toNat (.bool (cN T (T.w.toNat-1))) (.int T.rows.length) [some (.frz 1 (bbL (db.map flT))),some (.frz 1 (bsL (flT T)))] L i (.int c) (.bool true) (sel c (sel i .junk (.bool false)) (.bool true)) (sel c (sel i .junk (.bool false)) (.bool false))) t.w.toNat (by simp[NDS])]
    ·rw[execA_loop]
     have hz:(t.w.toNat:Int)=t.w:=by omega
     have hmx:max t.w 0=t.w:=by omega
     have hw0t:t.w.toNat≠0:=by omega
     have hw1t:¬ t.w≤0:=by omega
     simp[NDS,sel,hz,hmx,hw0t,hw1t,w3]
    ·intro c hc
     obtain⟨v,hv⟩:∃ v,r[c]?=some v:=⟨_,List.getElem?_eq_getElem (by omega)⟩
     have k2:=valsL_nth hv
     have hcr:c<r.length:=by omega
     have hcL:c<L.length:=by omega
     have hct:(c:Int)<t.w:=by omega
     obtain⟨b,hb⟩:∃ b,L[c]?=some b:=⟨_,List.getElem?_eq_getElem hcL⟩
     have k3:=bsL_nth hb
     have w4:IntKind.i64.wrap ((c:Int)+1)=c+1:=wrap64 (by omega) (by omega)
     have hno:v.null=true→b=true:=fun h=>by
      have:=n2 r (List.mem_of_getElem? hr) c v hv h
      rw[hb]at this;injection this
     obtain⟨vn,vv⟩:=v
     cases vn
     ·simp[NDS,idsOf_sel,ren_sel,hi,hct,hcr,hcL,k1,k2,k3,w4]
     ·have:=hno rfl
      subst this
      simp[NDS,idsOf_sel,ren_sel,hi,hct,hcr,hcL,k1,k2,k3,w4]
  ·intro i hi
   obtain⟨T,hT⟩:∃ T,db[i]?=some T:=⟨_,List.getElem?_eq_getElem hi⟩
   have hTm:=List.mem_of_getElem? hT
   have k1:=tblsL_nth hT
   have hTw:=hw6 T hTm
   have hT5:=hr5 T hTm
   have hTr:=hrl T hTm
   have w3:IntKind.i64.wrap ((i:Int)+1)=i+1:=wrap64 (by omega) (by omega)
   have hpv:pvT db (i+1)=some T:=hT
   have htk:(db.map flT).take (i+1)=(db.map flT).take i++[flT T]:=take_snoc (by rw[List.getElem?_map,hT];rfl)
   have hln:((db.map flT).take i).length=i:=by simp;omega
   have htt:((db.map flT).take i).take i=(db.map flT).take i:=List.take_of_length_le (by omega)
   have hbi:(i+1)*24≤140737488355328:=by omega
   have happ:bbL ((db.map flT).take i)++[[.isl (bsL (flT T))]]=bbL ((db.map flT).take (i+1)):=by rw[htk];simp[bbL]
   have hbl:(bbL ((db.map flT).take i)).length=i:=by rw[bbL_length];exact hln
   have hbt:(bbL ((db.map flT).take i)).take i=bbL ((db.map flT).take i):=List.take_of_length_le (by omega)
   have hz:(T.w.toNat:Int)=T.w:=by omega
   have hfull:(flT T).take T.w.toNat=flT T:=List.take_of_length_le (by rw[flT_len];omega)
   have hfl:=flT_len T
   have hpw:pwT db (i+1)=some T:=hT
   simp only[hpv,hpw]
   rw[← happ]
   generalize bbL ((db.map flT).take i)=FB at *
   generalize pvT db i=o at *
   generalize pwT db i=o2 at *
   have hw0:T.w.toNat≠0:=by omega
   have hb24:24*(i+1)≤140737488355328:=by omega
   cases o <;>
   (simp[NCS,hi,l11,lB]
    rw[loop_to (fun c=>NCS code db [.i (.int p.kind), .i (.int p.table), .i (.isl (Ex.cellsL p.exprs)), .i (.isl (intsL p.cols)), .i (.isl (Pn.cellsL p.kids))] t i FB i (.osl 4 1 0 c) [some (.arr 1 (bsL ((flT T).take c)))] (.int c) (sel c (l13 o2) (.bool (cN T (c-1)))) (sel c (l14 o2) (.int T.rows.length)) (.bool true) (sel c (lF o2) (.bool true)) (sel c (lF o2) (.bool false))) T.w.toNat (by simp[NCS,bsL])]
    ·rw[execA_loop]
     simp[NCS,idsOf_sel,ren_sel,k1,hi,hz,hfull,hfl,hbl,hbt,hbi,w3,l11,l12,l13,l14,lT,lF,lB,sel,hw0]
    ·intro c hc
     have hct:(c:Int)<T.w:=by omega
     have hnc:(flT T)[c]?=some (cN T c):=by unfold flT;rw[List.getElem?_map,List.getElem?_range hc,Option.map_some]
     have hsn:bsL ((flT T).take c)++[[IV.bool (cN T c)]]=bsL ((flT T).take (c+1)):=by rw[take_snoc hnc,bsL_append];rfl
     have hcl:((flT T).take c).length=c:=by rw[List.length_take,flT_len];omega
     have hct2:((flT T).take c).take c=(flT T).take c:=List.take_of_length_le (by omega)
     have hbc:c+1≤140737488355328:=by omega
     have w4:IntKind.i64.wrap ((c:Int)+1)=c+1:=wrap64 (by omega) (by omega)
     generalize hF2:(flT T).take (c+1)=F2 at *
     generalize hF1:(flT T).take c=F1 at *
     simp[NCS,idsOf_sel,ren_sel,k1,hi,hct,hF1,hF2]
     rw[loop_to (fun k=>NCS code db [.i (.int p.kind), .i (.int p.table), .i (.isl (Ex.cellsL p.exprs)), .i (.isl (intsL p.cols)), .i (.isl (Pn.cellsL p.kids))] t i FB i (.osl 4 1 0 c) [some (.arr 1 (bsL F1))] (.int c) (.bool ((T.rows.take k).any fun r=>((r[c]?).getD Val.zero).null)) (.int k) (.bool true) (.bool true) (sel k (sel c (lF o2) (.bool false)) (.bool true))) T.rows.length (by simp[NCS])]
     ·rw[execA_loop]
      have hany:((T.rows.take T.rows.length).any fun r=>((r[c]?).getD Val.zero).null)=cN T c:=by rw[List.take_length];rfl
      simp only[hany]
      generalize cN T c=bb at *
      simp[NCS,idsOf_sel,ren_sel,k1,hi,w4,hcl,hct2,hbc,hsn]
     ·intro k hk
      obtain⟨r,hr⟩:∃ r,T.rows[k]?=some r:=⟨_,List.getElem?_eq_getElem hk⟩
      have k2:=rowsL_nth hr
      have hrw:=hTr r (List.mem_of_getElem? hr)
      have hcr:c<r.length:=by omega
      obtain⟨v,hv⟩:∃ v,r[c]?=some v:=⟨_,List.getElem?_eq_getElem hcr⟩
      have k3:=valsL_nth hv
      have w5:IntKind.i64.wrap ((k:Int)+1)=k+1:=wrap64 (by omega) (by omega)
      have hsn2:((T.rows.take (k+1)).any fun r=>((r[c]?).getD Val.zero).null)=(((T.rows.take k).any fun r=>((r[c]?).getD Val.zero).null) || v.null):=by rw[take_snoc hr,List.any_append];simp[hv]
      simp only[hsn2]
      generalize ((T.rows.take k).any fun r=>((r[c]?).getD Val.zero).null)=b1
      cases b1<;>simp[NCS,idsOf_sel,ren_sel,k1,k2,k3,hi,hk,hcr,w5])
structure Mt (V:Pn) (A B C:Tbl):Prop where
 thin:V.thin
 bd:∀ n:Nat,1≤n→V.bd n≤n
 ok:∀ T∈[A,B,C],T.ok=true
 rows:∀ T∈[A,B,C],T.rows.length≤4
theorem Mt.fit {V:Pn} {A B C:Tbl} (h:Mt V A B C) {lv:Nat} (hw:V.wd ([A,B,C].map Tbl.w) lv≠0):V.fit [A,B,C]=true∧(V.evP [A,B,C]).rows.length≤4:=by
 have hb:=h.bd 4 (by omega)
 obtain⟨h1,h2⟩:=bd_fit (n:=4) (by omega) rfl (fun T hT=>⟨h.ok T hT,h.rows T hT⟩) V lv hw (by omega)
 exact⟨h1,by omega⟩
structure MtL (V:Pn) (A B C:Tbl) (t:Int) (R:Tbl):Prop where
 wd:V.wd ([A,B,C].map Tbl.w) 8≠0
 width:V.width ([A,B,C].map Tbl.w)≠0
 ht:t=0∨t=1∨t=2
 ns:scP t V=false
 can:canB V ([A,B,C].map Tbl.w) t=true
 rok:R.ok=true
 rlen:R.rows.length≤4
 fit:V.fit [A,B,C]=true
 ok:∀ T∈[A,B,C].set t.toNat R,T.ok=true
 ws:([A,B,C].set t.toNat R).map Tbl.w=[A,B,C].map Tbl.w
 ev:V.evP ([A,B,C].set t.toNat R)=R
 fit2:V.fit ([A,B,C].set t.toNat R)=true
 at0:([A,B,C].map Tbl.w)[t.toNat]?=some (V.wd ([A,B,C].map Tbl.w) 8)
end Go.Proofs.YtiailccmofdhfaaGreat.P
namespace Go.Proofs.YtiailccmofdhfaaGreat.P
open Go Go.Av
set_option maxRecDepth 4000
set_option maxHeartbeats 4000000
end Go.Proofs.YtiailccmofdhfaaGreat.P
namespace Go.Av
end Go.Av
namespace Go.Proofs.YtiailccmofdhfaaGreat.P
open Go Go.Av G
set_option maxRecDepth 4000
set_option maxHeartbeats 8000000
set_option maxHeartbeats 4000000
theorem law_nullableColumns_calls (a:Option Addr) (len cap:Nat) (zs:List Int) (w:World)
 (h:(a=none∧len=0∧cap=0∧zs=[])∨∃ x,a=some x∧len≤cap∧cap≤maxLen∧zs.length=cap∧(∀ i,i<zs.length→w.cell? (x.add i)=some (.int .u8 (zs.getD i 0)))∧∀ n∈zs,(Lit.int .u8 n).wf=true) :
 Calls Tryz.prog 23 #[.slice a len cap] w fun e w'=>e=.returned (.bool true)∧RowKit.Below w.heap.size w w':=by
 obtain⟨code,hc⟩:=bytes_rep h
 exact calls_true soundE (.cons (.i hc) .nil) (law_nullableColumns code)
end Go.Proofs.YtiailccmofdhfaaGreat.P
namespace Go.Proofs.YtiailccmofdhfaaGreat.io
open Go
set_option maxRecDepth 100000
abbrev chs (l:List Nat):List Char:=l.map Char.ofNat
def w0:List Nat:=[104,97,114,110,101,115,115]
def w1:List Nat:=[50,56,102,97,49,53,98,56,52,99,100,48,101,100,100,56,51,100,100,98,102,101,53,102,55,50,99,97,49,49,55,50,56,49,53,101,97,102,100,102,
 50,97,54,48,99,102,98,101,56,57,48,100,53,97,56,97,97,102,100,53,56,48,102,52]
def w2:List Nat:=[99,117,116]
def others:List Nat:=[
 97,116,32,108,111,111,112,46,101,120,97,109,112,108,101,47,113,117,101,114,121,111,112,116,105,109,105,122,101,114,47,108,97,119,115,46,70,110,80,108,
 97,110,67,111,115,116,32,108,111,111,112,46,101,120,97,109,112,108,101,47,113,117,101,114,121,111,112,116,105,109,105,122,101,114,47,108,97,119,115,46,
 70,110,71,114,111,117,112,67,111,117,110,116,115,32,108,111,111,112,46,101,120,97,109,112,108,101,47,113,117,101,114,121,111,112,116,105,109,105,122,101,
 114,47,108,97,119,115,46,70,110,71,114,111,117,112,75,101,121,115,32,108,111,111,112,46,101,120,97,109,112,108,101,47,113,117,101,114,121,111,112,116,
 105,109,105,122,101,114,47,108,97,119,115,46,70,110,80,114,111,106,101,99,116,65,108,108,32,108,111,111,112,46,101,120,97,109,112,108,101,47,113,117,
 101,114,121,111,112,116,105,109,105,122,101,114,47,108,97,119,115,46,70,110,83,99,97,110,32,108,111,111,112,46,101,120,97,109,112,108,101,47,113,117,
 101,114,121,111,112,116,105,109,105,122,101,114,47,108,97,119,115,46,70,110,85,110,105,111,110,83,119,97,112,32,108,111,111,112,46,101,120,97,109,112,
 108,101,47,113,117,101,114,121,111,112,116,105,109,105,122,101,114,47,108,97,119,115,46,70,110,70,105,108,116,101,114,67,111,110,115,116,97,110,116,32,
 108,111,111,112,46,101,120,97,109,112,108,101,47,113,117,101,114,121,111,112,116,105,109,105,122,101,114,47,108,97,119,115,46,70,110,74,111,105,110,70,
 105,108,116,101,114,32,108,111,111,112,46,101,120,97,109,112,108,101,47,113,117,101,114,121,111,112,116,105,109,105,122,101,114,47,108,97,119,115,46,70,
 110,68,105,115,116,105,110,99,116,85,110,105,111,110,32,108,111,111,112,46,101,120,97,109,112,108,101,47,113,117,101,114,121,111,112,116,105,109,105,122,
 101,114,47,108,97,119,115,46,70,110,70,105,108,116,101,114,84,119,105,99,101,32,108,111,111,112,46,101,120,97,109,112,108,101,47,113,117,101,114,121,
 111,112,116,105,109,105,122,101,114,47,108,97,119,115,46,70,110,69,118,97,108,80,108,97,110,32,108,111,111,112,46,101,120,97,109,112,108,101,47,113,
 117,101,114,121,111,112,116,105,109,105,122,101,114,47,108,97,119,115,46,70,110,77,97,116,101,114,105,97,108,105,122,101,32,108,111,111,112,46,101,120,
 97,109,112,108,101,47,113,117,101,114,121,111,112,116,105,109,105,122,101,114,47,108,97,119,115,46,70,110,70,105,108,116,101,114,83,112,108,105,116,115,
 32,108,111,111,112,46,101,120,97,109,112,108,101,47,113,117,101,114,121,111,112,116,105,109,105,122,101,114,47,108,97,119,115,46,70,110,76,101,102,116,
 74,111,105,110,75,101,101,112,115,32,108,111,111,112,46,101,120,97,109,112,108,101,47,113,117,101,114,121,111,112,116,105,109,105,122,101,114,47,108,97,
 119,115,46,70,110,74,111,105,110,73,110,76,101,102,116,74,111,105,110,32,108,111,111,112,46,101,120,97,109,112,108,101,47,113,117,101,114,121,111,112,
 116,105,109,105,122,101,114,47,108,97,119,115,46,70,110,82,111,119,66,111,117,110,100,32,108,111,111,112,46,101,120,97,109,112,108,101,47,113,117,101,
 114,121,111,112,116,105,109,105,122,101,114,47,108,97,119,115,46,70,110,84,97,98,108,101,115,79,102,32,108,111,111,112,46,101,120,97,109,112,108,101,
 47,113,117,101,114,121,111,112,116,105,109,105,122,101,114,47,108,97,119,115,46,70,110,73,115,68,117,112,108,105,99,97,116,101,70,114,101,101,32,108,
 111,111,112,46,101,120,97,109,112,108,101,47,113,117,101,114,121,111,112,116,105,109,105,122,101,114,47,108,97,119,115,46,70,110,69,120,112,97,110,100,
 82,101,115,117,108,116,32,108,111,111,112,46,101,120,97,109,112,108,101,47,113,117,101,114,121,111,112,116,105,109,105,122,101,114,47,108,97,119,115,46,
 70,110,86,105,101,119,82,101,115,117,108,116,32,108,111,111,112,46,101,120,97,109,112,108,101,47,113,117,101,114,121,111,112,116,105,109,105,122,101,114,
 47,108,97,119,115,46,70,110,78,117,108,108,97,98,108,101,67,111,108,117,109,110,115]
theorem order:Tryz.pinned.checked.prog.initOrder=String.ofList (chs w0++Char.ofNat 32::(chs w1++Char.ofNat 32::(chs w2++Char.ofNat 32::chs others))):=by kernel_rfl
theorem word:∀ (w r:List Char),(w.all fun c=>decide (c≠Char.ofNat 32))=true→wordsSigns (w++Char.ofNat 32::r)=w::wordsSigns r
 | [],r,_=>rfl
 | c::w,r,h=>by
  simp only[List.all_cons,Bool.and_eq_true,decide_eq_true_eq]at h
  have ih:=word w r h.2
  rw[List.cons_append,wordsSigns,ih]
  intro e
  exact h.1 e
theorem words:wordsSigns Tryz.pinned.checked.prog.initOrder.toList=chs w0::chs w1::chs w2::wordsSigns (chs others):=by
 rw[order,String.toList_ofList,word _ _ (by decide),word _ _ (by decide),word _ _ (by decide)]
theorem strip_none (c:List Char) (r:List (List Char)):∀ l:List String,(l.all fun o=>!(c == o.toList))=true→stripLifts l (c::r)=([],c::r)
 | [],_=>rfl
 | o::l,h=>by
  simp only[List.all_cons,Bool.and_eq_true,Bool.not_eq_true']at h
  have ih:=strip_none c r l h.2
  rw[stripLifts,h.1]
  exact ih
theorem behind (a b c:List Char) (r:List (List Char)) (ha:a= "harness".toList) (hb:isSumSigns b=true):behindMainWord (a::b::c::r)=c::r:=by
 show(if((a == "harness".toList || a == "ownmain".toList) && isSumSigns b)=true then c::r else a::b::c::r)=c::r
 rw[if_pos (by rw[hb,ha];simp)]
theorem enters_of (P:Program) (c:List Char) (r:List (List Char)) (h:behindMainWord (wordsSigns P.initOrder.toList)=c::r) (hc:c= "cut".toList) (hs:stripLifts liftWords (c::r)=([],c::r)) (l1:P.laysLater=false) (l2:P.bearsReflect=false) (l3:P.doorFits []=true):P.mayEnter=true:=by
 unfold Program.mayEnter
 rw[h]
 simp only[hs,l1,l2,l3]
 simp[hc]
theorem lifts_of (P:Program) (c:List Char) (r:List (List Char)) (h:behindMainWord (wordsSigns P.initOrder.toList)=c::r) (hc:c= "cut".toList) (hs:stripLifts liftWords (c::r)=([],c::r)):P.liftsFinal=false:=by
 unfold Program.liftsFinal Program.headLifts
 rw[h]
 simp only[hs]
 simp[hc]
theorem makes_of (P:Program) (c:List Char) (r:List (List Char)) (h:behindMainWord (wordsSigns P.initOrder.toList)=c::r) (hc:c= "cut".toList):P.make=some .cut:=by
 unfold Program.make
 rw[h]
 simp[hc]
theorem front:behindMainWord (wordsSigns Tryz.pinned.checked.prog.initOrder.toList)=chs w2::wordsSigns (chs others):=by
 rw[words,behind _ _ _ _ (by decide +kernel) (by decide +kernel)]
theorem cut2:chs w2= "cut".toList:=by decide +kernel
theorem strips (r:List (List Char)):stripLifts liftWords (chs w2::r)=([],chs w2::r):=strip_none _ _ _ (by decide +kernel)
theorem enters:Tryz.pinned.checked.prog.mayEnter=true:=enters_of _ _ _ front cut2 (strips _) (by kernel_rfl) (by kernel_rfl) (by kernel_rfl)
theorem lifts:Tryz.pinned.checked.prog.liftsFinal=false:=lifts_of _ _ _ front cut2 (strips _)
theorem makes:Tryz.pinned.checked.prog.make=some .cut:=makes_of _ _ _ front cut2
theorem laid:laidOutB Tryz.pinned.checked.prog=true:=by kernel_rfl
theorem rowed:mapsRowed Tryz.pinned.checked.prog=true:=by kernel_rfl
theorem noStops:Tryz.pinned.checked.prog.stops=[]:=by kernel_rfl
theorem noKnobs:Tryz.pinned.checked.prog.stopKnobs=[]:=by kernel_rfl
theorem plain:Tryz.pinned.checked.prog.plainKeys=true:=by kernel_rfl
theorem heard:Tryz.pinned.checked.prog.stopsHeard=true:=by kernel_rfl
theorem band {a b:Bool} (h:a=true) (k:b=true):(a && b)=true:=by rw[h,k];rfl
end Go.Proofs.YtiailccmofdhfaaGreat.io

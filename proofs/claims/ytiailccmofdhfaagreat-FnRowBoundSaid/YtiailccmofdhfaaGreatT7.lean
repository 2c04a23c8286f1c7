/- Part 7 of what the proof rests on: the executor and what it is worth, and the program's functions as it runs them. No condition. -/
import Derived.Test.YtiailccmofdhfaaGreatT6
import Derived.Test.YtiailccmofdhfaaGreatRows
import Derived.WalkKit
import Derived.ProofKit
import Derived.Below
import Derived.JoinedOf
set_option linter.unusedVariables false
set_option linter.unusedSimpArgs false
namespace Go.Proofs.YtiailccmofdhfaaGreat.P
open Go Go.Av
set_option maxRecDepth 4000
set_option maxHeartbeats 8000000
def bl (n:Nat):Nat:=if n=0 then 0 else 1
def rX (b:Nat) (P:Pn):AV:=.agg [.int P.kind, .int P.table,gro b 5 P.exprs.length,gro (b+bl P.exprs.length) 1 P.cols.length,gro (b+bl P.exprs.length+bl P.cols.length) 5 P.kids.length]
def rS (P:Pn):StL:=groB 5 (Ex.cellsL P.exprs) P.exprs.length++(groB 1 (intsL P.cols) P.cols.length++groB 5 (Pn.cellsL P.kids) P.kids.length)
@[simp] theorem cq_plan (a:List AV) (st:StL):callA CQ 119 a st=callA CP 119 a st:=by rw[callA_prim (p:=callA CP 119) rfl]
@[simp] theorem cq_filterOf (a:List AV) (st:StL):callA CQ 121 a st=bodyA C0 true 121 a st:=by rw[callA_prim (p:=bodyA C0 true 121) rfl]
@[simp] theorem cq_planWidth (a:List AV) (st:StL):callA CQ 102 a st=callA CP 102 a st:=by rw[callA_prim (p:=lookC (callA C0) 102) rfl,callA_prim (p:=lookC (callA C0) 102) rfl]
@[simp] theorem cq_copyPlan (a:List AV) (st:StL):callA CQ 123 a st=callA CP 123 a st:=by rw[callA_prim (p:=frzO (callA C0) 123) rfl,callA_prim (p:=frzO (callA C0) 123) rfl]
@[simp] theorem cq_pick (a:List AV) (st:StL):callA CQ 98 a st=callA C0 98 a st:=by rw[callA_prim (p:=callA C0 98) rfl]
@[simp] theorem cq_one (a:List AV) (st:StL):callA CQ 124 a st=callA C0 124 a st:=by rw[callA_prim (p:=callA C0 124) rfl]
@[simp] theorem cq_cond (a:List AV) (st:StL):callA CQ 122 a st=callA C0 122 a st:=by rw[callA_prim (p:=callA C0 122) rfl]
@[simp] theorem cq_expr (a:List AV) (st:StL):callA CQ 167 a st=callA C0 167 a st:=by rw[callA_prim (p:=callA C0 167) rfl]
theorem filterOf_own (e:Ex) (p:Pn):bodyA C0 true 121 [.i (.agg e.cells), .i (.agg p.cells)] []=some (.agg [.int 2, .int 0, .osl 0 5 0 1, .nils, .osl 1 5 0 1],[some (.arr 5 [e.cells]),some (.arr 5 [p.cells])]):=by
 rw[bodyA_eq Tryz.func121 rfl rfl,Ex.cells_eq,Pn.cells_eq]
 simp
def RootOk (l:List UInt8) (ws:List Int) (k d j c:Nat):Prop:=∀ p u:Int,0≤p→p+c<300000000→0≤u→u≤1→∃ (P:Pn) (p' u':Int) (j':Nat),
    bodyA CQ true 119 [.own 0 0, .int d] (PSt l ws k j u p)=some (rX 3 P,PSt l ws k j' u' p'++rS P)∧Th P j j' u u'∧p≤p'∧p'≤p+c∧j'≤j∧0≤u'∧u'≤1∧P.exprs.length≤2∧P.cols.length≤1
theorem root_scan {l:List UInt8} {ws:List Int} {k:Nat} {d j:Nat} {p u t:Int} (hd:d<100) (ht:callA C0 98 [.own 0 0, .int k] [Rd l p]=some (.int t,[Rd l (p+1)])) (hv:callA C0 98 [.own 0 0, .int 6] [Rd l (p+1)]=some (.int 0,[Rd l (p+1+1)])) :
 bodyA CQ true 119 [.own 0 0, .int ((d+1:Nat):Int)] (PSt l ws k j u p)=some (rX 3 (Pn.scan t),PSt l ws k j u (p+1+1)++rS (Pn.scan t)):=by
 have wn:¬ ((d:Int)+1=0):=by omega
 rw[bodyA_eq Tryz.func119 rfl rfl]
 simp[PSt,ht,hv,wn,rX,rS,bl,Pn.scan]
theorem root_filter0 {l:List UInt8} (hl:l.length≤2000) {ws:List Int} {k:Nat} {d j c2:Nat} {p u t v W kk p1 u1:Int} {j1:Nat} {K:Pn} (hd:d<100) (h1:p1+400+c2<300000000) (hp1:0≤p1) (hu0:0≤u1) (hu1:u1≤1) (hW0:0≤W) (hW6:W≤6) (hKB:Th K j j1 u u1)
 (ht:callA C0 98 [.own 0 0, .int k] [Rd l p]=some (.int t,[Rd l (p+1)])) (hv:callA C0 98 [.own 0 0, .int 6] [Rd l (p+1)]=some (.int v,[Rd l (p+1+1)])) (v0:¬ v=0)
 (hkid:callA CP 119 [.own 0 0, .int d] (PSt l ws k j u (p+1+1))=some (.i (.agg K.cells),PSt l ws k j1 u1 p1))
 (hW:callA CP 102 [.i (.agg K.cells), .osl 0 1 0 k, .int 8] [some (.arr 1 (intsL ws))]=some (.int W,[some (.arr 1 (intsL ws))]))
 (hkk:callA C0 98 [.own 0 0, .int 10] [Rd l p1]=some (.int kk,[Rd l (p1+1)])) (hq:kk=0):∃ (P:Pn) (p' u':Int) (j':Nat),bodyA CQ true 119 [.own 0 0, .int ((d+1:Nat):Int)] (PSt l ws k j u p)=some (rX 3 P,PSt l ws k j' u' p'++rS P)∧Th P j j' u u'∧p1≤p'∧p'≤p1+400+c2∧j'≤j1∧0≤u'∧u'≤1∧P.exprs.length≤2∧P.cols.length≤1:=by
 have we:IntKind.i64.wrap (d:Int)=d:=wrap64 (by omega) (by omega)
 have hK:=hKB.1
 have wn:¬ ((d:Int)+1=0):=by omega
 simp only[PSt]at hkid
 rw[Pn.cells_eq K]at hkid hW
 obtain⟨e,p2,he,a1,a2,a3⟩:=randomCondition_eq l hl W (p1+1) (by omega) (by omega)
 have hf:=filterOf_own e K
 rw[Pn.cells_eq K,Ex.cells_eq e]at hf
 rw[Ex.cells_eq e]at he
 refine⟨filtP e K,p2,u1,j1,?_,Th.one (filtP_thin (by omega) hK) hKB,by omega,by omega,by omega,by omega,by omega,by simp[filtP,Pn.scan],by simp[filtP,Pn.scan]⟩
 rw[bodyA_eq Tryz.func119 rfl rfl]
 simp[PSt,ht,hv,v0,we,hkid,hW,hkk,wn,hq,rX,rS,bl,he,hf,filtP,Ex.cellsL,intsL,Pn.cellsL,Pn.cells_eq K,Ex.cells_eq e]
theorem root_filter1 {l:List UInt8} (hl:l.length≤2000) {ws:List Int} {k:Nat} {d j c2:Nat} {p u t v W kk p1 u1:Int} {j1:Nat} {K:Pn} (hd:d<100) (h1:p1+400+c2<300000000) (hp1:0≤p1) (hu0:0≤u1) (hu1:u1≤1) (hW0:0≤W) (hW6:W≤6) (hKB:Th K j j1 u u1)
 (ht:callA C0 98 [.own 0 0, .int k] [Rd l p]=some (.int t,[Rd l (p+1)])) (hv:callA C0 98 [.own 0 0, .int 6] [Rd l (p+1)]=some (.int v,[Rd l (p+1+1)])) (v0:¬ v=0)
 (hkid:callA CP 119 [.own 0 0, .int d] (PSt l ws k j u (p+1+1))=some (.i (.agg K.cells),PSt l ws k j1 u1 p1))
 (hW:callA CP 102 [.i (.agg K.cells), .osl 0 1 0 k, .int 8] [some (.arr 1 (intsL ws))]=some (.int W,[some (.arr 1 (intsL ws))]))
 (hkk:callA C0 98 [.own 0 0, .int 10] [Rd l p1]=some (.int kk,[Rd l (p1+1)])) (hq:kk=1):∃ (P:Pn) (p' u':Int) (j':Nat),bodyA CQ true 119 [.own 0 0, .int ((d+1:Nat):Int)] (PSt l ws k j u p)=some (rX 3 P,PSt l ws k j' u' p'++rS P)∧Th P j j' u u'∧p1≤p'∧p'≤p1+400+c2∧j'≤j1∧0≤u'∧u'≤1∧P.exprs.length≤2∧P.cols.length≤1:=by
 have we:IntKind.i64.wrap (d:Int)=d:=wrap64 (by omega) (by omega)
 have hK:=hKB.1
 have wn:¬ ((d:Int)+1=0):=by omega
 simp only[PSt]at hkid
 rw[Pn.cells_eq K]at hkid hW
 obtain⟨e,p2,he,a1,a2,a3⟩:=randomCondition_eq l hl W (p1+1) (by omega) (by omega)
 have hf:=filterOf_own e K
 rw[Pn.cells_eq K,Ex.cells_eq e]at hf
 rw[Ex.cells_eq e]at he
 refine⟨filtP e K,p2,u1,j1,?_,Th.one (filtP_thin (by omega) hK) hKB,by omega,by omega,by omega,by omega,by omega,by simp[filtP,Pn.scan],by simp[filtP,Pn.scan]⟩
 rw[bodyA_eq Tryz.func119 rfl rfl]
 simp[PSt,ht,hv,v0,we,hkid,hW,hkk,wn,hq,rX,rS,bl,he,hf,filtP,Ex.cellsL,intsL,Pn.cellsL,Pn.cells_eq K,Ex.cells_eq e]
theorem root_filter2 {l:List UInt8} (hl:l.length≤2000) {ws:List Int} {k:Nat} {d j c2:Nat} {p u t v W kk p1 u1:Int} {j1:Nat} {K:Pn} (hd:d<100) (h1:p1+400+c2<300000000) (hp1:0≤p1) (hu0:0≤u1) (hu1:u1≤1) (hW0:0≤W) (hW6:W≤6) (hKB:Th K j j1 u u1)
 (ht:callA C0 98 [.own 0 0, .int k] [Rd l p]=some (.int t,[Rd l (p+1)])) (hv:callA C0 98 [.own 0 0, .int 6] [Rd l (p+1)]=some (.int v,[Rd l (p+1+1)])) (v0:¬ v=0)
 (hkid:callA CP 119 [.own 0 0, .int d] (PSt l ws k j u (p+1+1))=some (.i (.agg K.cells),PSt l ws k j1 u1 p1))
 (hW:callA CP 102 [.i (.agg K.cells), .osl 0 1 0 k, .int 8] [some (.arr 1 (intsL ws))]=some (.int W,[some (.arr 1 (intsL ws))]))
 (hkk:callA C0 98 [.own 0 0, .int 10] [Rd l p1]=some (.int kk,[Rd l (p1+1)])) (hq:kk=2):∃ (P:Pn) (p' u':Int) (j':Nat),bodyA CQ true 119 [.own 0 0, .int ((d+1:Nat):Int)] (PSt l ws k j u p)=some (rX 3 P,PSt l ws k j' u' p'++rS P)∧Th P j j' u u'∧p1≤p'∧p'≤p1+400+c2∧j'≤j1∧0≤u'∧u'≤1∧P.exprs.length≤2∧P.cols.length≤1:=by
 have we:IntKind.i64.wrap (d:Int)=d:=wrap64 (by omega) (by omega)
 have hK:=hKB.1
 have wn:¬ ((d:Int)+1=0):=by omega
 simp only[PSt]at hkid
 rw[Pn.cells_eq K]at hkid hW
 obtain⟨e,p2,he,a1,a2,a3⟩:=randomCondition_eq l hl W (p1+1) (by omega) (by omega)
 have hf:=filterOf_own e K
 rw[Pn.cells_eq K,Ex.cells_eq e]at hf
 rw[Ex.cells_eq e]at he
 refine⟨filtP e K,p2,u1,j1,?_,Th.one (filtP_thin (by omega) hK) hKB,by omega,by omega,by omega,by omega,by omega,by simp[filtP,Pn.scan],by simp[filtP,Pn.scan]⟩
 rw[bodyA_eq Tryz.func119 rfl rfl]
 simp[PSt,ht,hv,v0,we,hkid,hW,hkk,wn,hq,rX,rS,bl,he,hf,filtP,Ex.cellsL,intsL,Pn.cellsL,Pn.cells_eq K,Ex.cells_eq e]
theorem root_distinct {l:List UInt8} (hl:l.length≤2000) {ws:List Int} {k:Nat} {d j c2:Nat} {p u t v W kk p1 u1:Int} {j1:Nat} {K:Pn} (hd:d<100) (h1:p1+400+c2<300000000) (hp1:0≤p1) (hu0:0≤u1) (hu1:u1≤1) (hW0:0≤W) (hW6:W≤6) (hKB:Th K j j1 u u1)
 (ht:callA C0 98 [.own 0 0, .int k] [Rd l p]=some (.int t,[Rd l (p+1)])) (hv:callA C0 98 [.own 0 0, .int 6] [Rd l (p+1)]=some (.int v,[Rd l (p+1+1)])) (v0:¬ v=0)
 (hkid:callA CP 119 [.own 0 0, .int d] (PSt l ws k j u (p+1+1))=some (.i (.agg K.cells),PSt l ws k j1 u1 p1))
 (hW:callA CP 102 [.i (.agg K.cells), .osl 0 1 0 k, .int 8] [some (.arr 1 (intsL ws))]=some (.int W,[some (.arr 1 (intsL ws))]))
 (hkk:callA C0 98 [.own 0 0, .int 10] [Rd l p1]=some (.int kk,[Rd l (p1+1)])) (hq:kk=8):∃ (P:Pn) (p' u':Int) (j':Nat),bodyA CQ true 119 [.own 0 0, .int ((d+1:Nat):Int)] (PSt l ws k j u p)=some (rX 3 P,PSt l ws k j' u' p'++rS P)∧Th P j j' u u'∧p1≤p'∧p'≤p1+400+c2∧j'≤j1∧0≤u'∧u'≤1∧P.exprs.length≤2∧P.cols.length≤1:=by
 have we:IntKind.i64.wrap (d:Int)=d:=wrap64 (by omega) (by omega)
 have hK:=hKB.1
 have wn:¬ ((d:Int)+1=0):=by omega
 simp only[PSt]at hkid
 rw[Pn.cells_eq K]at hkid hW
 refine⟨.mk 7 0 [] [] [K],p1+1,u1,j1,?_,Th.one (by simp[Pn.thin,Pn.thinL,hK]) hKB,by omega,by omega,by omega,by omega,by omega,by simp[filtP,Pn.scan],by simp[filtP,Pn.scan]⟩
 rw[bodyA_eq Tryz.func119 rfl rfl]
 simp[PSt,ht,hv,v0,we,hkid,hW,hkk,wn,hq,rX,rS,bl,Pn.cells,Ex.cellsL,intsL,Pn.cellsL,Pn.cells_eq K]
theorem root_nojoin5 {l:List UInt8} (hl:l.length≤2000) {ws:List Int} {k:Nat} {d j c2:Nat} {p u t v W kk p1 u1:Int} {j1:Nat} {K:Pn} (hd:d<100) (h1:p1+400+c2<300000000) (hp1:0≤p1) (hu0:0≤u1) (hu1:u1≤1) (hW0:0≤W) (hW6:W≤6) (hKB:Th K j j1 u u1)
 (ht:callA C0 98 [.own 0 0, .int k] [Rd l p]=some (.int t,[Rd l (p+1)])) (hv:callA C0 98 [.own 0 0, .int 6] [Rd l (p+1)]=some (.int v,[Rd l (p+1+1)])) (v0:¬ v=0)
 (hkid:callA CP 119 [.own 0 0, .int d] (PSt l ws k j u (p+1+1))=some (.i (.agg K.cells),PSt l ws k j1 u1 p1))
 (hW:callA CP 102 [.i (.agg K.cells), .osl 0 1 0 k, .int 8] [some (.arr 1 (intsL ws))]=some (.int W,[some (.arr 1 (intsL ws))]))
 (hkk:callA C0 98 [.own 0 0, .int 10] [Rd l p1]=some (.int kk,[Rd l (p1+1)])) (hj:j1=0) (hq:kk=5):∃ (P:Pn) (p' u':Int) (j':Nat),bodyA CQ true 119 [.own 0 0, .int ((d+1:Nat):Int)] (PSt l ws k j u p)=some (rX 3 P,PSt l ws k j' u' p'++rS P)∧Th P j j' u u'∧p1≤p'∧p'≤p1+400+c2∧j'≤j1∧0≤u'∧u'≤1∧P.exprs.length≤2∧P.cols.length≤1:=by
 have we:IntKind.i64.wrap (d:Int)=d:=wrap64 (by omega) (by omega)
 have hK:=hKB.1
 have wn:¬ ((d:Int)+1=0):=by omega
 simp only[PSt]at hkid
 rw[Pn.cells_eq K]at hkid hW
 obtain⟨e,p2,he,a1,a2,a3⟩:=randomCondition_eq l hl W (p1+1) (by omega) (by omega)
 have hf:=filterOf_own e K
 rw[Pn.cells_eq K,Ex.cells_eq e]at hf
 rw[Ex.cells_eq e]at he
 refine⟨filtP e K,p2,u1,j1,?_,Th.one (filtP_thin (by omega) hK) hKB,by omega,by omega,by omega,by omega,by omega,by simp[filtP,Pn.scan],by simp[filtP,Pn.scan]⟩
 rw[bodyA_eq Tryz.func119 rfl rfl]
 simp[PSt,ht,hv,v0,we,hkid,hW,hkk,wn,hq,rX,rS,bl,he,hf,filtP,Ex.cellsL,intsL,Pn.cellsL,Pn.cells_eq K,Ex.cells_eq e,hj]
theorem root_wide5 {l:List UInt8} (hl:l.length≤2000) {ws:List Int} {k:Nat} {d j c2:Nat} {p u t v W kk p1 u1:Int} {j1:Nat} {K:Pn} (hd:d<100) (h1:p1+400+c2<300000000) (hp1:0≤p1) (hu0:0≤u1) (hu1:u1≤1) (hW0:0≤W) (hW6:W≤6) (hKB:Th K j j1 u u1)
 (ht:callA C0 98 [.own 0 0, .int k] [Rd l p]=some (.int t,[Rd l (p+1)])) (hv:callA C0 98 [.own 0 0, .int 6] [Rd l (p+1)]=some (.int v,[Rd l (p+1+1)])) (v0:¬ v=0)
 (hkid:callA CP 119 [.own 0 0, .int d] (PSt l ws k j u (p+1+1))=some (.i (.agg K.cells),PSt l ws k j1 u1 p1))
 (hW:callA CP 102 [.i (.agg K.cells), .osl 0 1 0 k, .int 8] [some (.arr 1 (intsL ws))]=some (.int W,[some (.arr 1 (intsL ws))]))
 (hkk:callA C0 98 [.own 0 0, .int 10] [Rd l p1]=some (.int kk,[Rd l (p1+1)])) (hj:j1≠0) (hw4:¬ W≤4) (hq:kk=5):∃ (P:Pn) (p' u':Int) (j':Nat),bodyA CQ true 119 [.own 0 0, .int ((d+1:Nat):Int)] (PSt l ws k j u p)=some (rX 3 P,PSt l ws k j' u' p'++rS P)∧Th P j j' u u'∧p1≤p'∧p'≤p1+400+c2∧j'≤j1∧0≤u'∧u'≤1∧P.exprs.length≤2∧P.cols.length≤1:=by
 have we:IntKind.i64.wrap (d:Int)=d:=wrap64 (by omega) (by omega)
 have hK:=hKB.1
 have wn:¬ ((d:Int)+1=0):=by omega
 simp only[PSt]at hkid
 rw[Pn.cells_eq K]at hkid hW
 have hj':0<j1:=by omega
 obtain⟨e,p2,he,a1,a2,a3⟩:=randomCondition_eq l hl W (p1+1) (by omega) (by omega)
 have hf:=filterOf_own e K
 rw[Pn.cells_eq K,Ex.cells_eq e]at hf
 rw[Ex.cells_eq e]at he
 refine⟨filtP e K,p2,u1,j1,?_,Th.one (filtP_thin (by omega) hK) hKB,by omega,by omega,by omega,by omega,by omega,by simp[filtP,Pn.scan],by simp[filtP,Pn.scan]⟩
 rw[bodyA_eq Tryz.func119 rfl rfl]
 simp[PSt,ht,hv,v0,we,hkid,hW,hkk,wn,hq,rX,rS,bl,he,hf,filtP,Ex.cellsL,intsL,Pn.cellsL,Pn.cells_eq K,Ex.cells_eq e,hj',hj,hw4]
theorem root_nojoin6 {l:List UInt8} (hl:l.length≤2000) {ws:List Int} {k:Nat} {d j c2:Nat} {p u t v W kk p1 u1:Int} {j1:Nat} {K:Pn} (hd:d<100) (h1:p1+400+c2<300000000) (hp1:0≤p1) (hu0:0≤u1) (hu1:u1≤1) (hW0:0≤W) (hW6:W≤6) (hKB:Th K j j1 u u1)
 (ht:callA C0 98 [.own 0 0, .int k] [Rd l p]=some (.int t,[Rd l (p+1)])) (hv:callA C0 98 [.own 0 0, .int 6] [Rd l (p+1)]=some (.int v,[Rd l (p+1+1)])) (v0:¬ v=0)
 (hkid:callA CP 119 [.own 0 0, .int d] (PSt l ws k j u (p+1+1))=some (.i (.agg K.cells),PSt l ws k j1 u1 p1))
 (hW:callA CP 102 [.i (.agg K.cells), .osl 0 1 0 k, .int 8] [some (.arr 1 (intsL ws))]=some (.int W,[some (.arr 1 (intsL ws))]))
 (hkk:callA C0 98 [.own 0 0, .int 10] [Rd l p1]=some (.int kk,[Rd l (p1+1)])) (hj:j1=0) (hq:kk=6):∃ (P:Pn) (p' u':Int) (j':Nat),bodyA CQ true 119 [.own 0 0, .int ((d+1:Nat):Int)] (PSt l ws k j u p)=some (rX 3 P,PSt l ws k j' u' p'++rS P)∧Th P j j' u u'∧p1≤p'∧p'≤p1+400+c2∧j'≤j1∧0≤u'∧u'≤1∧P.exprs.length≤2∧P.cols.length≤1:=by
 have we:IntKind.i64.wrap (d:Int)=d:=wrap64 (by omega) (by omega)
 have hK:=hKB.1
 have wn:¬ ((d:Int)+1=0):=by omega
 simp only[PSt]at hkid
 rw[Pn.cells_eq K]at hkid hW
 obtain⟨e,p2,he,a1,a2,a3⟩:=randomCondition_eq l hl W (p1+1) (by omega) (by omega)
 have hf:=filterOf_own e K
 rw[Pn.cells_eq K,Ex.cells_eq e]at hf
 rw[Ex.cells_eq e]at he
 refine⟨filtP e K,p2,u1,j1,?_,Th.one (filtP_thin (by omega) hK) hKB,by omega,by omega,by omega,by omega,by omega,by simp[filtP,Pn.scan],by simp[filtP,Pn.scan]⟩
 rw[bodyA_eq Tryz.func119 rfl rfl]
 simp[PSt,ht,hv,v0,we,hkid,hW,hkk,wn,hq,rX,rS,bl,he,hf,filtP,Ex.cellsL,intsL,Pn.cellsL,Pn.cells_eq K,Ex.cells_eq e,hj]
theorem root_wide6 {l:List UInt8} (hl:l.length≤2000) {ws:List Int} {k:Nat} {d j c2:Nat} {p u t v W kk p1 u1:Int} {j1:Nat} {K:Pn} (hd:d<100) (h1:p1+400+c2<300000000) (hp1:0≤p1) (hu0:0≤u1) (hu1:u1≤1) (hW0:0≤W) (hW6:W≤6) (hKB:Th K j j1 u u1)
 (ht:callA C0 98 [.own 0 0, .int k] [Rd l p]=some (.int t,[Rd l (p+1)])) (hv:callA C0 98 [.own 0 0, .int 6] [Rd l (p+1)]=some (.int v,[Rd l (p+1+1)])) (v0:¬ v=0)
 (hkid:callA CP 119 [.own 0 0, .int d] (PSt l ws k j u (p+1+1))=some (.i (.agg K.cells),PSt l ws k j1 u1 p1))
 (hW:callA CP 102 [.i (.agg K.cells), .osl 0 1 0 k, .int 8] [some (.arr 1 (intsL ws))]=some (.int W,[some (.arr 1 (intsL ws))]))
 (hkk:callA C0 98 [.own 0 0, .int 10] [Rd l p1]=some (.int kk,[Rd l (p1+1)])) (hj:j1≠0) (hw4:¬ W≤4) (hq:kk=6):∃ (P:Pn) (p' u':Int) (j':Nat),bodyA CQ true 119 [.own 0 0, .int ((d+1:Nat):Int)] (PSt l ws k j u p)=some (rX 3 P,PSt l ws k j' u' p'++rS P)∧Th P j j' u u'∧p1≤p'∧p'≤p1+400+c2∧j'≤j1∧0≤u'∧u'≤1∧P.exprs.length≤2∧P.cols.length≤1:=by
 have we:IntKind.i64.wrap (d:Int)=d:=wrap64 (by omega) (by omega)
 have hK:=hKB.1
 have wn:¬ ((d:Int)+1=0):=by omega
 simp only[PSt]at hkid
 rw[Pn.cells_eq K]at hkid hW
 have hj':0<j1:=by omega
 obtain⟨e,p2,he,a1,a2,a3⟩:=randomCondition_eq l hl W (p1+1) (by omega) (by omega)
 have hf:=filterOf_own e K
 rw[Pn.cells_eq K,Ex.cells_eq e]at hf
 rw[Ex.cells_eq e]at he
 refine⟨filtP e K,p2,u1,j1,?_,Th.one (filtP_thin (by omega) hK) hKB,by omega,by omega,by omega,by omega,by omega,by simp[filtP,Pn.scan],by simp[filtP,Pn.scan]⟩
 rw[bodyA_eq Tryz.func119 rfl rfl]
 simp[PSt,ht,hv,v0,we,hkid,hW,hkk,wn,hq,rX,rS,bl,he,hf,filtP,Ex.cellsL,intsL,Pn.cellsL,Pn.cells_eq K,Ex.cells_eq e,hj',hj,hw4]
theorem root_nounion {l:List UInt8} (hl:l.length≤2000) {ws:List Int} {k:Nat} {d j c2:Nat} {p u t v W kk p1 u1:Int} {j1:Nat} {K:Pn} (hd:d<100) (h1:p1+400+c2<300000000) (hp1:0≤p1) (hu0:0≤u1) (hu1:u1≤1) (hW0:0≤W) (hW6:W≤6) (hKB:Th K j j1 u u1)
 (ht:callA C0 98 [.own 0 0, .int k] [Rd l p]=some (.int t,[Rd l (p+1)])) (hv:callA C0 98 [.own 0 0, .int 6] [Rd l (p+1)]=some (.int v,[Rd l (p+1+1)])) (v0:¬ v=0)
 (hkid:callA CP 119 [.own 0 0, .int d] (PSt l ws k j u (p+1+1))=some (.i (.agg K.cells),PSt l ws k j1 u1 p1))
 (hW:callA CP 102 [.i (.agg K.cells), .osl 0 1 0 k, .int 8] [some (.arr 1 (intsL ws))]=some (.int W,[some (.arr 1 (intsL ws))]))
 (hkk:callA C0 98 [.own 0 0, .int 10] [Rd l p1]=some (.int kk,[Rd l (p1+1)])) (hu:¬ 0<u1) (hq:kk=7):∃ (P:Pn) (p' u':Int) (j':Nat),bodyA CQ true 119 [.own 0 0, .int ((d+1:Nat):Int)] (PSt l ws k j u p)=some (rX 3 P,PSt l ws k j' u' p'++rS P)∧Th P j j' u u'∧p1≤p'∧p'≤p1+400+c2∧j'≤j1∧0≤u'∧u'≤1∧P.exprs.length≤2∧P.cols.length≤1:=by
 have we:IntKind.i64.wrap (d:Int)=d:=wrap64 (by omega) (by omega)
 have hK:=hKB.1
 have wn:¬ ((d:Int)+1=0):=by omega
 simp only[PSt]at hkid
 rw[Pn.cells_eq K]at hkid hW
 obtain⟨e,p2,he,a1,a2,a3⟩:=randomCondition_eq l hl W (p1+1) (by omega) (by omega)
 have hf:=filterOf_own e K
 rw[Pn.cells_eq K,Ex.cells_eq e]at hf
 rw[Ex.cells_eq e]at he
 refine⟨filtP e K,p2,u1,j1,?_,Th.one (filtP_thin (by omega) hK) hKB,by omega,by omega,by omega,by omega,by omega,by simp[filtP,Pn.scan],by simp[filtP,Pn.scan]⟩
 rw[bodyA_eq Tryz.func119 rfl rfl]
 simp[PSt,ht,hv,v0,we,hkid,hW,hkk,wn,hq,rX,rS,bl,he,hf,filtP,Ex.cellsL,intsL,Pn.cellsL,Pn.cells_eq K,Ex.cells_eq e,hu]
theorem root_union {l:List UInt8} (hl:l.length≤2000) {ws:List Int} {k:Nat} {d j c2:Nat} {p u t v W kk p1 u1:Int} {j1:Nat} {K:Pn} (hd:d<100) (h1:p1+400+c2<300000000) (hp1:0≤p1) (hu0:0≤u1) (hu1:u1≤1) (hW0:0≤W) (hW6:W≤6) (hKB:Th K j j1 u u1)
 (ht:callA C0 98 [.own 0 0, .int k] [Rd l p]=some (.int t,[Rd l (p+1)])) (hv:callA C0 98 [.own 0 0, .int 6] [Rd l (p+1)]=some (.int v,[Rd l (p+1+1)])) (v0:¬ v=0)
 (hkid:callA CP 119 [.own 0 0, .int d] (PSt l ws k j u (p+1+1))=some (.i (.agg K.cells),PSt l ws k j1 u1 p1))
 (hW:callA CP 102 [.i (.agg K.cells), .osl 0 1 0 k, .int 8] [some (.arr 1 (intsL ws))]=some (.int W,[some (.arr 1 (intsL ws))]))
 (hkk:callA C0 98 [.own 0 0, .int 10] [Rd l p1]=some (.int kk,[Rd l (p1+1)])) (hu:0<u1) (hq:kk=7):∃ (P:Pn) (p' u':Int) (j':Nat),bodyA CQ true 119 [.own 0 0, .int ((d+1:Nat):Int)] (PSt l ws k j u p)=some (rX 3 P,PSt l ws k j' u' p'++rS P)∧Th P j j' u u'∧p1≤p'∧p'≤p1+400+c2∧j'≤j1∧0≤u'∧u'≤1∧P.exprs.length≤2∧P.cols.length≤1:=by
 have we:IntKind.i64.wrap (d:Int)=d:=wrap64 (by omega) (by omega)
 have hK:=hKB.1
 have wn:¬ ((d:Int)+1=0):=by omega
 simp only[PSt]at hkid
 rw[Pn.cells_eq K]at hkid hW
 obtain⟨e,p2,he,a1,a2,a3⟩:=randomCondition_eq l hl W (p1+1) (by omega) (by omega)
 have hf:=filterOf_own e K
 have hc:=cp_copyPlan K hK
 have wu:IntKind.i64.wrap (u1-1)=u1-1:=wrap64 (by omega) (by omega)
 rw[Pn.cells_eq K,Ex.cells_eq e]at hf
 rw[Pn.cells_eq K]at hc
 rw[Ex.cells_eq e]at he
 refine⟨.mk 6 0 [] [] [K,filtP e K],p2,u1-1,j1,?_,Th.un (by have:=filtP_thin (e:=e) (by omega) hK;unfold filtP at this;simp[Pn.thin,Pn.thinL,hK]at this ⊢;exact this) hKB,by omega,by omega,by omega,by omega,by omega,by simp[filtP,Pn.scan],by simp[filtP,Pn.scan]⟩
 rw[bodyA_eq Tryz.func119 rfl rfl]
 simp[PSt,ht,hv,v0,we,hkid,hW,hkk,wn,hq,rX,rS,bl,he,hf,filtP,Ex.cellsL,intsL,Pn.cellsL,Pn.cells_eq K,Ex.cells_eq e,hu,hc,wu,Pn.cells_mk,Ex.cellsL,intsL,Pn.cellsL]
theorem root_group1 {l:List UInt8} (hl:l.length≤2000) {ws:List Int} {k:Nat} {d j c2:Nat} {p u t v W kk p1 u1:Int} {j1:Nat} {K:Pn} (hd:d<100) (h1:p1+400+c2<300000000) (hp1:0≤p1) (hu0:0≤u1) (hu1:u1≤1) (hW0:0≤W) (hW6:W≤6) (hKB:Th K j j1 u u1)
 (ht:callA C0 98 [.own 0 0, .int k] [Rd l p]=some (.int t,[Rd l (p+1)])) (hv:callA C0 98 [.own 0 0, .int 6] [Rd l (p+1)]=some (.int v,[Rd l (p+1+1)])) (v0:¬ v=0)
 (hkid:callA CP 119 [.own 0 0, .int d] (PSt l ws k j u (p+1+1))=some (.i (.agg K.cells),PSt l ws k j1 u1 p1))
 (hW:callA CP 102 [.i (.agg K.cells), .osl 0 1 0 k, .int 8] [some (.arr 1 (intsL ws))]=some (.int W,[some (.arr 1 (intsL ws))]))
 (hkk:callA C0 98 [.own 0 0, .int 10] [Rd l p1]=some (.int kk,[Rd l (p1+1)])) (hw1:¬ 1<W) (hq:kk=9):∃ (P:Pn) (p' u':Int) (j':Nat),bodyA CQ true 119 [.own 0 0, .int ((d+1:Nat):Int)] (PSt l ws k j u p)=some (rX 3 P,PSt l ws k j' u' p'++rS P)∧Th P j j' u u'∧p1≤p'∧p'≤p1+400+c2∧j'≤j1∧0≤u'∧u'≤1∧P.exprs.length≤2∧P.cols.length≤1:=by
 have we:IntKind.i64.wrap (d:Int)=d:=wrap64 (by omega) (by omega)
 have hK:=hKB.1
 have wn:¬ ((d:Int)+1=0):=by omega
 simp only[PSt]at hkid
 rw[Pn.cells_eq K]at hkid hW
 refine⟨.mk 8 0 [] [] [K],p1+1,u1,j1,?_,Th.one (by simp[Pn.thin,Pn.thinL,hK]) hKB,by omega,by omega,by omega,by omega,by omega,by simp[filtP,Pn.scan],by simp[filtP,Pn.scan]⟩
 rw[bodyA_eq Tryz.func119 rfl rfl]
 simp[PSt,ht,hv,v0,we,hkid,hW,hkk,wn,hq,rX,rS,bl,hw1,Pn.cells_mk,Ex.cellsL,intsL,Pn.cellsL,Pn.cells_eq K]
theorem root_group2 {l:List UInt8} (hl:l.length≤2000) {ws:List Int} {k:Nat} {d j c2:Nat} {p u t v W kk p1 u1:Int} {j1:Nat} {K:Pn} (hd:d<100) (h1:p1+400+c2<300000000) (hp1:0≤p1) (hu0:0≤u1) (hu1:u1≤1) (hW0:0≤W) (hW6:W≤6) (hKB:Th K j j1 u u1)
 (ht:callA C0 98 [.own 0 0, .int k] [Rd l p]=some (.int t,[Rd l (p+1)])) (hv:callA C0 98 [.own 0 0, .int 6] [Rd l (p+1)]=some (.int v,[Rd l (p+1+1)])) (v0:¬ v=0)
 (hkid:callA CP 119 [.own 0 0, .int d] (PSt l ws k j u (p+1+1))=some (.i (.agg K.cells),PSt l ws k j1 u1 p1))
 (hW:callA CP 102 [.i (.agg K.cells), .osl 0 1 0 k, .int 8] [some (.arr 1 (intsL ws))]=some (.int W,[some (.arr 1 (intsL ws))]))
 (hkk:callA C0 98 [.own 0 0, .int 10] [Rd l p1]=some (.int kk,[Rd l (p1+1)])) (hw1:1<W) (hq:kk=9):∃ (P:Pn) (p' u':Int) (j':Nat),bodyA CQ true 119 [.own 0 0, .int ((d+1:Nat):Int)] (PSt l ws k j u p)=some (rX 3 P,PSt l ws k j' u' p'++rS P)∧Th P j j' u u'∧p1≤p'∧p'≤p1+400+c2∧j'≤j1∧0≤u'∧u'≤1∧P.exprs.length≤2∧P.cols.length≤1:=by
 have we:IntKind.i64.wrap (d:Int)=d:=wrap64 (by omega) (by omega)
 have hK:=hKB.1
 have wn:¬ ((d:Int)+1=0):=by omega
 simp only[PSt]at hkid
 rw[Pn.cells_eq K]at hkid hW
 obtain⟨g,hg,-,-⟩:=pick_eq l (p1+1) W (by omega) (by omega) hl
 refine⟨.mk 8 0 [] [g] [K],p1+1+1,u1,j1,?_,Th.one (by simp[Pn.thin,Pn.thinL,hK]) hKB,by omega,by omega,by omega,by omega,by omega,by simp[filtP,Pn.scan],by simp[filtP,Pn.scan]⟩
 rw[bodyA_eq Tryz.func119 rfl rfl]
 simp[PSt,ht,hv,v0,we,hkid,hW,hkk,wn,hq,rX,rS,bl,hg,hw1,Pn.cells_mk,Ex.cellsL,intsL,Pn.cellsL,Pn.cells_eq K]
theorem root_join5 {l:List UInt8} (hl:l.length≤2000) {ws:List Int} (hw:∀ w∈ws,0≤w∧w≤6) (hwl:ws.length<1000000) {k:Nat} (hk0:0<k) (hkl:k≤ws.length) {d j c2:Nat} {p u t v W kk p1 u1:Int} {j1:Nat} {K:Pn} (hd:d<100) (h1:p1+400+c2<300000000) (hp1:0≤p1) (hu0:0≤u1) (hu1:u1≤1) (hW0:0≤W) (hW6:W≤6) (hKB:Th K j j1 u u1)
 (ht:callA C0 98 [.own 0 0, .int k] [Rd l p]=some (.int t,[Rd l (p+1)])) (hv:callA C0 98 [.own 0 0, .int 6] [Rd l (p+1)]=some (.int v,[Rd l (p+1+1)])) (v0:¬ v=0)
 (hkid:callA CP 119 [.own 0 0, .int d] (PSt l ws k j u (p+1+1))=some (.i (.agg K.cells),PSt l ws k j1 u1 p1))
 (hW:callA CP 102 [.i (.agg K.cells), .osl 0 1 0 k, .int 8] [some (.arr 1 (intsL ws))]=some (.int W,[some (.arr 1 (intsL ws))]))
 (hkk:callA C0 98 [.own 0 0, .int 10] [Rd l p1]=some (.int kk,[Rd l (p1+1)])) (hj:j1≠0) (hjb:j1<1000) (hw4:W≤4) (hoth:∀ y:Nat,y≤1→PlanOk l ws k y (j1-1) c2) (hq:kk=5):∃ (P:Pn) (p' u':Int) (j':Nat),bodyA CQ true 119 [.own 0 0, .int ((d+1:Nat):Int)] (PSt l ws k j u p)=some (rX 3 P,PSt l ws k j' u' p'++rS P)∧Th P j j' u u'∧p1≤p'∧p'≤p1+400+c2∧j'≤j1∧0≤u'∧u'≤1∧P.exprs.length≤2∧P.cols.length≤1:=by
 have we:IntKind.i64.wrap (d:Int)=d:=wrap64 (by omega) (by omega)
 have hK:=hKB.1
 have wn:¬ ((d:Int)+1=0):=by omega
 simp only[PSt]at hkid
 rw[Pn.cells_eq K]at hkid hW
 have hj':0<j1:=by omega
 have wj:IntKind.i64.wrap ((j1:Int)-1)=((j1-1:Nat):Int):=by rw[wrap64 (by omega) (by omega)];omega
 obtain⟨x,hx,hx1,-⟩:=pick_eq l (p1+1) 2 (by omega) (by omega) hl
 obtain⟨x0,x1⟩:=hx1 (by omega)
 obtain⟨y,rfl⟩:∃ y:Nat,x=y:=⟨x.toNat,by omega⟩
 obtain⟨O,p2,u2,j2,hO,hOt,b1,b2,b3,b4,b5⟩:=hoth y (by omega) (p1+1+1) u1 (by omega) (by omega) hu0 hu1
 have hV:=splanWidth_own hw hwl hk0 hkl O hOt.1
 have hVr:=Pn.wd_range (ws:=ws.take k) (fun w hm=>hw w (List.mem_of_mem_take hm)) O 8
 generalize O.wd (ws.take k) 8=V at hV hVr
 have wv:IntKind.i64.wrap (W+V)=W+V:=wrap64 (by omega) (by omega)
 simp only[PSt]at hO
 rw[Pn.cells_eq O]at hO hV
 by_cases hs:W+V≤6
 ·have h1:=one_eq l p2 (by omega) (by omega) hl [[.int 4],[.int 5]] (by simp) (by simp) (by simp)
  obtain⟨z,hz,hzm⟩:=h1
  obtain⟨e,p3,he,a1,a2,a3⟩:=randomCondition_eq l hl (W+V) (p2+1) (by omega) (by omega)
  rw[Ex.cells_eq e]at he
  simp only[List.length_cons,List.length_nil,Nat.zero_add,Nat.reduceAdd]at hz
  have het:=Ex.thin_of_size e (by omega)
  refine⟨.mk z 0 [e] [] [K,O],p3,u2,j2,?_,Th.jn (by simp[Pn.thin,Pn.thinL,hK,hOt.1,het]) hj hKB hOt,by omega,by omega,by omega,by omega,by omega,by simp[filtP,Pn.scan],by simp[filtP,Pn.scan]⟩
  rw[bodyA_eq Tryz.func119 rfl rfl]
  simp[PSt,ht,hv,v0,we,hkid,hW,hkk,wn,hq,hj',hj,hw4,wj,hx,hO,hV,wv,hs,hz,he,rX,rS,bl,Pn.cells_mk,Ex.cellsL,intsL,Pn.cellsL,Pn.cells_eq K,Pn.cells_eq O,Ex.cells_eq e]
 ·obtain⟨e,p3,he,a1,a2,a3⟩:=randomCondition_eq l hl W p2 (by omega) (by omega)
  have hf:=filterOf_own e K
  rw[Pn.cells_eq K,Ex.cells_eq e]at hf
  rw[Ex.cells_eq e]at he
  refine⟨filtP e K,p3,u2,j2,?_,Th.skip (filtP_thin (by omega) hK) hKB (by omega) hOt.2.1.2.1,by omega,by omega,by omega,by omega,by omega,by simp[filtP,Pn.scan],by simp[filtP,Pn.scan]⟩
  rw[bodyA_eq Tryz.func119 rfl rfl]
  simp[PSt,ht,hv,v0,we,hkid,hW,hkk,wn,hq,hj',hj,hw4,wj,hx,hO,hV,wv,hs,rX,rS,bl,he,hf,filtP,Ex.cellsL,intsL,Pn.cellsL,Pn.cells_eq K,Ex.cells_eq e]
theorem root_join6 {l:List UInt8} (hl:l.length≤2000) {ws:List Int} (hw:∀ w∈ws,0≤w∧w≤6) (hwl:ws.length<1000000) {k:Nat} (hk0:0<k) (hkl:k≤ws.length) {d j c2:Nat} {p u t v W kk p1 u1:Int} {j1:Nat} {K:Pn} (hd:d<100) (h1:p1+400+c2<300000000) (hp1:0≤p1) (hu0:0≤u1) (hu1:u1≤1) (hW0:0≤W) (hW6:W≤6) (hKB:Th K j j1 u u1)
 (ht:callA C0 98 [.own 0 0, .int k] [Rd l p]=some (.int t,[Rd l (p+1)])) (hv:callA C0 98 [.own 0 0, .int 6] [Rd l (p+1)]=some (.int v,[Rd l (p+1+1)])) (v0:¬ v=0)
 (hkid:callA CP 119 [.own 0 0, .int d] (PSt l ws k j u (p+1+1))=some (.i (.agg K.cells),PSt l ws k j1 u1 p1))
 (hW:callA CP 102 [.i (.agg K.cells), .osl 0 1 0 k, .int 8] [some (.arr 1 (intsL ws))]=some (.int W,[some (.arr 1 (intsL ws))]))
 (hkk:callA C0 98 [.own 0 0, .int 10] [Rd l p1]=some (.int kk,[Rd l (p1+1)])) (hj:j1≠0) (hjb:j1<1000) (hw4:W≤4) (hoth:∀ y:Nat,y≤1→PlanOk l ws k y (j1-1) c2) (hq:kk=6):∃ (P:Pn) (p' u':Int) (j':Nat),bodyA CQ true 119 [.own 0 0, .int ((d+1:Nat):Int)] (PSt l ws k j u p)=some (rX 3 P,PSt l ws k j' u' p'++rS P)∧Th P j j' u u'∧p1≤p'∧p'≤p1+400+c2∧j'≤j1∧0≤u'∧u'≤1∧P.exprs.length≤2∧P.cols.length≤1:=by
 have we:IntKind.i64.wrap (d:Int)=d:=wrap64 (by omega) (by omega)
 have hK:=hKB.1
 have wn:¬ ((d:Int)+1=0):=by omega
 simp only[PSt]at hkid
 rw[Pn.cells_eq K]at hkid hW
 have hj':0<j1:=by omega
 have wj:IntKind.i64.wrap ((j1:Int)-1)=((j1-1:Nat):Int):=by rw[wrap64 (by omega) (by omega)];omega
 obtain⟨x,hx,hx1,-⟩:=pick_eq l (p1+1) 2 (by omega) (by omega) hl
 obtain⟨x0,x1⟩:=hx1 (by omega)
 obtain⟨y,rfl⟩:∃ y:Nat,x=y:=⟨x.toNat,by omega⟩
 obtain⟨O,p2,u2,j2,hO,hOt,b1,b2,b3,b4,b5⟩:=hoth y (by omega) (p1+1+1) u1 (by omega) (by omega) hu0 hu1
 have hV:=splanWidth_own hw hwl hk0 hkl O hOt.1
 have hVr:=Pn.wd_range (ws:=ws.take k) (fun w hm=>hw w (List.mem_of_mem_take hm)) O 8
 generalize O.wd (ws.take k) 8=V at hV hVr
 have wv:IntKind.i64.wrap (W+V)=W+V:=wrap64 (by omega) (by omega)
 simp only[PSt]at hO
 rw[Pn.cells_eq O]at hO hV
 by_cases hs:W+V≤6
 ·have h1:=one_eq l p2 (by omega) (by omega) hl [[.int 4],[.int 5]] (by simp) (by simp) (by simp)
  obtain⟨z,hz,hzm⟩:=h1
  obtain⟨e,p3,he,a1,a2,a3⟩:=randomCondition_eq l hl (W+V) (p2+1) (by omega) (by omega)
  rw[Ex.cells_eq e]at he
  simp only[List.length_cons,List.length_nil,Nat.zero_add,Nat.reduceAdd]at hz
  have het:=Ex.thin_of_size e (by omega)
  refine⟨.mk z 0 [e] [] [K,O],p3,u2,j2,?_,Th.jn (by simp[Pn.thin,Pn.thinL,hK,hOt.1,het]) hj hKB hOt,by omega,by omega,by omega,by omega,by omega,by simp[filtP,Pn.scan],by simp[filtP,Pn.scan]⟩
  rw[bodyA_eq Tryz.func119 rfl rfl]
  simp[PSt,ht,hv,v0,we,hkid,hW,hkk,wn,hq,hj',hj,hw4,wj,hx,hO,hV,wv,hs,hz,he,rX,rS,bl,Pn.cells_mk,Ex.cellsL,intsL,Pn.cellsL,Pn.cells_eq K,Pn.cells_eq O,Ex.cells_eq e]
 ·obtain⟨e,p3,he,a1,a2,a3⟩:=randomCondition_eq l hl W p2 (by omega) (by omega)
  have hf:=filterOf_own e K
  rw[Pn.cells_eq K,Ex.cells_eq e]at hf
  rw[Ex.cells_eq e]at he
  refine⟨filtP e K,p3,u2,j2,?_,Th.skip (filtP_thin (by omega) hK) hKB (by omega) hOt.2.1.2.1,by omega,by omega,by omega,by omega,by omega,by simp[filtP,Pn.scan],by simp[filtP,Pn.scan]⟩
  rw[bodyA_eq Tryz.func119 rfl rfl]
  simp[PSt,ht,hv,v0,we,hkid,hW,hkk,wn,hq,hj',hj,hw4,wj,hx,hO,hV,wv,hs,rX,rS,bl,he,hf,filtP,Ex.cellsL,intsL,Pn.cellsL,Pn.cells_eq K,Ex.cells_eq e]
theorem root_proj3 {l:List UInt8} (hl:l.length≤2000) {ws:List Int} {k:Nat} {d j c2:Nat} {p u t v W kk p1 u1:Int} {j1:Nat} {K:Pn} (hd:d<100) (h1:p1+400+c2<300000000) (hp1:0≤p1) (hu0:0≤u1) (hu1:u1≤1) (hW0:0≤W) (hW6:W≤6) (hKB:Th K j j1 u u1)
 (ht:callA C0 98 [.own 0 0, .int k] [Rd l p]=some (.int t,[Rd l (p+1)])) (hv:callA C0 98 [.own 0 0, .int 6] [Rd l (p+1)]=some (.int v,[Rd l (p+1+1)])) (v0:¬ v=0)
 (hkid:callA CP 119 [.own 0 0, .int d] (PSt l ws k j u (p+1+1))=some (.i (.agg K.cells),PSt l ws k j1 u1 p1))
 (hW:callA CP 102 [.i (.agg K.cells), .osl 0 1 0 k, .int 8] [some (.arr 1 (intsL ws))]=some (.int W,[some (.arr 1 (intsL ws))]))
 (hkk:callA C0 98 [.own 0 0, .int 10] [Rd l p1]=some (.int kk,[Rd l (p1+1)])) (hq:kk=3):∃ (P:Pn) (p' u':Int) (j':Nat),bodyA CQ true 119 [.own 0 0, .int ((d+1:Nat):Int)] (PSt l ws k j u p)=some (rX 3 P,PSt l ws k j' u' p'++rS P)∧Th P j j' u u'∧p1≤p'∧p'≤p1+400+c2∧j'≤j1∧0≤u'∧u'≤1∧P.exprs.length≤2∧P.cols.length≤1:=by
 have we:IntKind.i64.wrap (d:Int)=d:=wrap64 (by omega) (by omega)
 have hK:=hKB.1
 have wn:¬ ((d:Int)+1=0):=by omega
 simp only[PSt]at hkid
 rw[Pn.cells_eq K]at hkid hW
 obtain⟨m,hm,hm1,-⟩:=pick_eq l (p1+1) 2 (by omega) (by omega) hl
 obtain⟨m0,m1⟩:=hm1 (by omega)
 have w2:IntKind.i64.wrap (2:Int)=2:=wrap64 (by omega) (by omega)
 have w1:=wrap_1
 have w0:IntKind.i64.wrap (0:Int)=0:=wrap64 (by omega) (by omega)
 obtain⟨x1,hx1,hy1,-⟩:=pick_eq l (p1+1+1) 2 (by omega) (by omega) hl
 obtain⟨x1a,x1b⟩:=hy1 (by omega)
 obtain⟨y1,rfl⟩:∃ y:Nat,x1=y:=⟨x1.toNat,by omega⟩
 have hc1:costE y1≤9:=by rcases(show y1=0∨y1=1 by omega)with h|h<;>simp[h,costE]
 obtain⟨e1,q1,he1,c1a,c1b,c1c⟩:=rE l hl W y1 (by omega) (by omega) ((p1+1+1)+1) (by omega) (by omega)
 rw[Ex.cells_eq e1]at he1
 have t1:=Ex.thin_of_size e1 (by omega)
 rcases(show m=0∨m=1 by omega)with rfl|rfl
 ·refine⟨.mk 3 0 [e1] [] [K],q1,u1,j1,?_,Th.one (by simp[Pn.thin,Pn.thinL,hK,t1]) hKB,by omega,by omega,by omega,by omega,by omega,by simp[filtP,Pn.scan],by simp[filtP,Pn.scan]⟩
  rw[bodyA_eq Tryz.func119 rfl rfl]
  simp[PSt,ht,hv,v0,we,hkid,hW,hkk,wn,hq,hm,w1]
  rw[execA_loop];simp[hx1,he1,w0]
  rw[execA_loop];simp[rX,rS,bl,Pn.cells_mk,Ex.cellsL,intsL,Pn.cellsL,Pn.cells_eq K,Ex.cells_eq e1,PSt]
 ·obtain⟨x2,hx2,hy2,-⟩:=pick_eq l q1 2 (by omega) (by omega) hl
  obtain⟨x2a,x2b⟩:=hy2 (by omega)
  obtain⟨y2,rfl⟩:∃ y:Nat,x2=y:=⟨x2.toNat,by omega⟩
  have hc2:costE y2≤9:=by rcases(show y2=0∨y2=1 by omega)with h|h<;>simp[h,costE]
  obtain⟨e2,q2,he2,c2a,c2b,c2c⟩:=rE l hl W y2 (by omega) (by omega) (q1+1) (by omega) (by omega)
  rw[Ex.cells_eq e2]at he2
  have t2:=Ex.thin_of_size e2 (by omega)
  refine⟨.mk 3 0 [e1,e2] [] [K],q2,u1,j1,?_,Th.one (by simp[Pn.thin,Pn.thinL,hK,t1,t2]) hKB,by omega,by omega,by omega,by omega,by omega,by simp[filtP,Pn.scan],by simp[filtP,Pn.scan]⟩
  rw[bodyA_eq Tryz.func119 rfl rfl]
  simp[PSt,ht,hv,v0,we,hkid,hW,hkk,wn,hq,hm,w2]
  rw[execA_loop];simp[hx1,he1,w1]
  rw[execA_loop];simp[hx2,he2,w0]
  rw[execA_loop];simp[rX,rS,bl,Pn.cells_mk,Ex.cellsL,intsL,Pn.cellsL,Pn.cells_eq K,Ex.cells_eq e1,Ex.cells_eq e2,PSt]
theorem root_proj4 {l:List UInt8} (hl:l.length≤2000) {ws:List Int} {k:Nat} {d j c2:Nat} {p u t v W kk p1 u1:Int} {j1:Nat} {K:Pn} (hd:d<100) (h1:p1+400+c2<300000000) (hp1:0≤p1) (hu0:0≤u1) (hu1:u1≤1) (hW0:0≤W) (hW6:W≤6) (hKB:Th K j j1 u u1)
 (ht:callA C0 98 [.own 0 0, .int k] [Rd l p]=some (.int t,[Rd l (p+1)])) (hv:callA C0 98 [.own 0 0, .int 6] [Rd l (p+1)]=some (.int v,[Rd l (p+1+1)])) (v0:¬ v=0)
 (hkid:callA CP 119 [.own 0 0, .int d] (PSt l ws k j u (p+1+1))=some (.i (.agg K.cells),PSt l ws k j1 u1 p1))
 (hW:callA CP 102 [.i (.agg K.cells), .osl 0 1 0 k, .int 8] [some (.arr 1 (intsL ws))]=some (.int W,[some (.arr 1 (intsL ws))]))
 (hkk:callA C0 98 [.own 0 0, .int 10] [Rd l p1]=some (.int kk,[Rd l (p1+1)])) (hq:kk=4):∃ (P:Pn) (p' u':Int) (j':Nat),bodyA CQ true 119 [.own 0 0, .int ((d+1:Nat):Int)] (PSt l ws k j u p)=some (rX 3 P,PSt l ws k j' u' p'++rS P)∧Th P j j' u u'∧p1≤p'∧p'≤p1+400+c2∧j'≤j1∧0≤u'∧u'≤1∧P.exprs.length≤2∧P.cols.length≤1:=by
 have we:IntKind.i64.wrap (d:Int)=d:=wrap64 (by omega) (by omega)
 have hK:=hKB.1
 have wn:¬ ((d:Int)+1=0):=by omega
 simp only[PSt]at hkid
 rw[Pn.cells_eq K]at hkid hW
 obtain⟨m,hm,hm1,-⟩:=pick_eq l (p1+1) 2 (by omega) (by omega) hl
 obtain⟨m0,m1⟩:=hm1 (by omega)
 have w2:IntKind.i64.wrap (2:Int)=2:=wrap64 (by omega) (by omega)
 have w1:=wrap_1
 have w0:IntKind.i64.wrap (0:Int)=0:=wrap64 (by omega) (by omega)
 obtain⟨x1,hx1,hy1,-⟩:=pick_eq l (p1+1+1) 2 (by omega) (by omega) hl
 obtain⟨x1a,x1b⟩:=hy1 (by omega)
 obtain⟨y1,rfl⟩:∃ y:Nat,x1=y:=⟨x1.toNat,by omega⟩
 have hc1:costE y1≤9:=by rcases(show y1=0∨y1=1 by omega)with h|h<;>simp[h,costE]
 obtain⟨e1,q1,he1,c1a,c1b,c1c⟩:=rE l hl W y1 (by omega) (by omega) ((p1+1+1)+1) (by omega) (by omega)
 rw[Ex.cells_eq e1]at he1
 have t1:=Ex.thin_of_size e1 (by omega)
 rcases(show m=0∨m=1 by omega)with rfl|rfl
 ·refine⟨.mk 3 0 [e1] [] [K],q1,u1,j1,?_,Th.one (by simp[Pn.thin,Pn.thinL,hK,t1]) hKB,by omega,by omega,by omega,by omega,by omega,by simp[filtP,Pn.scan],by simp[filtP,Pn.scan]⟩
  rw[bodyA_eq Tryz.func119 rfl rfl]
  simp[PSt,ht,hv,v0,we,hkid,hW,hkk,wn,hq,hm,w1]
  rw[execA_loop];simp[hx1,he1,w0]
  rw[execA_loop];simp[rX,rS,bl,Pn.cells_mk,Ex.cellsL,intsL,Pn.cellsL,Pn.cells_eq K,Ex.cells_eq e1,PSt]
 ·obtain⟨x2,hx2,hy2,-⟩:=pick_eq l q1 2 (by omega) (by omega) hl
  obtain⟨x2a,x2b⟩:=hy2 (by omega)
  obtain⟨y2,rfl⟩:∃ y:Nat,x2=y:=⟨x2.toNat,by omega⟩
  have hc2:costE y2≤9:=by rcases(show y2=0∨y2=1 by omega)with h|h<;>simp[h,costE]
  obtain⟨e2,q2,he2,c2a,c2b,c2c⟩:=rE l hl W y2 (by omega) (by omega) (q1+1) (by omega) (by omega)
  rw[Ex.cells_eq e2]at he2
  have t2:=Ex.thin_of_size e2 (by omega)
  refine⟨.mk 3 0 [e1,e2] [] [K],q2,u1,j1,?_,Th.one (by simp[Pn.thin,Pn.thinL,hK,t1,t2]) hKB,by omega,by omega,by omega,by omega,by omega,by simp[filtP,Pn.scan],by simp[filtP,Pn.scan]⟩
  rw[bodyA_eq Tryz.func119 rfl rfl]
  simp[PSt,ht,hv,v0,we,hkid,hW,hkk,wn,hq,hm,w2]
  rw[execA_loop];simp[hx1,he1,w1]
  rw[execA_loop];simp[hx2,he2,w0]
  rw[execA_loop];simp[rX,rS,bl,Pn.cells_mk,Ex.cellsL,intsL,Pn.cellsL,Pn.cells_eq K,Ex.cells_eq e1,Ex.cells_eq e2,PSt]
theorem root_step {l:List UInt8} (hl:l.length≤2000) {ws:List Int} (hw:∀ w∈ws,0≤w∧w≤6) (hwl:ws.length<1000000) {k:Nat} (hk0:0<k) (hkl:k≤ws.length) {d j c c2:Nat} (hd:d<100) (hjb:j<1000) (ih:PlanOk l ws k d j c) (hoth:∀ i:Nat,i<j→∀ y:Nat,y≤1→PlanOk l ws k y i c2):RootOk l ws k (d+1) j (c+c2+500):=by
 intro p u h0 h1 hu0 hu1
 obtain⟨t,ht,-,-⟩:=pick_eq l p k h0 (by omega) hl
 obtain⟨v,hv,-,-⟩:=pick_eq l (p+1) 6 (by omega) (by omega) hl
 by_cases v0:v=0
 ·subst v0
  exact⟨.scan t,p+1+1,u,j,root_scan hd ht hv,Th.scan (Pn.scan_thin t) _ _,by omega,by omega,by omega,by omega,by omega,by simp[Pn.scan],by simp[Pn.scan]⟩
 obtain⟨K,p1,u1,j1,hkid,hK,a1,a2,a3,a4,a5⟩:=ih (p+1+1) u (by omega) (by omega) hu0 hu1
 have hW:=splanWidth_own hw hwl hk0 hkl K hK.1
 have hWr:=Pn.wd_range (ws:=ws.take k) (fun w hm=>hw w (List.mem_of_mem_take hm)) K 8
 generalize K.wd (ws.take k) 8=W at hW hWr
 obtain⟨kk,hkk,hkk1,-⟩:=pick_eq l p1 10 (by omega) (by omega) hl
 obtain⟨kk0,kk9⟩:=hkk1 (by omega)
 suffices H:∃ (P:Pn) (p' u':Int) (j':Nat),bodyA CQ true 119 [.own 0 0, .int ((d+1:Nat):Int)] (PSt l ws k j u p)=some (rX 3 P,PSt l ws k j' u' p'++rS P)∧Th P j j' u u'∧p1≤p'∧p'≤p1+400+c2∧j'≤j1∧0≤u'∧u'≤1∧P.exprs.length≤2∧P.cols.length≤1 by
  obtain⟨P,p',u',j',b1,b2,b3,b4,b5,b6,b7,b8⟩:=H
  exact⟨P,p',u',j',b1,b2,by omega,by omega,by omega,b6,b7,b8⟩
 have hb:p1+400+c2<300000000:=by omega
 have hp1:0≤p1:=by omega
 by_cases q0:kk=0
 ·exact root_filter0 hl hd hb hp1 a4 a5 hWr.1 hWr.2 hK ht hv v0 hkid hW hkk q0
 by_cases q1:kk=1
 ·exact root_filter1 hl hd hb hp1 a4 a5 hWr.1 hWr.2 hK ht hv v0 hkid hW hkk q1
 by_cases q2:kk=2
 ·exact root_filter2 hl hd hb hp1 a4 a5 hWr.1 hWr.2 hK ht hv v0 hkid hW hkk q2
 by_cases q3:kk=3
 ·exact root_proj3 hl hd hb hp1 a4 a5 hWr.1 hWr.2 hK ht hv v0 hkid hW hkk q3
 by_cases q4:kk=4
 ·exact root_proj4 hl hd hb hp1 a4 a5 hWr.1 hWr.2 hK ht hv v0 hkid hW hkk q4
 by_cases q5:kk=5
 ·by_cases hj:j1=0
  ·exact root_nojoin5 hl hd hb hp1 a4 a5 hWr.1 hWr.2 hK ht hv v0 hkid hW hkk hj q5
  by_cases hw4:W≤4
  ·exact root_join5 hl hw hwl hk0 hkl hd hb hp1 a4 a5 hWr.1 hWr.2 hK ht hv v0 hkid hW hkk hj (by omega) hw4 (fun y hy=>hoth (j1-1) (by omega) y hy) q5
  ·exact root_wide5 hl hd hb hp1 a4 a5 hWr.1 hWr.2 hK ht hv v0 hkid hW hkk hj hw4 q5
 by_cases q6:kk=6
 ·by_cases hj:j1=0
  ·exact root_nojoin6 hl hd hb hp1 a4 a5 hWr.1 hWr.2 hK ht hv v0 hkid hW hkk hj q6
  by_cases hw4:W≤4
  ·exact root_join6 hl hw hwl hk0 hkl hd hb hp1 a4 a5 hWr.1 hWr.2 hK ht hv v0 hkid hW hkk hj (by omega) hw4 (fun y hy=>hoth (j1-1) (by omega) y hy) q6
  ·exact root_wide6 hl hd hb hp1 a4 a5 hWr.1 hWr.2 hK ht hv v0 hkid hW hkk hj hw4 q6
 by_cases q7:kk=7
 ·by_cases hu:0<u1
  ·exact root_union hl hd hb hp1 a4 a5 hWr.1 hWr.2 hK ht hv v0 hkid hW hkk hu q7
  ·exact root_nounion hl hd hb hp1 a4 a5 hWr.1 hWr.2 hK ht hv v0 hkid hW hkk hu q7
 by_cases q8:kk=8
 ·exact root_distinct hl hd hb hp1 a4 a5 hWr.1 hWr.2 hK ht hv v0 hkid hW hkk q8
 have q9:kk=9:=by omega
 by_cases hw1:1<W
 ·exact root_group2 hl hd hb hp1 a4 a5 hWr.1 hWr.2 hK ht hv v0 hkid hW hkk hw1 q9
 ·exact root_group1 hl hd hb hp1 a4 a5 hWr.1 hWr.2 hK ht hv v0 hkid hW hkk hw1 q9
theorem RootOk.le {l:List UInt8} {ws:List Int} {k:Nat} {d j c c':Nat} (h:RootOk l ws k d j c) (hc:c≤c'):RootOk l ws k d j c':=by
 intro p u h0 h1 hu0 hu1
 obtain⟨P,p',u',j',b1,b2,b3,b4,b5,b6,b7,b8⟩:=h p u h0 (by omega) hu0 hu1
 exact⟨P,p',u',j',b1,b2,b3,by omega,b5,b6,b7,b8⟩
theorem root_one {l:List UInt8} (hl:l.length≤2000) {ws:List Int} (hw:∀ w∈ws,0≤w∧w≤6) (hwl:ws.length<1000000) {k:Nat} (hk0:0<k) (hkl:k≤ws.length) (d:Nat) (h:d+1<50):RootOk l ws k (d+1) 1 (2000*(d+1)+1) :=
 (root_step hl hw hwl hk0 hkl (c2:=501) (by omega) (by omega) (plan_one hl hw hwl hk0 hkl d (by omega)) (fun i hi y hy=>by
  obtain rfl:i=0:=by omega
  exact(plan_none hl hw hwl hk0 hkl y (by omega)).le (by omega))).le (by omega)
@[simp] theorem cr_plan (a:List AV) (st:StL):callA CR 119 a st=bodyA CQ true 119 a st:=by rw[callA_prim (p:=bodyA CQ true 119) rfl]
@[simp] theorem cr_filterOf (a:List AV) (st:StL):callA CR 121 a st=bodyA C0 true 121 a st:=by rw[callA_prim (p:=bodyA C0 true 121) rfl]
@[simp] theorem cr_planWidth (a:List AV) (st:StL):callA CR 102 a st=lookX (callA C0) 102 a st:=by rw[callA_prim (p:=lookX (callA C0) 102) rfl]
@[simp] theorem cr_pick (a:List AV) (st:StL):callA CR 98 a st=callA C0 98 a st:=by rw[callA_prim (p:=callA C0 98) rfl]
@[simp] theorem cr_one (a:List AV) (st:StL):callA CR 124 a st=callA C0 124 a st:=by rw[callA_prim (p:=callA C0 124) rfl]
@[simp] theorem cr_cond (a:List AV) (st:StL):callA CR 122 a st=callA C0 122 a st:=by rw[callA_prim (p:=callA C0 122) rfl]
@[simp] theorem cr_anyExpr (a:List AV) (st:StL):callA CR 144 a st=callA C0 144 a st:=by rw[callA_prim (p:=callA C0 144) rfl]
theorem list_nil {α:Type} (l:List α):l=[]∨(l.length≠0∧l≠[]∧0<l.length):=by cases l<;>simp
theorem randomPlan_root {l:List UInt8} (hl:l.length≤2000) {ws:List Int} (hw:∀ w∈ws,0≤w∧w≤6) (hwl:ws.length<1000000) (hk0:0<ws.length) (p:Int) (h0:0≤p) (h1:p+20000<200000000):∃ (P:Pn) (p':Int),
 callA CR 120 [.own 0 0, .osl 1 1 0 ws.length] [Rd l p,some (.arr 1 (intsL ws))]=some (rX 2 P,[Rd l p',some (.arr 1 (intsL ws))]++rS P)∧Rt P∧p≤p'∧p'≤p+20000∧P.exprs.length≤2∧P.cols.length≤1:=by
 obtain⟨v,hv,hv1,-⟩:=pick_eq l p 4 h0 (by omega) hl
 obtain⟨v0,v1⟩:=hv1 (by omega)
 obtain⟨y,rfl⟩:∃ y:Nat,v=y:=⟨v.toNat,by omega⟩
 have w1:IntKind.i64.wrap (1+(y:Int))=((y+1:Nat):Int):=by rw[wrap64 (by omega) (by omega)];omega
 obtain⟨P,p1,u',j',hP,hPt,b1,b2,b3,b4,b5,b6,b7⟩:=root_one hl hw hwl hk0 (Nat.le_refl _) y (by omega) (p+1) 1 (by omega) (by omega) (by omega) (by omega)
 simp only[PSt,Int.natCast_one,Int.natCast_add]at hP
 obtain⟨z,hz,-,-⟩:=pick_eq l p1 2 (by omega) (by omega) hl
 have te:P.exprs.take P.exprs.length=P.exprs:=List.take_of_length_le (by simp)
 have tc:P.cols.take P.cols.length=P.cols:=List.take_of_length_le (by simp)
 have tk:P.kids.take P.kids.length=P.kids:=List.take_of_length_le (by simp)
 by_cases hz0:z=0
 ·have hW:=splanWidth_eq hw (by omega) P (Pn.thin_lim P hPt.1) 8 (by omega)
  have twd:ws.take ws.length=ws:=List.take_of_length_le (by simp)
  obtain⟨e,p2,he,a1,a2,a3⟩:=randomCondition_eq l hl (P.wd ws 8) (p1+1) (by omega) (by omega)
  have hf:=filterOf_own e P
  refine⟨filtP e P,p2,?_,Rt.one (filt_step a3 hPt.1) (hPt.rt b4),by omega,by omega,by simp[filtP],by simp[filtP]⟩
  rw[callA_eq rfl Tryz.func120 rfl rfl]
  rw[Pn.cells_eq P,Ex.cells_eq e]at hf
  rw[Ex.cells_eq e]at he
  rw[Pn.cells_eq P]at hW
  rcases list_nil P.exprs with ce|⟨ce,ce',ce''⟩<;>rcases list_nil P.cols with cc|⟨cc,cc',cc''⟩<;>rcases list_nil P.kids with ck|⟨ck,ck',ck''⟩ <;>
   (simp[rX,rS,bl, *,gro_pos,groB_pos,Ex.cellsL,intsL,Pn.cellsL]at hP hW hf
    simp[hv,w1,hP,hz,hz0,hW,he,hf,rX,rS,bl,filtP,lookX,viewXs,viewX,viewNs,viewN,viewW,bareC, *,Ex.cellsL,intsL,Pn.cellsL,Pn.cells_eq P,Ex.cells_eq e])
 ·refine⟨P,p1+1,?_,hPt.rt b4,by omega,by omega,b6,b7⟩
  rw[callA_eq rfl Tryz.func120 rfl rfl]
  rcases list_nil P.exprs with ce|⟨ce,ce',ce''⟩<;>rcases list_nil P.cols with cc|⟨cc,cc',cc''⟩<;>rcases list_nil P.kids with ck|⟨ck,ck',ck''⟩ <;>
   (simp[rX,rS,bl, *,gro_pos,groB_pos,Ex.cellsL,intsL,Pn.cellsL]at hP
    simp[hv,w1,hP,hz,hz0,rX,rS,bl, *,gro_pos,groB_pos])
theorem randomWidths_rng (l:List UInt8) (hl:l.length≤2000) (p:Int) (h0:0≤p) (h1:p<900000000):∃ (a b:Int) (r:List Int) (p':Int),callA C0 96 [.own 0 0] [Rd l p]=some (.osl 1 1 0 (r.length+2),[Rd l p',some (.arr 1 (intsL (a::b::r)))])∧p≤p'∧p'≤p+4∧1≤a∧a≤2∧1≤b∧b≤2∧r.length≤1∧∀ w∈r,1≤w∧w≤2:=by
 obtain⟨n,hn,hn1,-⟩:=pick_eq l p 2 h0 (by omega) hl
 obtain⟨a,ha,ha1,-⟩:=pick_eq l (p+1) 2 (by omega) (by omega) hl
 obtain⟨b,hb,hb1,-⟩:=pick_eq l (p+1+1) 2 (by omega) (by omega) hl
 have wa:IntKind.i64.wrap (1+a)=1+a:=wrap64 (by omega) (by omega)
 have wb:IntKind.i64.wrap (1+b)=1+b:=wrap64 (by omega) (by omega)
 have w2:IntKind.i64.wrap (2:Int)=2:=wrap64 (by omega) (by omega)
 have w3:IntKind.i64.wrap (3:Int)=3:=wrap64 (by omega) (by omega)
 have w1:=wrap_1
 have w0:IntKind.i64.wrap (0:Int)=0:=wrap64 (by omega) (by omega)
 obtain⟨n0,n1⟩:=hn1 (by omega)
 have hn2:n=0∨n=1:=by omega
 rcases hn2 with rfl|rfl
 ·refine⟨1+a,1+b,[],p+1+1+1,?_,by omega,by omega,by omega,by omega,by omega,by omega,by simp,by simp⟩
  rw[callA_eq rfl Tryz.func96 rfl rfl]
  simp[hn,w2]
  rw[execA_loop];simp[ha,wa,w1]
  rw[execA_loop];simp[hb,wb,w0]
  rw[execA_loop];simp[intsL]
 ·obtain⟨c,hc,hc1,-⟩:=pick_eq l (p+1+1+1) 2 (by omega) (by omega) hl
  have wc:IntKind.i64.wrap (1+c)=1+c:=wrap64 (by omega) (by omega)
  refine⟨1+a,1+b,[1+c],p+1+1+1+1,?_,by omega,by omega,by omega,by omega,by omega,by omega,by simp,by simp;omega⟩
  rw[callA_eq rfl Tryz.func96 rfl rfl]
  simp[hn,w3]
  rw[execA_loop];simp[ha,wa,w2]
  rw[execA_loop];simp[hb,wb,w1]
  rw[execA_loop];simp[hc,wc,w0]
  rw[execA_loop];simp[intsL]
theorem Pn.thin_with {P:Pn} (h:P.thin) (k t:Int):(Pn.mk k t P.exprs P.cols P.kids).thin:=by
 rw[Pn.thin_iff]at h ⊢;exact h
theorem Pn.thin_cols {P:Pn} (h:P.thin) (c:List Int) (hc:c.length<1000000000):(Pn.mk P.kind P.table P.exprs c P.kids).thin:=by
 rw[Pn.thin_iff]at h ⊢;exact⟨h.1,h.2.1,hc,h.2.2.2⟩
theorem Pn.thin_exprs {P:Pn} (h:P.thin) {e:Ex} (he:e.thin) (hl:P.exprs.length+1<1000000000):(Pn.mk P.kind P.table (P.exprs++[e]) P.cols P.kids).thin:=by
 rw[Pn.thin_iff]at h ⊢
 refine⟨by simpa [Pn.exprs]using hl,fun x hx=>?_,h.2.2⟩
 simp only[Pn.exprs,List.mem_append,List.mem_singleton]at hx
 rcases hx with hx|rfl
 ·exact h.2.1 x hx
 ·exact he
theorem anyPlan_root {l:List UInt8} (hl:l.length≤2000) {ws:List Int} (hw:∀ w∈ws,0≤w∧w≤6) (hwl:ws.length<1000000) (hk0:0<ws.length) (p:Int) (h0:0≤p) (h1:p+30000<200000000):∃ (P:Pn) (p':Int),
 callA CR 97 [.own 0 0, .osl 1 1 0 ws.length] [Rd l p,some (.arr 1 (intsL ws))]=some (rX 2 P,[Rd l p',some (.arr 1 (intsL ws))]++rS P)∧(P.thin∧BdV P)∧p≤p'∧p'≤p+30000:=by
 obtain⟨P,p1,hP,hPt,b1,b2,b6,b7⟩:=randomPlan_root hl hw hwl hk0 p h0 (by omega)
 obtain⟨k,hk,-,-⟩:=pick_eq l p1 18 (by omega) (by omega) hl
 have te:P.exprs.take P.exprs.length=P.exprs:=List.take_of_length_le (by simp)
 have tc:P.cols.take P.cols.length=P.cols:=List.take_of_length_le (by simp)
 have hthin:=(Pn.thin_iff P).1 hPt.1
 by_cases k0:k=0
 ·obtain⟨x,hx,-⟩:=one_eq l (p1+1) (by omega) (by omega) hl [[.int 0],[.int 9],[.int 1],[.int 4]] (by simp) (by simp) (by simp)
  simp only[List.length_cons,List.length_nil,Nat.zero_add,Nat.reduceAdd]at hx
  refine⟨.mk x P.table P.exprs P.cols P.kids,p1+1+1,?_,⟨Pn.thin_with hPt.1 _ _,hPt.head⟩,by omega,by omega⟩
  rw[callA_eq rfl Tryz.func97 rfl rfl]
  rcases list_nil P.exprs with ce|⟨ce,ce',ce''⟩<;>rcases list_nil P.cols with cc|⟨cc,cc',cc''⟩<;>rcases list_nil P.kids with ck|⟨ck,ck',ck''⟩ <;>
   (simp[rX,rS,bl,ce,cc,ck,gro_pos,groB_pos]at hP
    simp[hP,hk,k0,hx,rX,rS,bl,ce,cc,ck,gro_pos,groB_pos])
 by_cases k1:k=1
 ·obtain⟨x,hx,-⟩:=one_eq l (p1+1) (by omega) (by omega) hl [[.int (-1)],[.int 4],[.int 1]] (by simp) (by simp) (by simp)
  simp only[List.length_cons,List.length_nil,Nat.zero_add,Nat.reduceAdd]at hx
  refine⟨.mk P.kind x P.exprs P.cols P.kids,p1+1+1,?_,⟨Pn.thin_with hPt.1 _ _,hPt.head⟩,by omega,by omega⟩
  rw[callA_eq rfl Tryz.func97 rfl rfl]
  rcases list_nil P.exprs with ce|⟨ce,ce',ce''⟩<;>rcases list_nil P.cols with cc|⟨cc,cc',cc''⟩<;>rcases list_nil P.kids with ck|⟨ck,ck',ck''⟩ <;>
   (simp[rX,rS,bl,ce,cc,ck,gro_pos,groB_pos]at hP
    simp[hP,hk,k0,k1,hx,rX,rS,bl,ce,cc,ck,gro_pos,groB_pos])
 by_cases k2:k=2
 ·obtain⟨x,hx,-⟩:=one_eq l (p1+1) (by omega) (by omega) hl [[.int 0],[.int 9]] (by simp) (by simp) (by simp)
  simp only[List.length_cons,List.length_nil,Nat.zero_add,Nat.reduceAdd]at hx
  refine⟨.mk P.kind P.table P.exprs (P.cols++[x]) P.kids,p1+1+1,?_,⟨Pn.thin_cols hPt.1 _ (by simp;omega),hPt.head⟩,by omega,by omega⟩
  have hl1:(P.cols.length+1)*8≤140737488355328:=by omega
  rw[callA_eq rfl Tryz.func97 rfl rfl]
  rcases list_nil P.exprs with ce|⟨ce,ce',ce''⟩<;>rcases list_nil P.cols with cc|⟨cc,cc',cc''⟩<;>rcases list_nil P.kids with ck|⟨ck,ck',ck''⟩ <;>
   (simp[rX,rS,bl,ce,cc,ck,gro_pos,groB_pos]at hP
    simp[hP,hk,k0,k1,k2,hx,rX,rS,bl,ce,cc,ck,gro_pos,groB_pos,intsL,intsL_append,hl1,tc])
 by_cases k3:k=3
 ·obtain⟨e,p2,he,a1,a2,a3⟩:=anyExpr_eq l hl 2 (p1+1) (by omega) (by omega)
  refine⟨.mk P.kind P.table (P.exprs++[e]) P.cols P.kids,p2,?_,⟨Pn.thin_exprs hPt.1 (Ex.thin_of_size _ (by omega)) (by omega),bdV_expr hPt.2.1 hPt.2.2⟩,by omega,by omega⟩
  have hl1:(P.exprs.length+1)*56≤140737488355328:=by omega
  rw[callA_eq rfl Tryz.func97 rfl rfl]
  rw[Ex.cells_eq e]at he
  rcases list_nil P.exprs with ce|⟨ce,ce',ce''⟩<;>rcases list_nil P.cols with cc|⟨cc,cc',cc''⟩<;>rcases list_nil P.kids with ck|⟨ck,ck',ck''⟩ <;>
   (simp[rX,rS,bl,ce,cc,ck,gro_pos,groB_pos]at hP
    simp[hP,hk,k0,k1,k2,k3,he,rX,rS,bl,ce,cc,ck,gro_pos,groB_pos,Ex.cellsL,Ex.cellsL_append,hl1,te,Ex.cells_eq e])
 ·refine⟨P,p1+1,?_,⟨hPt.1,hPt.all⟩,by omega,by omega⟩
  rw[callA_eq rfl Tryz.func97 rfl rfl]
  rcases list_nil P.exprs with ce|⟨ce,ce',ce''⟩<;>rcases list_nil P.cols with cc|⟨cc,cc',cc''⟩<;>rcases list_nil P.kids with ck|⟨ck,ck',ck''⟩ <;>
   (simp[rX,rS,bl,ce,cc,ck,gro_pos,groB_pos]at hP
    simp[hP,hk,k0,k1,k2,k3,rX,rS,bl,ce,cc,ck,gro_pos,groB_pos])
end Go.Proofs.YtiailccmofdhfaaGreat.P
namespace Go.Proofs.YtiailccmofdhfaaGreat.P
open Go Go.Av G
set_option maxRecDepth 4000
set_option maxHeartbeats 8000000
@[simp] theorem ce_randomWidths (a:List AV) (st:StL):callA CE 96 a st=callA C0 96 a st:=by
  rw[callA_prim (p:=callA CR 96) rfl,callA_prim (p:=callA C0 96) rfl]
@[simp] theorem ce_anyPlan (a:List AV) (st:StL):callA CE 97 a st=callA CR 97 a st:=by
  rw[callA_prim (p:=callA CR 97) rfl]
@[simp] theorem ce_randomDatabase (a:List AV) (st:StL):callA CE 72 a st=callA C0 72 a st:=by
  rw[callA_prim (p:=callA CR 72) rfl,callA_prim (p:=callA C0 72) rfl]
@[simp] theorem ce_pick (a:List AV) (st:StL):callA CE 98 a st=callA C0 98 a st:=by
  rw[callA_prim (p:=callA CR 98) rfl,callA_prim (p:=callA C0 98) rfl]
@[simp] theorem ce_newReader (a:List AV) (st:StL):callA CE 57 a st=callA C0 57 a st:=by
  rw[callA_prim (p:=callA CR 57) rfl,callA_prim (p:=callA C0 57) rfl]
@[simp] theorem ce_anyTable (a:List AV) (st:StL):callA CE 99 a st=callA CT 99 a st:=by
  rw[callA_prim (p:=callA CT 99) rfl]
theorem planAndTables_eq {l:List UInt8} (hl:l.length≤2000):∃ (P:Pn) (db:List Tbl) (p':Int),callA CE 56 [.own 0 0] [Rd l 0]=some (.tup [.i (.agg P.cells), .i (.isl (tblsL db))],[Rd l p'])∧P.thin∧BdV P∧db.length≤3∧(∀ t∈db,t.small∧t.rows.length≤5):=by
 obtain⟨a,b,r,p1,hr,r1,r2,r3,r4,r5,r6,r7,r8⟩:=randomWidths_rng l hl 0 (by omega) (by omega)
 have hw:∀ w∈a::b::r,1≤w∧w≤6:=by
  intro w hm
  simp only[List.mem_cons]at hm
  rcases hm with rfl|rfl|hm
  ·omega
  ·omega
  ·have:=r8 w hm;omega
 obtain⟨P,p2,hP,hPt,c1,c2⟩:=anyPlan_root hl (ws:=a::b::r) (fun w hm=>by have:=hw w hm;omega) (by simp;omega) (by simp) p1 (by omega) (by omega)
 obtain⟨ts,p3,hd,d1,d2,d3,d4⟩:=randomDatabase_eq l hl (a::b::r) hw (by simp;omega) p2 (by omega) (by omega)
 obtain⟨k,hk,-,-⟩:=pick_eq l p3 16 (by omega) (by omega) hl
 have te:P.exprs.take P.exprs.length=P.exprs:=List.take_of_length_le (by simp)
 have tc:P.cols.take P.cols.length=P.cols:=List.take_of_length_le (by simp)
 have tk:P.kids.take P.kids.length=P.kids:=List.take_of_length_le (by simp)
 have htl:ts.length=r.length+2:=by have:=congrArg List.length d1;simpa using this
 have tt:(tblsL ts).take (r.length+2)=tblsL ts:=List.take_of_length_le (by simp;omega)
 have tt2:ts.take (r.length+2)=ts:=List.take_of_length_le (by omega)
 have tt3:(tblsL ts).take (r.length+1+1)=tblsL ts:=List.take_of_length_le (by simp;omega)
 have tt4:ts.take (r.length+1+1)=ts:=List.take_of_length_le (by omega)
 have htl2:r.length+1+1≤ts.length:=by omega
 have hr0:(0:Int)<(r.length:Int)+2:=by omega
 have hts:∀ t∈ts,t.small∧t.rows.length≤5:=fun t ht=>⟨Tbl.ok_small (d2 t ht).1,by have:=(d2 t ht).2;omega⟩
 by_cases k0:k=0
 ·obtain⟨t,p4,ht,t1,t2,t3,t4⟩:=anyTable_ok l hl a.toNat (by omega) (by omega) (p3+1) (by omega) (by omega)
  rw[show((a.toNat:Nat):Int)=a by omega]at ht
  obtain⟨t0,ts',rfl⟩:∃ t0 ts',ts=t0::ts':=by cases ts with
   | nil=>simp at htl
   | cons x y=>exact⟨x,y,rfl⟩
  refine⟨P,t::ts',p4,?_,hPt.1,hPt.2,by simp at htl ⊢;omega,fun x hx=>?_⟩
  ·rw[callA_eq rfl Tryz.func56 rfl rfl]
   have hq:(rowsL t.rows).take t.rows.length=rowsL t.rows:=List.take_of_length_le (by simp)
   have hq2:t.rows.take t.rows.length=t.rows:=List.take_of_length_le (by simp)
   have tt5:(tblsL ts').take (r.length+1)=tblsL ts':=List.take_of_length_le (by simp at htl ⊢;omega)
   have tt6:ts'.take (r.length+1)=ts':=List.take_of_length_le (by simp at htl;omega)
   have htl3:r.length+1≤ts'.length:=by simp at htl;omega
   have hr1:(0:Int)<(r.length:Int)+1+1:=by omega
   have hcons:∀ x:Tbl,tblsL (x::ts')=[.int x.w, .isl (rowsL x.rows)]::tblsL ts':=fun x=>rfl
   rw[hcons]at hd ⊢
   by_cases hz:t.rows.length=0
   ·have hn:t.rows=[]:=List.length_eq_zero_iff.1 hz
    rw[hz]at ht
    simp at ht
    rcases list_nil P.exprs with ce|⟨ce,ce',ce''⟩<;>rcases list_nil P.cols with cc|⟨cc,cc',cc''⟩<;>rcases list_nil P.kids with ck|⟨ck,ck',ck''⟩ <;>
     (simp[rX,rS,bl,ce,cc,ck,gro_pos,groB_pos,intsL]at hP
      simp[intsL]at hd
      simp[hr,hP,hd,hk,k0,ht,hn,hr0,hr1,ce,cc,ck,intsL,te,tc,tk,tt5,tt6,htl3,rowsL_nil,Pn.cells_eq P,Ex.cellsL,Pn.cellsL]
      done)
   ·rw[gro_pos hz,groB_pos hz]at ht
    rcases list_nil P.exprs with ce|⟨ce,ce',ce''⟩<;>rcases list_nil P.cols with cc|⟨cc,cc',cc''⟩<;>rcases list_nil P.kids with ck|⟨ck,ck',ck''⟩ <;>
     (simp[rX,rS,bl,ce,cc,ck,gro_pos,groB_pos,intsL]at hP
      simp[intsL]at hd
      simp[hr,hP,hd,hk,k0,ht,hq,hq2,hr0,hr1,ce,cc,ck,intsL,te,tc,tk,tt5,tt6,htl3,Pn.cells_eq P,Ex.cellsL,Pn.cellsL]
      done)
  ·rcases List.mem_cons.1 hx with rfl|hx
   ·exact⟨t1,t2⟩
   ·exact hts x (by simp[hx])
 ·refine⟨P,ts,p3+1,?_,hPt.1,hPt.2,by omega,hts⟩
  rw[callA_eq rfl Tryz.func56 rfl rfl]
  rcases list_nil P.exprs with ce|⟨ce,ce',ce''⟩<;>rcases list_nil P.cols with cc|⟨cc,cc',cc''⟩<;>rcases list_nil P.kids with ck|⟨ck,ck',ck''⟩ <;>
   (simp[rX,rS,bl,ce,cc,ck,gro_pos,groB_pos,intsL]at hP
    simp[intsL]at hd
    simp[hr,hP,hd,hk,k0,ce,cc,ck,intsL,te,tc,tk,tt,tt2,tt3,tt4,htl2,Pn.cells_eq P,Ex.cellsL,Pn.cellsL]
    done)
@[simp] theorem ce_sEvalPlan (a:List AV) (st:StL):callA CE 29 a st=callA C0 29 a st:=by
  rw[callA_prim (p:=callA CR 29) rfl,callA_prim (p:=callA C0 29) rfl]
@[simp] theorem ce_equalTables (a:List AV) (st:StL):callA CE 30 a st=callA C0 30 a st:=by
  rw[callA_prim (p:=callA CR 30) rfl,callA_prim (p:=callA C0 30) rfl]
@[simp] theorem ce_ValidTable (a:List AV) (st:StL):callA CE 34 a st=callA C0 34 a st:=by
  rw[callA_prim (p:=callA CR 34) rfl,callA_prim (p:=callA C0 34) rfl]
@[simp] theorem ce_lwidthsOf (a:List AV) (st:StL):callA CE 36 a st=callA C0 36 a st:=by
  rw[callA_prim (p:=callA CR 36) rfl,callA_prim (p:=callA C0 36) rfl]
structure Drn (P:Pn) (db:List Tbl):Prop where
 thin:P.thin
 bdv:BdV P
 len:db.length≤3
 small:∀ t∈db,t.small
 rows:∀ t∈db,t.rows.length≤5
theorem drawEval_eq (code:List UInt8):∃ (P:Pn) (db:List Tbl),callA CE 28 [.i (.isl (bytesI code))] []=some (.tup [.i (.agg P.cells), .i (.isl (tblsL db))],[])∧Drn P db:=by
 obtain⟨c,hc,hr⟩:=newReader_eq code
 obtain⟨P,db,p',h,h1,h2,h3,h4⟩:=planAndTables_eq hc
 refine⟨P,db,?_,h1,h2,h3,fun t ht=>(h4 t ht).1,fun t ht=>(h4 t ht).2⟩
 rw[callA_eq rfl Tryz.func28 rfl rfl]
 rw[Pn.cells_eq P]at *
 simp[hr,h]
structure EvD (p:Pn) (db:List Tbl):Prop where
 ok:∀ t∈db,t.ok=true
 ws:okWs (db.map Tbl.w)=true
 wd:p.wd (db.map Tbl.w) 8≠0
theorem evOk_iff {p:Pn} {db:List Tbl}:evOk p db=true↔EvD p db:=by
 unfold evOk
 simp only[Bool.and_eq_true,decide_eq_true_eq]
 constructor
 ·rintro⟨h1,h2⟩
  obtain⟨k1,k2,_⟩:=width_ok8 h2
  exact⟨fun t ht=>List.all_eq_true.1 h1 t ht,k1,k2⟩
 ·intro h
  refine⟨List.all_eq_true.2 h.ok,?_⟩
  unfold Pn.width
  rw[if_pos h.ws];exact h.wd
theorem EvD.width {p:Pn} {db:List Tbl} (h:EvD p db):p.width (db.map Tbl.w)=p.wd (db.map Tbl.w) 8:=by
 unfold Pn.width;rw[if_pos h.ws]
theorem EvD.good {p:Pn} {db:List Tbl} (h:EvD p db):(p.evP db).ok=true∧(p.evP db).w=p.wd (db.map Tbl.w) 8:=ev_good rfl h.ok p 8 h.wd
theorem fit_bd {p:Pn} {db:List Tbl} (hr:∀ t∈db,t.rows.length≤5) (h:EvD p db) (hb:p.bd 5≤400):p.fit db=true :=
 (bd_fit (n:=5) (by omega) rfl (fun t ht=>⟨h.ok t ht,hr t ht⟩) p 8 h.wd hb).1
theorem Drn.bd {P:Pn} {db:List Tbl} (h:Drn P db) {lv:Nat} (hw:P.wd (db.map Tbl.w) lv≠0):P.bd 5≤50:=h.bdv _ lv 5 (by omega) hw
theorem Drn.fit {P:Pn} {db:List Tbl} (h:Drn P db) (he:evOk P db=true):P.fit db=true:=by
 have hd:=evOk_iff.1 he
 have:=h.bd hd.wd
 exact fit_bd h.rows hd (by omega)
theorem zsmall:(⟨0,[]⟩:Tbl).small:=⟨by simp,by simp⟩
theorem eq_zero:callA C0 30 [.i (.agg [.int 0, .isl []]), .i (.agg [.int 0, .isl []])] []=some (.bool true,[]):=by
 have:=equalTables_eq ⟨0,[]⟩ ⟨0,[]⟩ zsmall
 simpa [rowsL_nil]using this
theorem eq_same {t:Tbl} (h:t.ok=true):callA C0 30 [.i (.agg [.int t.w, .isl (rowsL t.rows)]), .i (.agg [.int t.w, .isl (rowsL t.rows)])] []=some (.bool true,[]):=by
 have:=equalTables_eq t t (Tbl.ok_small h)
 simpa using this
theorem EvD.evOk {P Q:Pn} {db:List Tbl} (h:EvD P db):evOk Q db=decide (Q.wd (db.map Tbl.w) 8≠0):=by
 unfold Go.Av.evOk Pn.width
 rw[if_pos h.ws,List.all_eq_true.2 h.ok];rfl
theorem EvD.rows {P:Pn} {db:List Tbl} (h:EvD P db) (hr:∀ t∈db,t.rows.length≤5) (hb:P.bd 5≤400):(P.evP db).rows.length≤P.bd 5 :=
 (bd_fit (n:=5) (by omega) rfl (fun t ht=>⟨h.ok t ht,hr t ht⟩) P 8 h.wd hb).2
theorem sortR_dedup {t:Tbl} (h:t.ok=true):sortR (dedup t.rows)=dedup t.rows:=by
 have:=tab_dedup h
 have hl:=(dedup_sub t.rows).length_le
 have h4:=((Tbl.ok_iff t).1 h).2.1
 have h2:=congrArg Tbl.rows this
 rw[tab_rows (by omega)]at h2
 exact h2
theorem DistinctRows_eq {t:Tbl} (h:t.ok=true):callA CE 32 [.i (.agg [.int t.w, .isl (rowsL t.rows)])] []=some (.tup [.i (.agg [.int t.w, .isl (rowsL (dedup t.rows))]), .bool true],[]):=by
 have hv:=ValidTable_eq t (Tbl.ok_small h).2
 rw[h]at hv
 obtain⟨o1,o2⟩:=oksL_of h
 have hl:=(dedup_sub t.rows).length_le
 have h4:=((Tbl.ok_iff t).1 h).2.1
 have hfl:=different_mk (rowsL t.rows)
 have hcl:=collect_one t.w 113 (by decide) [.i (.isl (rowsL t.rows))] (dedup t.rows) (by omega) (fun r hr=>o1 r ((dedup_sub _).subset hr)) (fun R cs hY=>different_it hY _ h4 o2) rfl (fun r=>rfl)
 rw[sortR_dedup h]at hcl
 rw[callA_eq rfl Tryz.func32 rfl rfl]
 simp[hv,hfl,hcl]
def TOX (w:Int) (rows:List (List Val)) (i:Nat):AS :=
 { env:=[(0, .int w),(1, .i (.isl (rowsL rows))),(4, .own 0 0),(5, .bool false),(7,jk i (.isl (valsL ((rows[i-1]?).getD [])))),(15, .bool false),(17, .i (.isl (rowsL rows))),(18, .int rows.length),(19, .int i),(20,jk i (.bool true)),(31,jk i (.bool false))],st:=[some (.box [.i (.int 0), .nils])] }
def PCX (db:List Tbl) (p:Pn) (i:Nat):AS :=
 { env:=[(0, .i (.agg p.cells)),(1, .i (.isl (tblsL db))),(2, .own 0 0),(4, .int 0),(5, .int (((p.evP db).rows.length:Int)+(((p.kids.map (Pn.cost db)).take i).sum:Nat))),(6, .int i),(16,jk i (.bool true))],st:=[some (.box [.i (.int p.kind), .i (.int p.table), .i (.isl (Ex.cellsL p.exprs)), .i (.isl (intsL p.cols)), .i (.isl (Pn.cellsL p.kids))])] }
theorem ifmin (x c:Int):(if c<x then c else x)=min x c:=by split<;>omega
theorem ifmax (x:Int):(if 1<x then x else 1)=max 1 x:=by split<;>omega
theorem bound_eq {ws cnt:List Int} (hl:cnt.length=ws.length) (hc:∀ n∈cnt,0≤n∧n≤400):∀ (p:Pn) (lv:Nat),p.wd ws lv≠0→callA C0 84 [.i (.iref p.cells), .i (.isl (intsL cnt))] []=some (.int (p.rb cnt),[]):=by
 intro p
 induction p using Pn.ind with
 | h k t es cs ks ih =>
  intro lv h
  have hsh:=wd_shape h
  have hr:=rb_rng hc _ lv h
  generalize hp:Pn.mk k t es cs ks=p at hsh h hr
  have hk:ks=p.kids:=by rw[← hp];rfl
  subst hk
  cases hsh with
  | scan t W h0 h1 hW =>
   have hi:=(List.getElem?_eq_some_iff.1 h1).1
   obtain⟨x,hx⟩:∃ x,cnt[t.toNat]?=some x:=⟨_,List.getElem?_eq_getElem (by omega)⟩
   have q:=intsL_nth hx
   have hi':t<(cnt.length:Int):=by omega
   rw[callA_eq rfl Tryz.func84 rfl rfl,rb_scan,hx]
   simp[Pn.scan,Pn.cells_mk,h0,hi',q]
  | filt m e a h1 ha he =>
   have i1:=ih a (by simp[filt]) m ha
   rw[callA_eq rfl Tryz.func84 rfl rfl,rb_filt]
   rw[Pn.cells_eq a]at i1
   simp[filt,Pn.cells_mk,Pn.cellsL,ifmin,ifmax,Pn.cells_eq a,i1]
  | proj m es a h1 ha hl he =>
   have i1:=ih a (by simp[proj]) m ha
   rw[callA_eq rfl Tryz.func84 rfl rfl,rb_proj]
   rw[Pn.cells_eq a]at i1
   simp[proj,Pn.cells_mk,Pn.cellsL,ifmin,ifmax,Pn.cells_eq a,i1]
  | pair m k e a b h1 hk ha hb hl6 he =>
   have i1:=ih a (by simp[pairP]) m ha
   have i2:=ih b (by simp[pairP]) m hb
   obtain⟨r1,r2⟩:=rb_rng hc a m ha
   obtain⟨r3,r4⟩:=rb_rng hc b m hb
   have hm:∀ y:Int,0≤y→y≤1000000000→IntKind.i64.wrap (a.rb cnt*y)=a.rb cnt*y:=fun y y0 y1=>by
    have h1:=Int.mul_nonneg r1 y0
    have h2:=Int.mul_le_mul r2 y1 y0 (by omega:(0:Int)≤1000000000)
    exact wrap64 (by omega) (by omega)
   have m1:=hm _ r3 r4
   have m2:=hm (max 1 (b.rb cnt)) (by omega) (by omega)
   rw[callA_eq rfl Tryz.func84 rfl rfl,rb_pair cnt hk]
   rw[Pn.cells_eq a]at i1
   rw[Pn.cells_eq b]at i2
   rcases hk with rfl|rfl
   ·simp[pairP,Pn.cells_mk,Pn.cellsL,ifmin,ifmax,Pn.cells_eq a,Pn.cells_eq b,i1,i2,m1]
   ·simp[pairP,Pn.cells_mk,Pn.cellsL,ifmin,ifmax,Pn.cells_eq a,Pn.cells_eq b,i1,i2,m2]
  | union m a b h1 ha hb =>
   have hb':b.wd ws m≠0:=by rw[hb];exact ha
   have i1:=ih a (by simp[unionP]) m ha
   have i2:=ih b (by simp[unionP]) m hb'
   obtain⟨r1,r2⟩:=rb_rng hc a m ha
   obtain⟨r3,r4⟩:=rb_rng hc b m hb'
   have m1:IntKind.i64.wrap (a.rb cnt+b.rb cnt)=a.rb cnt+b.rb cnt:=wrap64 (by omega) (by omega)
   rw[callA_eq rfl Tryz.func84 rfl rfl,rb_union]
   rw[Pn.cells_eq a]at i1
   rw[Pn.cells_eq b]at i2
   simp[unionP,Pn.cells_mk,Pn.cellsL,ifmin,ifmax,Pn.cells_eq a,Pn.cells_eq b,i1,i2,m1]
  | dist m a h1 ha =>
   have i1:=ih a (by simp) m ha
   rw[callA_eq rfl Tryz.func84 rfl rfl,rb_dist]
   rw[Pn.cells_eq a]at i1
   simp[Pn.cells_mk,Pn.cellsL,ifmin,ifmax,Pn.cells_eq a,i1]
  | group m cs a h1 ha hc6 ho =>
   have i1:=ih a (by simp) m ha
   rw[callA_eq rfl Tryz.func84 rfl rfl,rb_group]
   rw[Pn.cells_eq a]at i1
   cases cs with
   | nil=>simp[Pn.cells_mk,Pn.cellsL,ifmin,ifmax,Pn.cells_eq a,i1,intsL]
   | cons c cs =>
    have n0:¬ ((cs.length:Int)+1=0):=by omega
    simp[Pn.cells_mk,Pn.cellsL,ifmin,ifmax,Pn.cells_eq a,i1,intsL,n0]
theorem srowBound_eq {ws cnt:List Int} (hl:cnt.length=ws.length) (hc:∀ n∈cnt,0≤n∧n≤400):∀ (p:Pn) (lv:Nat),p.wd ws lv≠0→callA C0 85 [.i (.agg p.cells), .i (.isl (intsL cnt))] []=some (.int (p.rb cnt),[]):=by
 intro p
 induction p using Pn.ind with
 | h k t es cs ks ih =>
  intro lv h
  have hsh:=wd_shape h
  have hr:=rb_rng hc _ lv h
  generalize hp:Pn.mk k t es cs ks=p at hsh h hr
  have hk:ks=p.kids:=by rw[← hp];rfl
  subst hk
  cases hsh with
  | scan t W h0 h1 hW =>
   have hi:=(List.getElem?_eq_some_iff.1 h1).1
   obtain⟨x,hx⟩:∃ x,cnt[t.toNat]?=some x:=⟨_,List.getElem?_eq_getElem (by omega)⟩
   have q:=intsL_nth hx
   have hi':t<(cnt.length:Int):=by omega
   rw[callA_eq rfl Tryz.func85 rfl rfl,rb_scan,hx]
   simp[Pn.scan,Pn.cells_mk,h0,hi',q]
  | filt m e a h1 ha he =>
   have i1:=ih a (by simp[filt]) m ha
   rw[callA_eq rfl Tryz.func85 rfl rfl,rb_filt]
   rw[Pn.cells_eq a]at i1
   simp[filt,Pn.cells_mk,Pn.cellsL,ifmin,ifmax,Pn.cells_eq a,i1]
  | proj m es a h1 ha hl he =>
   have i1:=ih a (by simp[proj]) m ha
   rw[callA_eq rfl Tryz.func85 rfl rfl,rb_proj]
   rw[Pn.cells_eq a]at i1
   simp[proj,Pn.cells_mk,Pn.cellsL,ifmin,ifmax,Pn.cells_eq a,i1]
  | pair m k e a b h1 hk ha hb hl6 he =>
   have i1:=ih a (by simp[pairP]) m ha
   have i2:=ih b (by simp[pairP]) m hb
   obtain⟨r1,r2⟩:=rb_rng hc a m ha
   obtain⟨r3,r4⟩:=rb_rng hc b m hb
   have hm:∀ y:Int,0≤y→y≤1000000000→IntKind.i64.wrap (a.rb cnt*y)=a.rb cnt*y:=fun y y0 y1=>by
    have h1:=Int.mul_nonneg r1 y0
    have h2:=Int.mul_le_mul r2 y1 y0 (by omega:(0:Int)≤1000000000)
    exact wrap64 (by omega) (by omega)
   have m1:=hm _ r3 r4
   have m2:=hm (max 1 (b.rb cnt)) (by omega) (by omega)
   rw[callA_eq rfl Tryz.func85 rfl rfl,rb_pair cnt hk]
   rw[Pn.cells_eq a]at i1
   rw[Pn.cells_eq b]at i2
   rcases hk with rfl|rfl
   ·simp[pairP,Pn.cells_mk,Pn.cellsL,ifmin,ifmax,Pn.cells_eq a,Pn.cells_eq b,i1,i2,m1]
   ·simp[pairP,Pn.cells_mk,Pn.cellsL,ifmin,ifmax,Pn.cells_eq a,Pn.cells_eq b,i1,i2,m2]
  | union m a b h1 ha hb =>
   have hb':b.wd ws m≠0:=by rw[hb];exact ha
   have i1:=ih a (by simp[unionP]) m ha
   have i2:=ih b (by simp[unionP]) m hb'
   obtain⟨r1,r2⟩:=rb_rng hc a m ha
   obtain⟨r3,r4⟩:=rb_rng hc b m hb'
   have m1:IntKind.i64.wrap (a.rb cnt+b.rb cnt)=a.rb cnt+b.rb cnt:=wrap64 (by omega) (by omega)
   rw[callA_eq rfl Tryz.func85 rfl rfl,rb_union]
   rw[Pn.cells_eq a]at i1
   rw[Pn.cells_eq b]at i2
   simp[unionP,Pn.cells_mk,Pn.cellsL,ifmin,ifmax,Pn.cells_eq a,Pn.cells_eq b,i1,i2,m1]
  | dist m a h1 ha =>
   have i1:=ih a (by simp) m ha
   rw[callA_eq rfl Tryz.func85 rfl rfl,rb_dist]
   rw[Pn.cells_eq a]at i1
   simp[Pn.cells_mk,Pn.cellsL,ifmin,ifmax,Pn.cells_eq a,i1]
  | group m cs a h1 ha hc6 ho =>
   have i1:=ih a (by simp) m ha
   rw[callA_eq rfl Tryz.func85 rfl rfl,rb_group]
   rw[Pn.cells_eq a]at i1
   cases cs with
   | nil=>simp[Pn.cells_mk,Pn.cellsL,ifmin,ifmax,Pn.cells_eq a,i1,intsL]
   | cons c cs =>
    have n0:¬ ((cs.length:Int)+1=0):=by omega
    simp[Pn.cells_mk,Pn.cellsL,ifmin,ifmax,Pn.cells_eq a,i1,intsL,n0]
theorem len3 {α:Type} {l:List α} (h:l.length≤3):l=[]∨(∃ a,l=[a])∨(∃ a b,l=[a,b])∨∃ a b c,l=[a,b,c]:=by
 match l,h with
 | [],_=>exact .inl rfl
 | [a],_=>exact .inr (.inl ⟨a,rfl⟩)
 | [a,b],_=>exact .inr (.inr (.inl ⟨a,b,rfl⟩))
 | [a,b,c],_=>exact .inr (.inr (.inr ⟨a,b,c,rfl⟩))
theorem RowBound_eq {ws cnt:List Int} (hl:cnt.length=ws.length) (hc:∀ n∈cnt,0≤n∧n≤400) (h3:cnt.length≤3) (p:Pn) (hw:okWs ws=true) (h:p.wd ws 8≠0):callA C0 44 [.i (.agg p.cells), .i (.isl (intsL ws)), .i (.isl (intsL cnt))] []=some (.int (p.rb cnt),[]):=by
 have c1:=planWidth_eq p ws
 have c2:=bound_eq hl hc p 8 h
 have hwd:p.width ws≠0:=by unfold Pn.width;rw[if_pos hw];exact h
 have x1:IntKind.i64.wrap 1=1:=wrap64 (by omega) (by omega)
 have x2:IntKind.i64.wrap 2=2:=wrap64 (by omega) (by omega)
 have x3:IntKind.i64.wrap 3=3:=wrap64 (by omega) (by omega)
 rw[callA_eq rfl Tryz.func44 rfl rfl]
 rw[Pn.cells_eq p]at *
 rcases len3 h3 with rfl|⟨a,rfl⟩|⟨a,b,rfl⟩|⟨a,b,c,rfl⟩
 ·have hl':(ws.length:Int)=0:=by simp at hl;omega
  have hl2:ws.length=0:=by omega
  simp[intsL]at c2
  simp[intsL,c1,c2,hwd,hl',hl2]
  rw[execA_loop]
  simp[c2]
 ·have hl':(ws.length:Int)=1:=by simp at hl;omega
  have a1:=hc a (by simp)
  have a2:¬ a<0:=by omega
  have a3:¬ 400<a:=by omega
  simp[intsL]at c2
  simp[intsL,c1,c2,hwd,hl']
  rw[execA_loop]
  simp[a2,a3,x1,x2,x3]
  rw[execA_loop]
  simp[c2]
 ·have hl':(ws.length:Int)=2:=by simp at hl;omega
  have a1:=hc a (by simp)
  have a2:¬ a<0:=by omega
  have a3:¬ 400<a:=by omega
  have b1:=hc b (by simp)
  have b2:¬ b<0:=by omega
  have b3:¬ 400<b:=by omega
  simp[intsL]at c2
  simp[intsL,c1,c2,hwd,hl']
  iterate 2 (rw[execA_loop];simp[a2,a3,b2,b3,x1,x2,x3])
  rw[execA_loop]
  simp[c2]
 ·have hl':(ws.length:Int)=3:=by simp at hl;omega
  have a1:=hc a (by simp)
  have a2:¬ a<0:=by omega
  have a3:¬ 400<a:=by omega
  have b1:=hc b (by simp)
  have b2:¬ b<0:=by omega
  have b3:¬ 400<b:=by omega
  have e1:=hc c (by simp)
  have e2:¬ c<0:=by omega
  have e3:¬ 400<c:=by omega
  simp[intsL]at c2
  simp[intsL,c1,c2,hwd,hl']
  iterate 3 (rw[execA_loop];simp[a2,a3,b2,b3,e2,e3,x1,x2,x3])
  rw[execA_loop]
  simp[c2]
theorem sRowBound_eq {ws cnt:List Int} (hl:cnt.length=ws.length) (hc:∀ n∈cnt,0≤n∧n≤400) (h3:cnt.length≤3) (p:Pn) (hpt:p.thin) (hw:okWs ws=true) (h:p.wd ws 8≠0):callA C0 45 [.i (.agg p.cells), .i (.isl (intsL ws)), .i (.isl (intsL cnt))] []=some (.int (p.rb cnt),[]):=by
 have c1:=widthOf_eq p (Pn.thin_lim p hpt) ws (by omega)
 have c2:=srowBound_eq hl hc p 8 h
 have hwd:p.width ws≠0:=by unfold Pn.width;rw[if_pos hw];exact h
 have x1:IntKind.i64.wrap 1=1:=wrap64 (by omega) (by omega)
 have x2:IntKind.i64.wrap 2=2:=wrap64 (by omega) (by omega)
 have x3:IntKind.i64.wrap 3=3:=wrap64 (by omega) (by omega)
 rw[callA_eq rfl Tryz.func45 rfl rfl]
 rw[Pn.cells_eq p]at *
 rcases len3 h3 with rfl|⟨a,rfl⟩|⟨a,b,rfl⟩|⟨a,b,c,rfl⟩
 ·have hl':(ws.length:Int)=0:=by simp at hl;omega
  have hl2:ws.length=0:=by omega
  simp[intsL]at c2
  simp[intsL,c1,c2,hwd,hl',hl2]
  rw[execA_loop]
  simp[c2]
 ·have hl':(ws.length:Int)=1:=by simp at hl;omega
  have a1:=hc a (by simp)
  simp[intsL]at c2
  simp[intsL,c1,c2,hwd,hl']
  rw[execA_loop]
  simp[a1,x1,x2,x3]
  rw[execA_loop]
  simp[c2]
 ·have hl':(ws.length:Int)=2:=by simp at hl;omega
  have a1:=hc a (by simp)
  have b1:=hc b (by simp)
  simp[intsL]at c2
  simp[intsL,c1,c2,hwd,hl']
  iterate 2 (rw[execA_loop];simp[a1,b1,x1,x2,x3])
  rw[execA_loop]
  simp[c2]
 ·have hl':(ws.length:Int)=3:=by simp at hl;omega
  have a1:=hc a (by simp)
  have b1:=hc b (by simp)
  have e1:=hc c (by simp)
  simp[intsL]at c2
  simp[intsL,c1,c2,hwd,hl']
  iterate 3 (rw[execA_loop];simp[a1,b1,e1,x1,x2,x3])
  rw[execA_loop]
  simp[c2]
@[simp] theorem ce_RowBound (a:List AV) (st:StL):callA CE 44 a st=callA C0 44 a st:=by
  rw[callA_prim (p:=callA CR 44) rfl,callA_prim (p:=callA C0 44) rfl]
@[simp] theorem ce_sRowBound (a:List AV) (st:StL):callA CE 45 a st=callA C0 45 a st:=by
  rw[callA_prim (p:=callA CR 45) rfl,callA_prim (p:=callA C0 45) rfl]
theorem law_rowBound (code:List UInt8):callA CE 18 [.i (.isl (bytesI code))] []=some (.bool true,[]):=by
 rw[callA_eq rfl Tryz.func18 rfl rfl]
 by_cases hl:(1048576:Int)<code.length
 ·simp[bytesI_length,hl]
 obtain⟨p,db,hd,hp⟩:=drawEval_eq code
 have e1:=EvalPlan_eq p db hp.small hp.fit
 have e2:=sEvalPlan_eq p hp.thin db (by have:=hp.len;omega) hp.small
 cases hev:evOk p db with
 | false =>
  have e3:=eq_zero
  simp only[hev,Bool.false_eq_true,if_false]at e1 e2
  rw[Pn.cells_eq p]at *
  simp[bytesI_length,hl,hd,e1,e2,e3]
 | true =>
  have hD:=evOk_iff.1 hev
  obtain⟨g1,g2⟩:=hD.good
  have e3:=eq_same g1
  have hb:=hp.bd hD.wd
  simp only[hev,if_true]at e1 e2
  have e5:=lwidthsOf_eq db (by have:=hp.len;omega)
  have hle:=ev_bound rfl hD.ok p 8 hD.wd
  have hcnt:∀ n∈(db.map fun t=>(t.rows.length:Int)),0≤n∧n≤400:=by
   intro n hn
   obtain⟨s,hs,rfl⟩:=List.mem_map.1 hn
   have:=hp.rows s hs
   omega
  have c1:=RowBound_eq (ws:=db.map Tbl.w) (by simp) hcnt (by have:=hp.len;simpa using this) p hD.ws hD.wd
  have c2:=sRowBound_eq (ws:=db.map Tbl.w) (by simp) hcnt (by have:=hp.len;simpa using this) p hp.thin hD.ws hD.wd
  have hlen:=hp.len
  clear hp hD hev g2 hcnt
  have x1:IntKind.i64.wrap 1=1:=wrap64 (by omega) (by omega)
  have x2:IntKind.i64.wrap 2=2:=wrap64 (by omega) (by omega)
  have x3:IntKind.i64.wrap 3=3:=wrap64 (by omega) (by omega)
  rw[Pn.cells_eq p]at *
  generalize p.evP db=t at *
  rcases len3 hlen with rfl|⟨a,rfl⟩|⟨a,b,rfl⟩|⟨a,b,c,rfl⟩ <;>
   simp[tblsL,intsL,Tbl.cells]at hd e1 e2 e5 c1 c2 hle <;>
   simp[bytesI_length,hl,hd,e1,e2,e3]
  ·rw[execA_loop]
   simp[e5,c1,c2,hle]
  ·rw[execA_loop]
   simp[x1,x2,x3]
   rw[execA_loop]
   simp[e5,c1,c2,hle]
  ·iterate 2 (rw[execA_loop];simp[x1,x2,x3])
   rw[execA_loop]
   simp[e5,c1,c2,hle]
  ·iterate 3 (rw[execA_loop];simp[x1,x2,x3])
   rw[execA_loop]
   simp[e5,c1,c2,hle]
end Go.Proofs.YtiailccmofdhfaaGreat.P
namespace Go.Av
def tIn (l:List Int) (k t:Int):List Int:=if k=1 then insN l t else l
mutual
def addT (l:List Int):Pn→List Int
 | .mk k t _ _ ks=>addTL (tIn l k t) ks
def addTL:List Int→List Pn→List Int
 | l,[]=>l
 | l,p::ps=>addTL (addT l p) ps
end
theorem addT_eq (l:List Int) (p:Pn):addT l p=addTL (tIn l p.kind p.table) p.kids:=by
 cases p;rw[addT];rfl
theorem addTL_snoc (a:Pn):∀ (ps:List Pn) (l:List Int),addTL l (ps++[a])=addT (addTL l ps) a
 | [],l=>by simp[addTL]
 | p::ps,l=>by simp[addTL,addTL_snoc a ps]
theorem addT_mem:∀ (p:Pn) (l:List Int) (x:Int),x∈addT l p↔x∈l∨scP x p=true:=by
 intro p
 induction p using Pn.ind with
 | h k t es cs ks ih =>
  intro l x
  have key:∀ (xs:List Pn) (l:List Int),(∀ e∈xs,e∈ks)→(x∈addTL l xs↔x∈l∨scPL x xs=true):=by
   intro xs
   induction xs with
   | nil=>intro l _;simp[addTL,scPL]
   | cons a xs ihx =>
    intro l h1
    simp only[addTL,scPL]
    rw[ihx _ fun e he=>h1 e (by simp[he]),ih a (h1 a (by simp)) l x]
    simp[or_assoc]
  rw[addT_eq,scP_eq]
  simp only[Pn.kind,Pn.table,Pn.kids]
  rw[key ks _ fun e he=>he]
  unfold tIn
  by_cases h1:k=1
  ·simp only[h1,if_true,insN_mem,Pn.hit,Pn.kind,Pn.table]
   simp only[Bool.or_eq_true,Bool.and_eq_true,decide_eq_true_eq,beq_iff_eq]
   constructor
   ·rintro((h|rfl)|h)
    ·exact .inl h
    ·exact .inr (.inl (by simp))
    ·exact .inr (.inr h)
   ·rintro(h|h|h)
    ·exact .inl (.inl h)
    ·exact .inl (.inr (by first|exact h.2.symm|exact(of_decide_eq_true h.2).symm))
    ·exact .inr h
  ·simp[h1,Pn.hit,Pn.kind]
theorem addT_asc:∀ (p:Pn) (l:List Int),Asc l→Asc (addT l p):=by
 intro p
 induction p using Pn.ind with
 | h k t es cs ks ih =>
  intro l hl
  rw[addT_eq]
  have:∀ (xs:List Pn) (l:List Int),(∀ e∈xs,∀ l,Asc l→Asc (addT l e))→Asc l→Asc (addTL l xs):=by
   intro xs
   induction xs with
   | nil=>intro l _ h;simpa [addTL]using h
   | cons a xs ihx=>intro l h1 h2;exact ihx _ (fun e he=>h1 e (by simp[he])) (h1 a (by simp) l h2)
  refine this _ _ (fun e he=>ih e (by simpa [Pn.kids]using he)) ?_
  unfold tIn
  split
  ·exact insN_asc hl
  ·exact hl
theorem addT_len:∀ (p:Pn) (l:List Int),(addT l p).length≤l.length+p.size:=by
 intro p
 induction p using Pn.ind with
 | h k t es cs ks ih =>
  intro l
  have hi:∀ (l:List Int) (n:Int),(insN l n).length≤l.length+1:=by
   intro l n
   unfold insN
   split
   ·omega
   ·simp only[List.length_append,List.length_take,List.length_cons,List.length_drop];omega
  have key:∀ (xs:List Pn) (l:List Int),(∀ e∈xs,e∈ks)→(addTL l xs).length≤l.length+Pn.sizeL xs:=by
   intro xs
   induction xs with
   | nil=>intro l _;simp[addTL]
   | cons a xs ihx =>
    intro l h1
    have h2:=ihx (addT l a) fun e he=>h1 e (by simp[he])
    have h3:=ih a (h1 a (by simp)) l
    simp only[addTL,Pn.sizeL];omega
  rw[addT_eq]
  have h1:=key ks (tIn l k t) fun e he=>he
  have h2:(tIn l k t).length≤l.length+1:=by
   unfold tIn
   split
   ·exact hi l t
   ·omega
  simp only[Pn.kind,Pn.table,Pn.kids,Pn.size]at *
  omega
theorem asc_uniq:∀ {l m:List Int},Asc l→Asc m→(∀ x,x∈l↔x∈m)→l=m
 | [],[],_,_,_=>rfl
 | [],b::m,_,_,h=>by have:=(h b).2 (by simp);simp at this
 | a::l,[],_,_,h=>by have:=(h a).1 (by simp);simp at this
 | a::l,b::m,hl,hm,h=>by
  have hl':=List.pairwise_cons.1 hl
  have hm':=List.pairwise_cons.1 hm
  have hab:a=b:=by
   have h1:=(h a).1 (by simp)
   have h2:=(h b).2 (by simp)
   rcases List.mem_cons.1 h1 with e|h1
   ·exact e
   ·rcases List.mem_cons.1 h2 with e|h2
    ·exact e.symm
    ·have:=hm'.1 a h1;have:=hl'.1 b h2;omega
  subst hab
  rw[asc_uniq hl'.2 hm'.2 fun x=>?_]
  have:=h x
  constructor
  ·intro hx
   rcases List.mem_cons.1 (this.1 (by simp[hx]))with rfl|hx'
   ·exact absurd (hl'.1 x hx) (by omega)
   ·exact hx'
  ·intro hx
   rcases List.mem_cons.1 (this.2 (by simp[hx]))with rfl|hx'
   ·exact absurd (hm'.1 x hx) (by omega)
   ·exact hx'
theorem tabsN_asc (p:Pn):∀ n:Nat,Asc (tabsN p n)
 | 0=>by simp[tabsN,Asc]
 | n+1=>by
  have ih:=tabsN_asc p n
  unfold tabsN
  split
  ·refine List.pairwise_append.2 ⟨ih,by simp,fun x hx y hy=>?_⟩
   simp at hy
   have:=(tabsN_mem.1 hx).2.1
   omega
  ·rw[List.append_nil];exact ih
theorem scP_rng {ws:List Int} {x:Int}:∀ (p:Pn) (lv:Nat),p.wd ws lv≠0→scP x p=true→0≤x∧x<ws.length:=by
 intro p
 induction p using Pn.ind with
 | h k t es cs ks ih =>
  intro lv h hs
  have hsh:=wd_shape h
  generalize hp:Pn.mk k t es cs ks=p at hsh h hs
  have hk:ks=p.kids:=by rw[← hp];rfl
  subst hk
  have hkid:∀ a∈p.kids,scP x a=true→∀ m,a.wd ws m≠0→0≤x∧x<ws.length:=fun a ha h1 m h2=>ih a ha m h2 h1
  rw[scP_eq]at hs
  cases hsh with
  | scan t W h0 h1 hW =>
   have hi:=(List.getElem?_eq_some_iff.1 h1).1
   simp[Pn.hit,Pn.scan,Pn.kind,Pn.table,Pn.kids,scPL]at hs
   have hx:t=x:=of_decide_eq_true hs
   omega
  | filt m e a h1 ha he =>
   simp[Pn.hit,filt,Pn.kind,Pn.kids,scPL]at hs
   exact hkid a (by simp[filt]) hs m ha
  | proj m es a h1 ha hl he =>
   simp[Pn.hit,proj,Pn.kind,Pn.kids,scPL]at hs
   exact hkid a (by simp[proj]) hs m ha
  | pair m k e a b h1 hk ha hb hl he =>
   have hk1:¬ k=1:=by omega
   simp[Pn.hit,pairP,Pn.kind,Pn.kids,scPL,hk1]at hs
   rcases hs with hs|hs
   ·exact hkid a (by simp[pairP]) hs m ha
   ·exact hkid b (by simp[pairP]) hs m hb
  | union m a b h1 ha hb =>
   simp[Pn.hit,unionP,Pn.kind,Pn.kids,scPL]at hs
   rcases hs with hs|hs
   ·exact hkid a (by simp[unionP]) hs m ha
   ·exact hkid b (by simp[unionP]) hs m (by rw[hb];exact ha)
  | dist m a h1 ha =>
   simp[Pn.hit,Pn.kind,Pn.kids,scPL]at hs
   exact hkid a (by simp) hs m ha
  | group m cs a h1 ha hc ho =>
   simp[Pn.hit,Pn.kind,Pn.kids,scPL]at hs
   exact hkid a (by simp) hs m ha
theorem addT_tabsN {ws:List Int} {p:Pn} (h:p.wd ws 8≠0):addT [] p=tabsN p ws.length:=by
 refine asc_uniq (addT_asc p [] (by simp[Asc])) (tabsN_asc p _) fun x=>?_
 rw[addT_mem,tabsN_mem]
 constructor
 ·rintro(h1|h1)
  ·simp at h1
  ·obtain⟨h2,h3⟩:=scP_rng p 8 h h1
   exact⟨h2,h3,h1⟩
 ·rintro⟨_,_,h1⟩;exact .inr h1
end Go.Av
namespace Go.Proofs.YtiailccmofdhfaaGreat.P
open Go Go.Av
set_option maxRecDepth 4000
set_option maxHeartbeats 4000000
theorem scan_part {p:Pn} {b:Bool} {t:Int}:callA C0 127 [.i (.iref p.cells), .own 0 0, .own 1 0] [some (.box [.bool b]),some (.box [.int t])]=some (.tup [],[some (.box [.bool (b || p.hit t)]),some (.box [.int t])]):=by
 rw[callA_eq rfl Tryz.func127 rfl rfl,Pn.cells_eq]
 unfold Pn.hit
 cases b
 ·by_cases h1:p.kind=1
  ·by_cases h2:p.table=t
   ·simp[h1,h2]
   ·simp[h1,h2]
  ·simp[h1]
 ·simp
def SPX (p:Pn) (b:Bool) (t:Int) (i:Nat):AS :=
 { env:=[(0, .i (.iref [.int p.kind, .int p.table, .isl (Ex.cellsL p.exprs), .isl (intsL p.cols), .isl (Pn.cellsL p.kids)])),(1, .fn (.func 127) [.own 0 0, .own 1 0]),(4,jk i (.int (i-1))),(12, .int p.kids.length),(13, .int i),(14,jk i (.bool true))],
   st:=[some (.box [.bool ((b || p.hit t) || scPL t (p.kids.take i))]),some (.box [.int t])] }
theorem eachScan_eq:∀ (p:Pn),p.thin→∀ (b:Bool) (t:Int),callA C0 126 [.i (.iref p.cells), .fn (.func 127) [.own 0 0, .own 1 0]] [some (.box [.bool b]),some (.box [.int t])]=some (.tup [],[some (.box [.bool (b || scP t p)]),some (.box [.int t])]):=by
 intro p
 induction p using Pn.ind with
 | h k tb es cs ks ih =>
  intro ht b t
  generalize hp:Pn.mk k tb es cs ks=p at *
  have hks:ks=p.kids:=by rw[← hp];rfl
  subst hks
  obtain⟨t1,t2,t3,t4,t5⟩:=(Pn.thin_iff _).1 ht
  have hone:=scan_part (p:=p) (b:=b) (t:=t)
  rw[callA_eq rfl Tryz.func126 rfl rfl,scP_eq]
  rw[Pn.cells_eq]at hone ⊢
  simp[hone]
  rw[loop_to (SPX p b t) p.kids.length (by simp[SPX,scPL])]
  ·rw[execA_loop]
   simp[SPX,Bool.or_assoc]
  ·intro i hi
   have h3:=List.getElem?_eq_getElem hi
   have hm:=List.mem_of_getElem? h3
   have r2:=Pn.cellsL_nth h3
   have htk:=take_snoc h3
   generalize p.kids[i]=a at h3 hm r2 htk
   have hk:=ih a hm (t5 a hm) ((b || p.hit t) || scPL t (p.kids.take i)) t
   have w2:IntKind.i64.wrap ((i:Int)+1)=i+1:=wrap64 (by omega) (by omega)
   rw[Pn.cells_eq a]at r2 hk
   by_cases h0:i=0
   ·subst h0;simp[scPL]at hk;simp[SPX,hi,r2,hk,wrap_1,htk,scPL_snoc,scPL,Bool.or_assoc]
   ·simp only[Bool.or_assoc]at hk;simp[SPX,jk_pos h0,hi,r2,hk,w2,htk,scPL_snoc,Bool.or_assoc]
theorem scans_eq (p:Pn) (hp:p.thin) (t:Int):callA C0 75 [.i (.iref p.cells), .int t] []=some (.bool (scP t p),[]):=by
 have h:=eachScan_eq p hp false t
 rw[callA_eq rfl Tryz.func75 rfl rfl]
 rw[Pn.cells_eq]at h ⊢
 simp at h
 simp[h]
def TBX (p:Pn) (ws:List Int) (i:Nat):AS :=
 { env:=[(0, .i (.agg [.int p.kind, .int p.table, .isl (Ex.cellsL p.exprs), .isl (intsL p.cols), .isl (Pn.cellsL p.kids)])),(1, .i (.isl (intsL ws))),(2, .own 0 0),(4, .nils),(5,gro 1 1 (tabsN p i).length),(6,jk i (.int (i-1))),(10, .bool false),(12, .int ws.length),(13, .int i),(14,jk i (.bool true)),(17,jk i (.bool (scP ((i:Int)-1) p)))],
   st:=(if i=0 then some (.box (impI p.cells))else some (.fbox p.cells))::groB 1 (intsL (tabsN p i)) (tabsN p i).length }
theorem tables_eq (p:Pn) (hp:p.thin) (ws:List Int) (hl:ws.length<1000) (hw:p.width ws≠0):callA C0 46 [.i (.agg p.cells), .i (.isl (intsL ws))] []=some (.i (.isl (intsL (tabsN p ws.length))),[]):=by
 have e1:=planWidth_eq p ws
 rw[callA_eq rfl Tryz.func46 rfl rfl]
 rw[Pn.cells_eq]at *
 simp[e1,hw]
 rw[loop_to (TBX p ws) ws.length (by simp[TBX,tabsN,Pn.cells_eq,hw])]
 ·rw[execA_loop]
  by_cases h0:ws.length=0
  ·simp[TBX,h0,tabsN,intsL]
  ·by_cases hm:(tabsN p ws.length).length=0
   ·have:=List.length_eq_zero_iff.1 hm
    simp[TBX,this,intsL,h0]
   ·simp[TBX,h0,gro_pos hm,groB_pos hm]
 ·intro i hi
  have hs:=scans_eq p hp i
  have w2:IntKind.i64.wrap ((i:Int)+1)=i+1:=wrap64 (by omega) (by omega)
  have hlen:=tabsN_len (p:=p) (n:=i)
  rw[Pn.cells_eq]at hs
  cases hsc:scP (i:Int) p with
  | false =>
   rw[hsc]at hs
   have ht:tabsN p (i+1)=tabsN p i:=by simp[tabsN,hsc]
   by_cases hm:(tabsN p i).length=0
   ·by_cases h0:i=0
    ·subst h0;simp at hs hsc;simp[TBX,hi,hs,ht,wrap_1,hsc,Pn.cells_eq,tabsN]
    ·have:=List.length_eq_zero_iff.1 hm
     simp[TBX,hi,hs,ht,w2,hsc,Pn.cells_eq,jk_pos h0,this,h0]
   ·have h0:i≠0:=fun e=>by subst e;simp[tabsN]at hm
    simp[TBX,hi,hs,ht,w2,hsc,Pn.cells_eq,jk_pos h0,h0,gro_pos hm,groB_pos hm]
  | true =>
   rw[hsc]at hs
   have ht:tabsN p (i+1)=tabsN p i++[(i:Int)]:=by simp[tabsN,hsc]
   by_cases hm:(tabsN p i).length=0
   ·have hz:=List.length_eq_zero_iff.1 hm
    by_cases h0:i=0
    ·subst h0;simp at hs hsc;simp[TBX,hi,hs,ht,wrap_1,hsc,Pn.cells_eq,tabsN,intsL]
    ·simp[TBX,hi,hs,ht,w2,hsc,Pn.cells_eq,jk_pos h0,hz,h0,intsL]
   ·have h0:i≠0:=fun e=>by subst e;simp[tabsN]at hm
    have hl1:((tabsN p i).length+1)*8≤140737488355328:=by omega
    simp[TBX,hi,hs,ht,w2,hsc,Pn.cells_eq,jk_pos h0,h0,gro_pos hm,groB_pos hm,intsL_snoc,hl1]
set_option maxHeartbeats 2000000
theorem mod_nat {a:Nat} (ha:a<64):a % 2 ^ IntKind.i64.bits=a:=by
 show a % 18446744073709551616=a
 exact Nat.mod_eq_of_lt (by omega)
theorem mod_int {a:Nat} (ha:a<64):(a:Int) % 2 ^ IntKind.i64.bits=a:=by
 show(a:Int) % 18446744073709551616=a
 omega
theorem or_small {a b:Nat} (ha:a<64) (hb:b<64):IntKind.i64.wrap ((a ||| b:Nat):Int)=((a ||| b:Nat):Int):=by
 have h3:a ||| b<2 ^ 6:=Nat.or_lt_two_pow (by omega) (by omega)
 exact wrap64 (by omega) (by omega)
theorem wrap_nat {a:Nat} (ha:a<64):IntKind.i64.wrap (a:Int)=a:=wrap64 (by omega) (by omega)
def KBX (e:Ex) (i:Nat):AS :=
 { env:=[(0, .i (.iref [.int e.kind, .int e.col, .bool e.val.null, .int e.val.n, .isl (Ex.cellsL e.kids)])),(2, .int 0),(3, .int (Ex.bitsL (e.kids.take i):Nat)),(4,jk i (.int (i-1))),(9, .bool false),(19, .int e.kids.length),(20, .int i),(21,jk i (.bool true))],st:=[] }
theorem columns_eq:∀ e:Ex,e.size<1000000000→e.allC (fun c=>decide (0≤c∧c<6))=true→callA C0 132 [.i (.iref e.cells)] []=some (.int (e.bits:Nat),[]):=by
 intro e
 induction e using Ex.ind with
 | h k c v ks ih =>
  intro hs ha
  generalize he:Ex.mk k c v ks=e at *
  have hk1:k=e.kind:=by rw[← he];rfl
  have hks:ks=e.kids:=by rw[← he];rfl
  subst hks
  have hsz:=Ex.size_eq e
  have hln:=Ex.sizeL_length e.kids
  rw[callA_eq rfl Tryz.func132 rfl rfl,Ex.cells_eq]
  rw[Ex.allC_eq]at ha
  by_cases h1:e.kind=1
  ·simp only[h1,if_true]at ha
   have ha:=of_decide_eq_true ha
   rw[Ex.bits_col h1]
   have hc:e.col=0∨e.col=1∨e.col=2∨e.col=3∨e.col=4∨e.col=5:=by omega
   rcases hc with hc|hc|hc|hc|hc|hc<;>(simp[h1,hc];decide)
  ·simp only[h1,if_false,List.all_eq_true]at ha
   rw[Ex.bits_not h1]
   simp[h1]
   rw[loop_to (KBX e) e.kids.length (by simp[KBX,Ex.bitsL,h1])]
   ·rw[execA_loop]
    simp[KBX]
   ·intro i hi
    have h3:=List.getElem?_eq_getElem hi
    have hm:=List.mem_of_getElem? h3
    have r2:=Ex.cellsL_nth h3
    have htk:=take_snoc h3
    generalize e.kids[i]=a at h3 hm r2 htk
    have hk:=ih a hm (by have:=Ex.sizeL_mem hm;omega) (ha a hm)
    have w2:IntKind.i64.wrap ((i:Int)+1)=i+1:=wrap64 (by omega) (by omega)
    have hb:a.bits<2 ^ 6:=Ex.bits_lt a (ha a hm)
    have hbl:Ex.bitsL (e.kids.take i)<2 ^ 6:=Ex.bitsL_lt fun x hx=>Ex.bits_lt x (ha x (List.mem_of_mem_take hx))
    have hor:=or_small (a:=Ex.bitsL (e.kids.take i)) (b:=a.bits) (by omega) (by omega)
    rw[Ex.cells_eq a]at r2 hk
    by_cases h0:i=0
    ·subst h0;simp[KBX,hi,r2,hk,wrap_1,htk,Ex.bitsL_snoc,Ex.bitsL,mod_int (show a.bits<64 by omega),wrap_nat (show a.bits<64 by omega)]
    ·simp[KBX,jk_pos h0,hi,r2,hk,w2,htk,Ex.bitsL_snoc,hor,mod_nat (show a.bits<64 by omega),mod_nat (show Ex.bitsL (e.kids.take i)<64 by omega)]
def ANX (l:List Int) (n:Int) (i:Nat):AS :=
 { env:=[(0, .i (.isl (intsL l))),(1, .int n),(4, .nils),(5, .int i),(6, .junk),(18,jk i (.bool true)),(32, .junk)],st:=[] }
theorem addNumber_eq (l:List Int) (n:Int) (hl:l.length<1000000):callA C0 128 [.i (.isl (intsL l)), .int n] []=some (.i (.isl (intsL (insN l n))),[]):=by
 rw[callA_eq rfl Tryz.func128 rfl rfl]
 have hlt:∀ i,i<l.findIdx (fun x=>!decide (x<n))→∃ x,l[i]?=some x∧x<n:=by
  intro i hi
  have hle:=List.findIdx_le_length (xs:=l) (p:=fun x=>!decide (x<n))
  have:=List.not_of_lt_findIdx hi
  exact⟨l[i]'(by omega),List.getElem?_eq_getElem (by omega),by simpa using this⟩
 have hat:∀ x,l[l.findIdx fun x=>!decide (x<n)]?=some x→¬ x<n:=by
  intro x hx
  obtain⟨h1,rfl⟩:=List.getElem?_eq_some_iff.1 hx
  have:=List.findIdx_getElem (w:=h1)
  simpa using this
 have hle:=List.findIdx_le_length (xs:=l) (p:=fun x=>!decide (x<n))
 unfold insN
 generalize l.findIdx (fun x=>!decide (x<n))=j at *
 simp
 rw[loop_to (ANX l n) j (by simp[ANX])]
 ·rw[execA_loop]
  cases hj:l[j]? with
  | none =>
   have hjl:j=l.length:=by have:=List.getElem?_eq_none_iff.1 hj;omega
   subst hjl
   have hb:((l.length:Int)+1)*8≤140737488355328:=by omega
   have hb1:(l.length+1)*8≤140737488355328:=by omega
   have hb2:l.length*8≤140737488355328:=by omega
   have ht:List.take (l.length+1) (intsL l++[[IV.lit (Value.int IntKind.i64 n)]])=intsL l++[[IV.lit (Value.int IntKind.i64 n)]]:=List.take_of_length_le (by simp)
   simp[ANX,hb1,hb2,intsL_append,intsL,ht]
  | some x =>
   have hx:=hat x hj
   have hjl:=(List.getElem?_eq_some_iff.1 hj).1
   have r2:=intsL_nth hj
   by_cases hxn:x=n
   ·subst hxn
    simp[ANX,hjl,r2]
   ·have hb1:(j+1)*8≤140737488355328:=by omega
    have hb2:j*8≤140737488355328:=by omega
    have hb3:(j+1+(l.length-j))*8≤140737488355328:=by omega
    have t1:(l.take j).length=j:=by simp;omega
    have t2:(intsL (l.take j)++[[IV.lit (Value.int IntKind.i64 n)]]).take (j+1)=intsL (l.take j)++[[IV.lit (Value.int IntKind.i64 n)]]:=List.take_of_length_le (by simp;omega)
    have t3:(l.drop j).take (l.length-j)=l.drop j:=List.take_of_length_le (by simp)
    have t4:(intsL (l.take j)++[[IV.lit (Value.int IntKind.i64 n)]]++intsL (l.drop j)).take (j+1+(l.length-j))=intsL (l.take j)++[[IV.lit (Value.int IntKind.i64 n)]]++intsL (l.drop j):=List.take_of_length_le (by simp;omega)
    have t5:(l.take j).take j=l.take j:=List.take_of_length_le (by omega)
    simp[ANX,hjl,hle,r2,hx,hxn,hb1,hb2,hb3,intsL_append,intsL]
    rw[t5,t2,t3,t4]
    simp
 ·intro i hi
  obtain⟨x,h3,hx⟩:=hlt i hi
  have r2:=intsL_nth h3
  have hil:=(List.getElem?_eq_some_iff.1 h3).1
  have w2:IntKind.i64.wrap ((i:Int)+1)=i+1:=wrap64 (by omega) (by omega)
  simp[ANX,hil,r2,hx,w2]
end Go.Proofs.YtiailccmofdhfaaGreat.P
namespace Go.Proofs.YtiailccmofdhfaaGreat.P
open Go Go.Av G
set_option maxRecDepth 4000
set_option maxHeartbeats 8000000
def ATX (p:Pn) (l:List Int) (i:Nat):AS :=
 { env:=[(0, .i (.isl (intsL (addTL l (p.kids.take i))))),(1, .i (.agg [.int p.kind, .int p.table, .isl (Ex.cellsL p.exprs), .isl (intsL p.cols), .isl (Pn.cellsL p.kids)])),(3, .own 0 0),(4, .nils),(5, .int i),(8, .bool (p.kind == 1)),(17,jk i (.bool true))],
   st:=[some (.box [.i (.int p.kind), .i (.int p.table), .i (.isl (Ex.cellsL p.exprs)), .i (.isl (intsL p.cols)), .i (.isl (Pn.cellsL p.kids))])] }
theorem addTables_eq:∀ p:Pn,∀ l:List Int,l.length+p.size<1000000→callA C0 77 [.i (.isl (intsL l)), .i (.agg p.cells)] []=some (.i (.isl (intsL (addT l p))),[]):=by
 intro p
 induction p using Pn.ind with
 | h k t es cs ks ih =>
  intro l hs
  generalize he:Pn.mk k t es cs ks=p at *
  have hks:ks=p.kids:=by rw[← he];rfl
  subst hks
  have hsz:=Pn.size_eq p
  have hadd:∀ (xs:List Pn) (l:List Int),(addTL l xs).length≤l.length+Pn.sizeL xs:=by
   intro xs
   induction xs with
   | nil=>intro l;simp[addTL]
   | cons a xs ihx=>intro l;have h1:=ihx (addT l a);have h2:=addT_len a l;simp only[addTL,Pn.sizeL];omega
  have hsum:∀ (xs ys:List Pn),Pn.sizeL (xs++ys)=Pn.sizeL xs+Pn.sizeL ys:=by
   intro xs
   induction xs with
   | nil=>intro ys;simp[Pn.sizeL]
   | cons a xs ihx=>intro ys;simp[Pn.sizeL,ihx,Nat.add_assoc]
  have hln:p.kids.length≤Pn.sizeL p.kids:=by
   generalize p.kids=xs
   induction xs with
   | nil=>simp
   | cons a xs ihx=>have:=Pn.size_eq a;simp only[List.length_cons,Pn.sizeL];omega
  have hrd:∀ l':List Int,l'.length≤l.length+1→∀ i,i<p.kids.length→∃ a,p.kids[i]?=some a∧p.kids.take (i+1)=p.kids.take i++[a]∧nthE (Pn.cellsL p.kids) i=some a.cells∧callA C0 77 [.i (.isl (intsL (addTL l' (p.kids.take i)))), .i (.agg a.cells)] []=some (.i (.isl (intsL (addT (addTL l' (p.kids.take i)) a))),[]):=by
   intro l' hl' i hi
   have h3:=List.getElem?_eq_getElem hi
   have hm:=List.mem_of_getElem? h3
   have htk:=take_snoc h3
   refine⟨p.kids[i],h3,htk,Pn.cellsL_nth h3,ih _ hm _ ?_⟩
   have h1:=hadd (p.kids.take i) l'
   have h2:=hsum (p.kids.take (i+1)) (p.kids.drop (i+1))
   rw[List.take_append_drop,htk,hsum]at h2
   simp only[Pn.sizeL]at h2
   omega
  rw[callA_eq rfl Tryz.func77 rfl rfl,Pn.cells_eq,addT_eq]
  by_cases h1:p.kind=1
  ·have hn:=addNumber_eq l p.table (by omega)
   have hil:(insN l p.table).length≤l.length+1:=by
    unfold insN
    split
    ·omega
    ·simp only[List.length_append,List.length_take,List.length_cons,List.length_drop];omega
   simp[h1,hn,tIn]
   rw[loop_to (ATX p (insN l p.table)) p.kids.length (by simp[ATX,addTL,h1])]
   ·rw[execA_loop]
    simp[ATX]
   ·intro i hi
    obtain⟨a,h3,htk,r2,hk⟩:=hrd _ hil i hi
    have w2:IntKind.i64.wrap ((i:Int)+1)=i+1:=wrap64 (by omega) (by omega)
    rw[Pn.cells_eq a]at r2 hk
    simp[ATX,hi,r2,hk,w2,htk,addTL_snoc]
  ·simp[h1,tIn]
   rw[loop_to (ATX p l) p.kids.length (by simp[ATX,addTL,h1])]
   ·rw[execA_loop]
    simp[ATX]
   ·intro i hi
    obtain⟨a,h3,htk,r2,hk⟩:=hrd l (by omega) i hi
    have w2:IntKind.i64.wrap ((i:Int)+1)=i+1:=wrap64 (by omega) (by omega)
    rw[Pn.cells_eq a]at r2 hk
    simp[ATX,hi,r2,hk,w2,htk,addTL_snoc]
theorem sTablesOf_eq {ws:List Int} (p:Pn) (hpt:p.thin) (hl:ws.length<1000000) (hw:okWs ws=true) (h:p.wd ws 8≠0):callA C0 49 [.i (.agg p.cells), .i (.isl (intsL ws))] []=some (.i (.isl (intsL (tabsN p ws.length))),[]):=by
 have c1:=widthOf_eq p (Pn.thin_lim p hpt) ws (by omega)
 have hwd:p.width ws≠0:=by unfold Pn.width;rw[if_pos hw];exact h
 have c2:=addTables_eq p [] (by have:=(Pn.wd_fit p 8 h).2;simp;omega)
 rw[addT_tabsN h]at c2
 rw[callA_eq rfl Tryz.func49 rfl rfl]
 rw[Pn.cells_eq p]at *
 simp[intsL]at c2
 simp[c1,c2,hwd]
def IsLX (l:List Int) (t:Int) (i:Nat):AS :=
 { env:=[(0, .i (.isl (intsL l))),(1, .int t),(4, .bool false),(5, .int i),(9,jk i (.bool true)),(17,jk i (.bool false))],st:=[] }
theorem isInL_eq (l:List Int) (t:Int) (hl:l.length<1000000000):callA C0 47 [.i (.isl (intsL l)), .int t] []=some (.bool (!l.all fun x=>!decide (x=t)),[]):=by
 rw[callA_eq rfl Tryz.func47 rfl rfl]
 obtain⟨j,h1,h2⟩:=upto_bad (fun x:Int=>!decide (x=t)) l
 have hj:j≤l.length:=by
  rcases h2 with ⟨rfl,-⟩|⟨k,hk,-⟩
  ·exact Nat.le_refl _
  ·exact Nat.le_of_lt (List.getElem?_eq_some_iff.1 hk).1
 simp
 rw[loop_to (IsLX l t) j (by simp[IsLX])]
 ·rcases h2 with ⟨rfl,ha⟩|⟨k,hk,-,hb,ha⟩
  ·rw[execA_loop,ha]
   simp[IsLX]
  ·rw[execA_loop,ha]
   have r2:=intsL_nth hk
   have hlt:=(List.getElem?_eq_some_iff.1 hk).1
   simp at hb
   simp[IsLX,hlt,r2,hb]
 ·intro i hi
  obtain⟨k,hk,-,hb⟩:=h1 i hi
  have r2:=intsL_nth hk
  have hlt:=(List.getElem?_eq_some_iff.1 hk).1
  have w2:IntKind.i64.wrap ((i:Int)+1)=i+1:=wrap64 (by omega) (by omega)
  simp at hb
  simp[IsLX,hlt,r2,hb,w2]
@[simp] theorem ce_TablesOf (a:List AV) (st:StL):callA CE 46 a st=callA C0 46 a st:=by
  rw[callA_prim (p:=callA CR 46) rfl,callA_prim (p:=callA C0 46) rfl]
@[simp] theorem ce_sTablesOf (a:List AV) (st:StL):callA CE 49 a st=callA C0 49 a st:=by
  rw[callA_prim (p:=callA CR 49) rfl,callA_prim (p:=callA C0 49) rfl]
@[simp] theorem ce_isIn (a:List AV) (st:StL):callA CE 47 a st=callA C0 47 a st:=by
  rw[callA_prim (p:=callA CR 47) rfl,callA_prim (p:=callA C0 47) rfl]
@[simp] theorem ce_equalInts (a:List AV) (st:StL):callA CE 48 a st=callA C0 48 a st:=by
  rw[callA_prim (p:=callA CR 48) rfl,callA_prim (p:=callA C0 48) rfl]
theorem isIn_tabN (p:Pn) {n:Nat} (hn:n≤3) (i:Nat) (hi:i<n):callA C0 47 [.i (.isl (intsL (tabsN p n))), .int (i:Int)] []=some (.bool (scP i p),[]):=by
 have hlen:=tabsN_len (p:=p) (n:=n)
 rw[isInL_eq _ _ (by omega)]
 congr 3
 have hm:=tabsN_mem (p:=p) (t:=(i:Int)) (n:=n)
 cases hs:scP (i:Int) p with
 | true =>
  have:(i:Int)∈tabsN p n:=hm.2 ⟨by omega,by omega,hs⟩
  simp
  exact this
 | false =>
  simp
  intro x hx e
  rw[e]at hx
  rw[(hm.1 hx).2.2]at hs
  cases hs
def zT (p:Pn) (i:Nat) (t:Tbl):Tbl:=if scP i p=true then t else⟨t.w,[]⟩
theorem zT_w (p:Pn) (i:Nat) (t:Tbl):(zT p i t).w=t.w:=by unfold zT;split<;>rfl
theorem zT_ok {t:Tbl} (h:t.ok=true) (p:Pn) (i:Nat):(zT p i t).ok=true:=by
 unfold zT
 split
 ·exact h
 ·exact(Tbl.ok_iff _).2 ⟨((Tbl.ok_iff _).1 h).1,by simp,by simp,List.Pairwise.nil⟩
theorem zT_rows {t:Tbl} (h:t.rows.length≤5) (p:Pn) (i:Nat):(zT p i t).rows.length≤5:=by
 unfold zT
 split
 ·exact h
 ·simp
theorem other_eval {p:Pn} {db:List Tbl} (hp:Drn p db) (hD:EvD p db):callA CE 27 [.i (.agg p.cells), .i (.isl (tblsL (db.mapIdx (zT p))))] []=some (.tup [.i (.agg [.int (p.evP db).w, .isl (rowsL (p.evP db).rows)]), .bool true],[]):=by
 have hw:(db.mapIdx (zT p)).map Tbl.w=db.map Tbl.w:=by
  apply List.ext_getElem?
  intro i
  simp only[List.getElem?_map,List.getElem?_mapIdx]
  cases db[i]?<;>simp[zT_w]
 have hmem:∀ t∈db.mapIdx (zT p),∃ i s,s∈db∧t=zT p i s:=by
  intro t ht
  obtain⟨i,hi⟩:=List.mem_iff_getElem?.1 ht
  rw[List.getElem?_mapIdx]at hi
  obtain⟨s,hs,rfl⟩:=Option.map_eq_some_iff.1 hi
  exact⟨i,s,List.mem_of_getElem? hs,rfl⟩
 have hok:∀ t∈db.mapIdx (zT p),t.ok=true:=fun t ht=>by obtain⟨i,s,hs,rfl⟩:=hmem t ht;exact zT_ok (hD.ok s hs) p i
 have hrw:∀ t∈db.mapIdx (zT p),t.rows.length≤5:=fun t ht=>by obtain⟨i,s,hs,rfl⟩:=hmem t ht;exact zT_rows (hp.rows s hs) p i
 have hD':EvD p (db.mapIdx (zT p)):=⟨hok,by rw[hw];exact hD.ws,by rw[hw];exact hD.wd⟩
 have hE:p.evP (db.mapIdx (zT p))=p.evP db:=ev_scanned p 8 hD.wd fun t ht=>by
  have hr:=scP_rng p 8 hD.wd ht
  rw[List.getElem?_mapIdx]
  cases h:db[t.toNat]? with
  | none=>rfl
  | some s =>
   have:scP ((t.toNat:Nat):Int) p=true:=by rw[show((t.toNat:Nat):Int)=t by omega];exact ht
   show some (zT p t.toNat s)=some s
   unfold zT
   rw[if_pos this]
 have:=EvalPlan_eq p (db.mapIdx (zT p)) (fun t ht=>Tbl.ok_small (hok t ht)) fun _=>fit_bd hrw hD' (by have:=hp.bd hD.wd;omega)
 rw[evOk_iff.2 hD',if_pos rfl,hE]at this
 exact this
theorem law_tablesOf (code:List UInt8):callA CE 19 [.i (.isl (bytesI code))] []=some (.bool true,[]):=by
 rw[callA_eq rfl Tryz.func19 rfl rfl]
 by_cases hl:(1048576:Int)<code.length
 ·simp[bytesI_length,hl]
 obtain⟨p,db,hd,hp⟩:=drawEval_eq code
 have e1:=EvalPlan_eq p db hp.small hp.fit
 have e2:=sEvalPlan_eq p hp.thin db (by have:=hp.len;omega) hp.small
 cases hev:evOk p db with
 | false =>
  have e3:=eq_zero
  simp only[hev,Bool.false_eq_true,if_false]at e1 e2
  rw[Pn.cells_eq p]at *
  simp[bytesI_length,hl,hd,e1,e2,e3]
 | true =>
  have hD:=evOk_iff.1 hev
  obtain⟨g1,g2⟩:=hD.good
  have e3:=eq_same g1
  have hb:=hp.bd hD.wd
  simp only[hev,if_true]at e1 e2
  have e5:=lwidthsOf_eq db (by have:=hp.len;omega)
  have hlen:=hp.len
  have hwl:p.width (db.map Tbl.w)≠0:=by rw[hD.width];exact hD.wd
  have c1:=tables_eq p hp.thin (db.map Tbl.w) (by simp;omega) hwl
  have c2:=sTablesOf_eq p hp.thin (by simp;omega) hD.ws hD.wd
  have c3:=other_eval hp hD
  have hln:=tabsN_len (p:=p) (n:=db.length)
  have c4:=equalInts_eq (l:=tabsN p db.length) (m:=tabsN p db.length) (by omega)
  have c5:=isIn_tabN p hlen
  rw[List.length_map]at c1 c2
  clear hp hD hev g2 hwl
  have x1:IntKind.i64.wrap 1=1:=wrap64 (by omega) (by omega)
  have x2:IntKind.i64.wrap 2=2:=wrap64 (by omega) (by omega)
  have x3:IntKind.i64.wrap 3=3:=wrap64 (by omega) (by omega)
  rw[Pn.cells_eq p]at *
  generalize p.evP db=t at *
  generalize tabsN p db.length=L at *
  rcases len3 hlen with rfl|⟨a,rfl⟩|⟨a,b,rfl⟩|⟨a,b,c,rfl⟩
  ·simp[tblsL,intsL,Tbl.cells]at hd e1 e2 e5 c1 c2 c3 c4
   simp[bytesI_length,hl,hd,e1,e2,e3,e5,c1]
   rw[execA_loop]
   simp[e3,e5,c1,c2,c3,c4]
  ·have d0:=c5 0 (by simp)
   clear c5
   simp[zT]at c3 d0
   cases s0:scP 0 p<;>simp[s0]at c3 d0 <;>
    (simp[tblsL,intsL,Tbl.cells,rowsL_nil]at hd e1 e2 e5 c1 c2 c3 c4
     simp[bytesI_length,hl,hd,e1,e2,e3,e5,c1]
     iterate 1 (rw[execA_loop];simp[d0,x1,x2,x3])
     rw[execA_loop]
     simp[e3,e5,c1,c2,c3,c4,rowsL_nil])
  ·have d0:=c5 0 (by simp)
   have d1:=c5 1 (by simp)
   clear c5
   simp[zT]at c3 d0 d1
   cases s0:scP 0 p<;>cases s1:scP 1 p<;>simp[s0,s1]at c3 d0 d1 <;>
    (simp[tblsL,intsL,Tbl.cells,rowsL_nil]at hd e1 e2 e5 c1 c2 c3 c4
     simp[bytesI_length,hl,hd,e1,e2,e3,e5,c1]
     iterate 2 (rw[execA_loop];simp[d0,d1,x1,x2,x3])
     rw[execA_loop]
     simp[e3,e5,c1,c2,c3,c4,rowsL_nil])
  ·have d0:=c5 0 (by simp)
   have d1:=c5 1 (by simp)
   have d2:=c5 2 (by simp)
   clear c5
   simp[zT]at c3 d0 d1 d2
   cases s0:scP 0 p<;>cases s1:scP 1 p<;>cases s2:scP 2 p<;>simp[s0,s1,s2]at c3 d0 d1 d2 <;>
    (simp[tblsL,intsL,Tbl.cells,rowsL_nil]at hd e1 e2 e5 c1 c2 c3 c4
     simp[bytesI_length,hl,hd,e1,e2,e3,e5,c1]
     iterate 3 (rw[execA_loop];simp[d0,d1,d2,x1,x2,x3])
     rw[execA_loop]
     simp[e3,e5,c1,c2,c3,c4,rowsL_nil])
def qC (c:Nat) (e:Ex):Bool:=decide (e.kind=1) && decide (e.col=(c:Int))
def KAX (es:List Ex) (w c:Nat):AS :=
 { env:=[(0, .i (.isl (Ex.cellsL es))),(1, .int w),(4, .bool false),(5, .int c),(6,jk c (.bool true)),(7,jk c (.int es.length)),(10,jk c (.bool true)),(16,jk c (.bool false)),(38,jk c (.bool false))],st:=[] }
def KIX (es:List Ex) (w c i:Nat):AS :=
 { env:=[(0, .i (.isl (Ex.cellsL es))),(1, .int w),(4, .bool false),(5, .int c),(6, .bool ((es.take i).any (qC c))),(7, .int i),(10, .bool true),(16,if i=0 then jk c (.bool false)else .bool true),(38,jk c (.bool false))],st:=[] }
theorem keepsAll_eq (es:List Ex) (w:Nat) (hw:w≤6) (hl:es.length≤6):callA C0 133 [.i (.isl (Ex.cellsL es)), .int w] []=some (.bool (keepsB es w),[]):=by
 rw[callA_eq rfl Tryz.func133 rfl rfl]
 have hkb:keepsB es w=(List.range w).all fun c=>es.any (qC c):=rfl
 obtain⟨j,h1,h2⟩:=upto_bad (fun c=>es.any (qC c)) (List.range w)
 rw[hkb]
 have rng:∀ {i k:Nat},(List.range w)[i]?=some k→k=i∧i<w:=by
  intro i k h
  obtain⟨h3,h4⟩:=List.getElem?_eq_some_iff.1 h
  simp at h3 h4
  exact⟨h4.symm,h3⟩
 have e1:es.take es.length=es:=List.take_of_length_le (by simp)
 have inner:∀ c i,i<es.length→∃ e,es[i]?=some e∧nthE (Ex.cellsL es) i=some e.cells∧(es.take (i+1)).any (qC c)=((es.take i).any (qC c) || qC c e):=by
  intro c i hi
  have h3:=List.getElem?_eq_getElem hi
  refine⟨es[i],h3,Ex.cellsL_nth h3,?_⟩
  rw[take_snoc h3,List.any_append]
  simp only[List.any_cons,List.any_nil,Bool.or_false]
 simp
 rw[loop_to (KAX es w) j (by simp[KAX])]
 ·rcases h2 with ⟨rfl,ha⟩|⟨k,hk,-,hb,ha⟩
  ·rw[execA_loop,ha]
   simp[KAX]
  ·obtain⟨rfl,hkw⟩:=rng hk
   rw[execA_loop,ha]
   simp[KAX,hkw]
   rw[loop_to (KIX es w k) es.length (by simp[KIX])]
   ·rw[execA_loop]
    simp[KIX,e1,hb]
   ·intro i hi
    obtain⟨e,h3,h4,h5⟩:=inner k i hi
    have w2:IntKind.i64.wrap ((i:Int)+1)=i+1:=wrap64 (by omega) (by omega)
    rw[Ex.cells_eq e]at h4
    by_cases h0:i=0
    ·subst h0
     by_cases k1:e.kind=1<;>by_cases k2:e.col=(k:Int)<;>simp[KIX,hi,h4,h5,qC,k1,k2,wrap_1]
    ·cases hx:(es.take i).any (qC k)<;>by_cases k1:e.kind=1<;>by_cases k2:e.col=(k:Int)<;>simp[KIX,hi,h4,h5,qC,k1,k2,w2,h0,hx]
 ·intro c hc
  obtain⟨k,hk,-,hb⟩:=h1 c hc
  obtain⟨rfl,hkw⟩:=rng hk
  have w3:IntKind.i64.wrap ((k:Int)+1)=k+1:=wrap64 (by omega) (by omega)
  simp[KAX,hkw]
  rw[loop_to (KIX es w k) es.length (by simp[KIX])]
  ·rw[execA_loop]
   by_cases h0:es.length=0
   ·simp[KIX,e1,hb,w3]
   ·simp[KIX,e1,hb,w3,h0]
  ·intro i hi
   obtain⟨e,h3,h4,h5⟩:=inner k i hi
   have w2:IntKind.i64.wrap ((i:Int)+1)=i+1:=wrap64 (by omega) (by omega)
   rw[Ex.cells_eq e]at h4
   by_cases h0:i=0
   ·subst h0
    by_cases k1:e.kind=1<;>by_cases k2:e.col=(k:Int)<;>simp[KIX,hi,h4,h5,qC,k1,k2,wrap_1]
   ·cases hx:(es.take i).any (qC k)<;>by_cases k1:e.kind=1<;>by_cases k2:e.col=(k:Int)<;>simp[KIX,hi,h4,h5,qC,k1,k2,w2,h0,hx]
end Go.Proofs.YtiailccmofdhfaaGreat.P
namespace Go.Proofs.YtiailccmofdhfaaGreat.P
open Go Go.Av
set_option maxRecDepth 4000
def bsL (l:List Bool):List (List IV):=l.map fun b=>[.bool b]
@[simp] theorem bsL_length (l:List Bool):(bsL l).length=l.length:=by simp[bsL]
theorem bsL_nth:∀ {l:List Bool} {i:Nat} {b:Bool},l[i]?=some b→nthE (bsL l) i=some [.bool b]
 | [],_,_,h=>by simp at h
 | a::l,0,b,h=>by simp at h;subst h;rfl
 | a::l,i+1,b,h=>by simp at h;exact bsL_nth (l:=l) h
end Go.Proofs.YtiailccmofdhfaaGreat.P
namespace Go.Proofs.YtiailccmofdhfaaGreat.P
open Go Go.Av G
set_option maxRecDepth 4000
set_option maxHeartbeats 8000000
theorem sdup_eq {ws:List Int} {sets:List Bool} (hws:∀ w∈ws,0≤w∧w≤6) (hwl:ws.length<1000000000) (hl:sets.length=ws.length):∀ (p:Pn) (lv:Nat),lv≤8→p.wd ws lv≠0→p.thin→callA C0 87 [.i (.agg p.cells), .i (.isl (intsL ws)), .i (.isl (bsL sets))] []=some (.bool (p.dupF ws sets),[]):=by
 intro p
 induction p using Pn.ind with
 | h k t es cs ks ih =>
  intro lv hlv h ht
  have hsh:=wd_shape h
  generalize hp:Pn.mk k t es cs ks=p at hsh h ht
  have hk:ks=p.kids:=by rw[← hp];rfl
  subst hk
  have htk:∀ a∈p.kids,a.thin:=((Pn.thin_iff _).1 ht).2.2.2.2
  rw[Pn.dupF_eq]
  have w22:IntKind.i64.wrap 2=2:=wrap64 (by omega) (by omega)
  cases hsh with
  | scan t W h0 h1 hW =>
   have hi:=(List.getElem?_eq_some_iff.1 h1).1
   obtain⟨x,hx⟩:∃ x,sets[t.toNat]?=some x:=⟨_,List.getElem?_eq_getElem (by omega)⟩
   have q:=bsL_nth hx
   obtain⟨_,hg⟩:=List.getElem?_eq_some_iff.1 hx
   have hi':t<(sets.length:Int):=by omega
   rw[callA_eq rfl Tryz.func87 rfl rfl]
   simp[Pn.scan,Pn.cells_mk,h0,hi',q,hx,hg]
  | filt m e a h1 ha he =>
   have i1:=ih a (by simp[filt]) m (by omega) ha (htk a (by simp[filt]))
   rw[callA_eq rfl Tryz.func87 rfl rfl]
   rw[Pn.cells_eq a]at i1
   cases hd:a.dupF ws sets<;>rw[hd]at i1 <;>
    (simp[filt,Pn.cells_mk,Pn.cellsL,Pn.cells_eq a,i1,hd]
     rw[execA_loop]
     simp[i1,wrap_1]
     try (rw[execA_loop];simp))
  | proj m es a h1 ha hl6 he =>
   have i1:=ih a (by simp[proj]) m (by omega) ha (htk a (by simp[proj]))
   have c1:=splanWidth_eq hws hwl a (Pn.thin_lim a (htk a (by simp[proj]))) 8 (by omega)
   have hr:=Pn.wd_range hws a 8
   have c2:=keepsAll_eq es (a.wd ws 8).toNat (by omega) (by have:=(okWidth_iff _).1 hl6;omega)
   rw[show(((a.wd ws 8).toNat:Nat):Int)=a.wd ws 8 by omega]at c2
   rw[callA_eq rfl Tryz.func87 rfl rfl]
   rw[Pn.cells_eq a]at i1 c1
   simp at c1
   cases hk:keepsB es (a.wd ws 8).toNat<;>rw[hk]at c2<;>cases hd:a.dupF ws sets<;>rw[hd]at i1 <;>
    simp[proj,Pn.cells_mk,Pn.cellsL,Pn.cells_eq a,i1,c1,c2,hd,hk]
  | pair m k e a b h1 hk ha hb hl6 he =>
   have i1:=ih a (by simp[pairP]) m (by omega) ha (htk a (by simp[pairP]))
   have i2:=ih b (by simp[pairP]) m (by omega) hb (htk b (by simp[pairP]))
   rw[callA_eq rfl Tryz.func87 rfl rfl]
   rw[Pn.cells_eq a]at i1
   rw[Pn.cells_eq b]at i2
   rcases hk with rfl|rfl<;>cases hd:a.dupF ws sets<;>rw[hd]at i1<;>cases hd2:b.dupF ws sets<;>rw[hd2]at i2 <;>
    (simp[pairP,Pn.cells_mk,Pn.cellsL,Pn.cells_eq a,Pn.cells_eq b,i1,i2,hd,hd2]
     rw[execA_loop]
     simp[i1,wrap_1]
     try (rw[execA_loop];simp[i2,w22])
     try (rw[execA_loop];simp))
  | union m a b h1 ha hb =>
   rw[callA_eq rfl Tryz.func87 rfl rfl]
   simp[unionP,Pn.cells_mk]
  | dist m a h1 ha =>
   rw[callA_eq rfl Tryz.func87 rfl rfl]
   simp[Pn.cells_mk]
  | group m cs a h1 ha hc6 ho =>
   rw[callA_eq rfl Tryz.func87 rfl rfl]
   simp[Pn.cells_mk]
end Go.Proofs.YtiailccmofdhfaaGreat.P
namespace Go.Av
def fnd1 (e:Ex):Nat:=if e.kind=1 then 2 ^ e.col.toNat else 0
def fnd:List Ex→Nat
 | []=>0
 | e::es=>fnd1 e ||| fnd es
theorem fnd_snoc (e:Ex):∀ l:List Ex,fnd (l++[e])=fnd l ||| fnd1 e
 | []=>by simp[fnd]
 | a::l=>by simp[fnd,fnd_snoc e l,Nat.or_assoc]
theorem fnd1_lt {e:Ex} {w:Nat} (h:e.kind=1→0≤e.col∧e.col<w):fnd1 e<2 ^ w:=by
 unfold fnd1
 split
 ·rename_i h1
  exact Nat.pow_lt_pow_right (by omega) (by have:=h h1;omega)
 ·exact Nat.two_pow_pos w
theorem fnd_lt {w:Nat}:∀ {es:List Ex},(∀ e∈es,e.kind=1→0≤e.col∧e.col<w)→fnd es<2 ^ w
 | [],_=>Nat.two_pow_pos w
 | e::es,h=>Nat.or_lt_two_pow (fnd1_lt (h e (by simp))) (fnd_lt fun x hx=>h x (by simp[hx]))
theorem fnd1_bit {e:Ex} (c:Nat) (h:e.kind=1→0≤e.col):(fnd1 e).testBit c=(decide (e.kind=1) && decide (e.col=(c:Int))):=by
 unfold fnd1
 by_cases h1:e.kind=1
 ·have:=h h1
  rw[if_pos h1,Nat.testBit_two_pow]
  simp only[h1,decide_true,Bool.true_and]
  exact decide_eq_decide.2 (by omega)
 ·rw[if_neg h1];simp[h1]
theorem fnd_bit (c:Nat):∀ {es:List Ex},(∀ e∈es,e.kind=1→0≤e.col)→(fnd es).testBit c=es.any fun e=>decide (e.kind=1) && decide (e.col=(c:Int))
 | [],_=>by simp[fnd]
 | e::es,h=>by
  rw[fnd,Nat.testBit_or,fnd1_bit c (h e (by simp)),fnd_bit c fun x hx=>h x (by simp[hx])]
  simp
theorem fnd_keeps {es:List Ex} {w:Nat} (h:∀ e∈es,e.kind=1→0≤e.col∧e.col<w):fnd es=2 ^ w-1↔keepsB es w=true:=by
 have h0:∀ e∈es,e.kind=1→0≤e.col:=fun e he h1=>(h e he h1).1
 unfold keepsB
 rw[List.all_eq_true]
 constructor
 ·intro e c hc
  have hc':c<w:=by simpa using hc
  rw[← fnd_bit c h0,e,Nat.testBit_two_pow_sub_one]
  exact decide_eq_true hc'
 ·intro hk
  apply Nat.eq_of_testBit_eq
  intro c
  rw[Nat.testBit_two_pow_sub_one]
  by_cases hc:c<w
  ·rw[fnd_bit c h0,hk c (by simpa using hc)];simp[hc]
  ·have:=fnd_lt h
   rw[Nat.testBit_lt_two_pow (Nat.lt_of_lt_of_le this (Nat.pow_le_pow_right (by omega) (by omega)))]
   simp[hc]
end Go.Av
namespace Go.Proofs.YtiailccmofdhfaaGreat.P
open Go Go.Av G
set_option maxRecDepth 4000
set_option maxHeartbeats 8000000
def DJX (ws:List Int) (sets:List Bool) (es:List Ex) (a:Pn) (i:Nat):AS :=
 { env:=[(0, .i (.iref [.int 3, .int 0, .isl (Ex.cellsL es), .isl (intsL []), .isl [[.int a.kind, .int a.table, .isl (Ex.cellsL a.exprs), .isl (intsL a.cols), .isl (Pn.cellsL a.kids)]]])),(1, .i (.isl (intsL ws))),(2, .i (.isl (bsL sets))),(6, .bool false),(7, .int 0),(8, .int (fnd (es.take i):Nat)),(9,jk i (.int (i-1))),(13, .i (.int 3)),(14, .bool false),(23, .bool false),(26, .bool false),(32, .int 1),(33, .int 1),(34, .bool false),(45, .bool false),(51, .bool false),(56, .int es.length),(57, .int i),(58,jk i (.bool true)),(68,jk i (.bool (((es[i-1]?).getD (.mk 0 0 Val.zero [])).kind == 1)))],st:=[] }
theorem dup_eq {ws:List Int} {sets:List Bool} (hws:∀ w∈ws,0≤w∧w≤6) (hok:okWs ws=true) (hl:sets.length=ws.length):∀ (p:Pn) (lv:Nat),lv≤8→p.wd ws lv≠0→callA C0 86 [.i (.iref p.cells), .i (.isl (intsL ws)), .i (.isl (bsL sets))] []=some (.bool (p.dupF ws sets),[]):=by
 intro p
 induction p using Pn.ind with
 | h k t es cs ks ih =>
  intro lv hlv h
  have hsh:=wd_shape h
  generalize hp:Pn.mk k t es cs ks=p at hsh h
  have hk:ks=p.kids:=by rw[← hp];rfl
  subst hk
  have w22:IntKind.i64.wrap 2=2:=wrap64 (by omega) (by omega)
  rw[Pn.dupF_eq]
  cases hsh with
  | scan t W h0 h1 hW =>
   have hi:=(List.getElem?_eq_some_iff.1 h1).1
   obtain⟨x,hx⟩:∃ x,sets[t.toNat]?=some x:=⟨_,List.getElem?_eq_getElem (by omega)⟩
   have q:=bsL_nth hx
   obtain⟨_,hg⟩:=List.getElem?_eq_some_iff.1 hx
   have hi':t<(sets.length:Int):=by omega
   rw[callA_eq rfl Tryz.func86 rfl rfl]
   simp[Pn.scan,Pn.cells_mk,h0,hi',q,hx,hg]
  | filt m e a h1 ha he =>
   have i1:=ih a (by simp[filt]) m (by omega) ha
   rw[callA_eq rfl Tryz.func86 rfl rfl]
   rw[Pn.cells_eq a]at i1
   cases hd:a.dupF ws sets<;>rw[hd]at i1 <;>
    (simp[filt,Pn.cells_mk,Pn.cellsL,Pn.cells_eq a,i1,hd]
     rw[execA_loop]
     simp[i1,wrap_1]
     try (rw[execA_loop];simp))
  | proj m es a h1 ha hl6 he =>
   have i1:=ih a (by simp[proj]) m (by omega) ha
   have c1:=planWidth_eq a ws
   rw[callA_eq rfl Tryz.func86 rfl rfl]
   rw[Pn.cells_eq a]at i1 c1
   cases hd:a.dupF ws sets with
   | false =>
    rw[hd]at i1
    simp[proj,Pn.cells_mk,Pn.cellsL,Pn.cells_eq a,i1,hd]
    rw[execA_loop]
    simp[i1,wrap_1]
   | true =>
    rw[hd]at i1
    simp[proj,Pn.cells_mk,Pn.cellsL,Pn.cells_eq a,i1,hd]
    rw[execA_loop]
    simp[i1,wrap_1]
    have hr:=Pn.wd_range hws a 8
    have ha8:a.wd ws 8=a.wd ws m:=Pn.wd_more a m 8 ha (by omega)
    have hwa:a.width ws=a.wd ws 8:=by unfold Pn.width;rw[if_pos hok]
    have h16:1≤a.wd ws 8∧a.wd ws 8≤6:=by omega
    have hes:∀ e∈es,e.kind=1→0≤e.col∧e.col<((a.wd ws 8).toNat:Nat):=by
     intro e hm h1
     have:=(Ex.wf_col (Ex.ok_wf (he e hm)).1 h1)
     omega
    have hkp:=fnd_keeps hes
    have hf6:∀ e∈es,e.kind=1→0≤e.col∧e.col<((6:Nat):Int):=fun e hm h1=>by have:=hes e hm h1;omega
    have e9:es.take es.length=es:=List.take_of_length_le (by simp)
    rw[execA_loop]
    simp
    rw[loop_to (DJX ws sets es a) es.length (by simp[DJX,fnd])]
    ·rw[execA_loop]
     rw[hwa]at c1
     have hcs:a.wd ws 8=1∨a.wd ws 8=2∨a.wd ws 8=3∨a.wd ws 8=4∨a.wd ws 8=5∨a.wd ws 8=6:=by omega
     generalize hF:fnd es=F at *
     generalize hK:a.wd ws 8=K at *
     have kk:∀ n:Nat,K=n→(decide ((F:Int)=2 ^ n-1))=keepsB es n:=by
      rintro n rfl
      rw[Int.toNat_natCast]at hkp
      have h2:=Nat.two_pow_pos n
      rw[Bool.eq_iff_iff,← hkp,decide_eq_true_eq]
      have h3:((2:Int) ^ n)=((2 ^ n:Nat):Int):=by simp
      rw[h3]
      omega
     have sh1:IntKind.i64.wrap (IntKind.i64.wrap (2 ^ min 1 IntKind.i64.bits)-1)=1:=by decide
     have sh2:IntKind.i64.wrap (IntKind.i64.wrap (2 ^ min 2 IntKind.i64.bits)-1)=3:=by decide
     have sh3:IntKind.i64.wrap (IntKind.i64.wrap (2 ^ min 3 IntKind.i64.bits)-1)=7:=by decide
     have sh4:IntKind.i64.wrap (IntKind.i64.wrap (2 ^ min 4 IntKind.i64.bits)-1)=15:=by decide
     have sh5:IntKind.i64.wrap (IntKind.i64.wrap (2 ^ min 5 IntKind.i64.bits)-1)=31:=by decide
     have sh6:IntKind.i64.wrap (IntKind.i64.wrap (2 ^ min 6 IntKind.i64.bits)-1)=63:=by decide
     rcases hcs with h|h|h|h|h|h
     all_goals
      subst h
      have k1:=kk _ (by first|exact(rfl:(1:Int)=(1:Nat))|exact(rfl:(2:Int)=(2:Nat))|exact(rfl:(3:Int)=(3:Nat))|exact(rfl:(4:Int)=(4:Nat))|exact(rfl:(5:Int)=(5:Nat))|exact(rfl:(6:Int)=(6:Nat)))
      simp at k1
      simp[DJX,e9,hF,c1,← k1,sh1,sh2,sh3,sh4,sh5,sh6]
      try (rw[Bool.eq_iff_iff];simp)
    ·intro i hi
     obtain⟨e,hx⟩:∃ e,es[i]?=some e:=⟨_,List.getElem?_eq_getElem hi⟩
     have hm:=List.mem_of_getElem? hx
     obtain⟨_,hg⟩:=List.getElem?_eq_some_iff.1 hx
     have hT:=take_snoc hx
     have q:=Ex.cellsL_nth hx
     have hok1:=he e hm
     have hc:=columns_eq e (by have:=Ex.ok_size hok1;omega) (Ex.wf6_cols (Ex.ok_wf6 hok1))
     have hel:=(okWidth_iff _).1 hl6
     have w3:IntKind.i64.wrap ((i:Int)+1)=i+1:=wrap64 (by omega) (by omega)
     have hS:fnd (es.take (i+1))=fnd (es.take i) ||| fnd1 e:=by rw[hT,fnd_snoc]
     have b1:fnd (es.take i)<2 ^ 6:=fnd_lt fun x hx=>hf6 x (List.mem_of_mem_take hx)
     rw[Ex.cells_eq e]at q hc
     by_cases h1:e.kind=1
     ·have hb1:fnd1 e=e.bits:=by unfold fnd1;rw[if_pos h1,Ex.bits_col h1]
      have b2:e.bits<2 ^ 6:=by rw[← hb1];exact fnd1_lt (hf6 e hm)
      rw[h1]at q hc
      have hor:=or_small (a:=fnd (es.take i)) (b:=e.bits) (by omega) (by omega)
      by_cases h0:i=0
      ·subst h0
       simp at hS
       simp[DJX,hi,q,hc,h1,hg,wrap_1,hS,fnd,hb1,mod_nat (show e.bits<64 by omega),mod_int (show e.bits<64 by omega),wrap_nat (show e.bits<64 by omega)]
      ·simp[DJX,hi,q,hc,h1,hg,hx,w3,hS,hb1,h0,hor,mod_nat (show e.bits<64 by omega),mod_nat (show fnd (es.take i)<64 by omega)]
     ·have hb1:fnd1 e=0:=by unfold fnd1;rw[if_neg h1]
      by_cases h0:i=0
      ·subst h0
       simp at hS
       simp[DJX,hi,q,hc,h1,hg,wrap_1,hS,fnd,hb1]
      ·simp[DJX,hi,q,hc,h1,hg,hx,w3,hS,hb1,h0]
  | pair m k e a b h1 hk ha hb hl6 he =>
   have i1:=ih a (by simp[pairP]) m (by omega) ha
   have i2:=ih b (by simp[pairP]) m (by omega) hb
   rw[callA_eq rfl Tryz.func86 rfl rfl]
   rw[Pn.cells_eq a]at i1
   rw[Pn.cells_eq b]at i2
   rcases hk with rfl|rfl<;>cases hd:a.dupF ws sets<;>rw[hd]at i1<;>cases hd2:b.dupF ws sets<;>rw[hd2]at i2 <;>
    (simp[pairP,Pn.cells_mk,Pn.cellsL,Pn.cells_eq a,Pn.cells_eq b,i1,i2,hd,hd2]
     rw[execA_loop]
     simp[i1,wrap_1]
     try (rw[execA_loop];simp[i2,w22])
     try (rw[execA_loop];simp))
  | union m a b h1 ha hb =>
   rw[callA_eq rfl Tryz.func86 rfl rfl]
   simp[unionP,Pn.cells_mk]
  | dist m a h1 ha =>
   rw[callA_eq rfl Tryz.func86 rfl rfl]
   simp[Pn.cells_mk]
  | group m cs a h1 ha hc6 ho =>
   rw[callA_eq rfl Tryz.func86 rfl rfl]
   simp[Pn.cells_mk]
theorem IsDup_eq {ws:List Int} {sets:List Bool} (hws:∀ w∈ws,0≤w∧w≤6) (hok:okWs ws=true) (hl:sets.length=ws.length) (p:Pn) (h:p.wd ws 8≠0):callA C0 50 [.i (.agg p.cells), .i (.isl (intsL ws)), .i (.isl (bsL sets))] []=some (.bool (p.dupF ws sets),[]):=by
 have c1:=planWidth_eq p ws
 have c2:=dup_eq hws hok hl p 8 (by omega) h
 have hwd:p.width ws≠0:=by unfold Pn.width;rw[if_pos hok];exact h
 have hl':(sets.length:Int)=ws.length:=by omega
 rw[callA_eq rfl Tryz.func50 rfl rfl]
 rw[Pn.cells_eq p]at *
 simp[c1,c2,hwd,hl']
theorem sIsDup_eq {ws:List Int} {sets:List Bool} (hws:∀ w∈ws,0≤w∧w≤6) (hok:okWs ws=true) (hwl:ws.length<1000000) (hl:sets.length=ws.length) (p:Pn) (hpt:p.thin) (h:p.wd ws 8≠0):callA C0 51 [.i (.agg p.cells), .i (.isl (intsL ws)), .i (.isl (bsL sets))] []=some (.bool (p.dupF ws sets),[]):=by
 have c1:=widthOf_eq p (Pn.thin_lim p hpt) ws (by omega)
 have c2:=sdup_eq hws (by omega) hl p 8 (by omega) h hpt
 have hwd:p.width ws=p.wd ws 8:=by unfold Pn.width;rw[if_pos hok]
 have hr:=Pn.wd_range hws p 8
 have h0:0<p.wd ws 8:=by omega
 have hl':(sets.length:Int)=ws.length:=by omega
 rw[hwd]at c1
 rw[callA_eq rfl Tryz.func51 rfl rfl]
 rw[Pn.cells_eq p]at *
 simp[c1,c2,h0,hl']
theorem bq (x y:Nat):((x:Int) == (y:Int))=decide (x=y):=by rw[Bool.eq_iff_iff];simp;omega
theorem dedup_full {t:Tbl} (h:t.ok=true):(dedup t.rows).length=t.rows.length↔t.rows.Nodup:=by
 obtain⟨h1,h2,h3,h4⟩:=(Tbl.ok_iff t).1 h
 obtain⟨n1,n2⟩:=dedup_srt h4 (Tbl.ok_oks h)
 constructor
 ·intro e
  rw[← (dedup_sub t.rows).eq_of_length e]
  exact n1
 ·intro hn
  exact(perm_of_nodup n1 hn n2).length_eq
@[simp] theorem ce_IsDup (a:List AV) (st:StL):callA CE 50 a st=callA C0 50 a st:=by
  rw[callA_prim (p:=callA CR 50) rfl,callA_prim (p:=callA C0 50) rfl]
@[simp] theorem ce_sIsDup (a:List AV) (st:StL):callA CE 51 a st=callA C0 51 a st:=by
  rw[callA_prim (p:=callA CR 51) rfl,callA_prim (p:=callA C0 51) rfl]
theorem law_isDuplicateFree (code:List UInt8):callA CE 20 [.i (.isl (bytesI code))] []=some (.bool true,[]):=by
 rw[callA_eq rfl Tryz.func20 rfl rfl]
 by_cases hl:(1048576:Int)<code.length
 ·simp[bytesI_length,hl]
 obtain⟨p,db,hd,hp⟩:=drawEval_eq code
 have e1:=EvalPlan_eq p db hp.small hp.fit
 have e2:=sEvalPlan_eq p hp.thin db (by have:=hp.len;omega) hp.small
 cases hev:evOk p db with
 | false =>
  have e3:=eq_zero
  simp only[hev,Bool.false_eq_true,if_false]at e1 e2
  rw[Pn.cells_eq p]at *
  simp[bytesI_length,hl,hd,e1,e2,e3]
 | true =>
  have hD:=evOk_iff.1 hev
  obtain⟨g1,g2⟩:=hD.good
  have e3:=eq_same g1
  have hb:=hp.bd hD.wd
  simp only[hev,if_true]at e1 e2
  have e5:=lwidthsOf_eq db (by have:=hp.len;omega)
  have hlen:=hp.len
  have hws:∀ w∈db.map Tbl.w,0≤w∧w≤6:=by
   intro w hw
   obtain⟨s,hs,rfl⟩:=List.mem_map.1 hw
   have:=(okWidth_iff _).1 ((Tbl.ok_iff _).1 (hD.ok s hs)).1
   omega
  have c1:=IsDup_eq (sets:=db.map fun t=>decide ((dedup t.rows).length=t.rows.length)) hws hD.ws (by simp) p hD.wd
  have c2:=sIsDup_eq (sets:=db.map fun t=>decide ((dedup t.rows).length=t.rows.length)) hws hD.ws (by simp;omega) (by simp) p hp.thin hD.wd
  have hdup:p.dupF (db.map Tbl.w) (db.map fun t=>decide ((dedup t.rows).length=t.rows.length))=true→(dedup (p.evP db).rows).length=(p.evP db).rows.length:=by
   intro h
   refine(dedup_full g1).2 (ev_dup rfl hD.ok (fun i s hs hb=>?_) hws p 8 (by omega) hD.wd h)
   have:decide ((dedup s.rows).length=s.rows.length)=true:=by
    rw[List.getElem?_map,hs]at hb
    exact hb
   exact(dedup_full (hD.ok s (List.mem_of_getElem? hs))).1 (of_decide_eq_true this)
  have c3:∀ s∈db,callA CE 32 [.i (.agg [.int s.w, .isl (rowsL s.rows)])] []=some (.tup [.i (.agg [.int s.w, .isl (rowsL (dedup s.rows))]), .bool true],[]):=fun s hs=>DistinctRows_eq (hD.ok s hs)
  have c4:=DistinctRows_eq g1
  clear hp hD hev g2 hws
  have x1:IntKind.i64.wrap 1=1:=wrap64 (by omega) (by omega)
  have x2:IntKind.i64.wrap 2=2:=wrap64 (by omega) (by omega)
  have x3:IntKind.i64.wrap 3=3:=wrap64 (by omega) (by omega)
  generalize p.dupF (db.map Tbl.w) (db.map fun t=>decide ((dedup t.rows).length=t.rows.length))=B at *
  have hB:B=true→((dedup (p.evP db).rows).length:Int)=(p.evP db).rows.length:=fun h=>by rw[hdup h]
  rw[Pn.cells_eq p]at *
  generalize p.evP db=t at *
  rcases len3 hlen with rfl|⟨a,rfl⟩|⟨a,b,rfl⟩|⟨a,b,c,rfl⟩
  ·simp[tblsL,intsL,Tbl.cells,bsL]at hd e1 e2 e5 c1 c2
   simp[bytesI_length,hl,hd,e1,e2,e3]
   rw[execA_loop]
   cases B<;>simp at hB hdup<;>simp[e5,c1,c2,c4,hB,hdup,bq]
  ·have d1:=c3 a (by simp)
   simp[tblsL,intsL,Tbl.cells,bsL]at hd e1 e2 e5 c1 c2
   simp[bytesI_length,hl,hd,e1,e2,e3]
   iterate 1 (rw[execA_loop];simp[d1,x1,x2,x3])
   rw[execA_loop]
   cases B<;>simp at hB hdup<;>simp[e5,c1,c2,c4,hB,hdup,bq]
  ·have d1:=c3 a (by simp)
   have d2:=c3 b (by simp)
   simp[tblsL,intsL,Tbl.cells,bsL]at hd e1 e2 e5 c1 c2
   simp[bytesI_length,hl,hd,e1,e2,e3]
   iterate 2 (rw[execA_loop];simp[d1,d2,x1,x2,x3])
   rw[execA_loop]
   cases B<;>simp at hB hdup<;>simp[e5,c1,c2,c4,hB,hdup,bq]
  ·have d1:=c3 a (by simp)
   have d2:=c3 b (by simp)
   have d3:=c3 c (by simp)
   simp[tblsL,intsL,Tbl.cells,bsL]at hd e1 e2 e5 c1 c2
   simp[bytesI_length,hl,hd,e1,e2,e3]
   iterate 3 (rw[execA_loop];simp[d1,d2,d3,x1,x2,x3])
   rw[execA_loop]
   cases B<;>simp at hB hdup<;>simp[e5,c1,c2,c4,hB,hdup,bq]
end Go.Proofs.YtiailccmofdhfaaGreat.P
namespace Go.Proofs.YtiailccmofdhfaaGreat.P
open Go Go.Av
set_option maxRecDepth 4000
set_option maxHeartbeats 4000000
@[simp] theorem p64n:(2:Nat) ^ IntKind.i64.bits=18446744073709551616:=rfl
@[simp] theorem p64i:(2:Int) ^ IntKind.i64.bits=18446744073709551616:=rfl
end Go.Proofs.YtiailccmofdhfaaGreat.P
namespace Go.Av
end Go.Av
namespace Go.Proofs.YtiailccmofdhfaaGreat.P
open Go Go.Av
set_option maxRecDepth 4000
set_option maxHeartbeats 4000000
def jz (i:Nat) (v:AV):AV:=if i=0 then .junk else v
@[simp] theorem jz_0 (v:AV):jz 0 v=.junk:=rfl
@[simp] theorem jz_s (i:Nat) (v:AV):jz (i+1) v=v:=rfl
set_option maxHeartbeats 8000000
end Go.Proofs.YtiailccmofdhfaaGreat.P
namespace Go.Av
end Go.Av
namespace Go.Proofs.YtiailccmofdhfaaGreat.P
open Go Go.Av
set_option maxRecDepth 4000
set_option maxHeartbeats 8000000
end Go.Proofs.YtiailccmofdhfaaGreat.P
namespace Go.Av
end Go.Av
namespace Go.Proofs.YtiailccmofdhfaaGreat.P
open Go Go.Av
set_option maxRecDepth 4000
set_option maxHeartbeats 8000000
def bbL (l:List (List Bool)):List (List IV):=l.map fun b=>[.isl (bsL b)]
def mixB (fl gl:List Bool) (i:Nat):List Bool:=(List.zipWith (· || ·) fl gl).take i++fl.drop i
def NUX (p:List IV) (flags:List (List Bool)) (fl gl:List Bool) (n:Nat) (i:Nat):AS :=
 { env:=[(0, .i (.iref p)),(1, .i (.isl (bbL flags))),(4, .nils),(5, .osl 0 1 0 n),(6, .junk),(7, .junk),(8, .junk),(9,jk i (.int ((i:Int)-1))),(10,jk i (.bool ((gl[i-1]?).getD false))),(11, .junk),(13, .junk),(18, .bool false),(37, .int 6),(38, .bool false),(43, .bool false),(57, .junk),(58, .junk),(59, .junk),(76, .bool false),(87, .bool false),(96, .junk),(97, .junk),(98, .junk),(104, .bool true),(112, .osl 1 1 0 n),(113, .int n),(114, .int i),(115,jk i (.bool true)),(131, .junk),(136, .junk),(137, .junk),(138, .junk),(139, .junk)],st:=[some (.arr 1 (bsL (mixB fl gl i))),some (.arr 1 (bsL gl))] }
end Go.Proofs.YtiailccmofdhfaaGreat.P
namespace Go.Av
end Go.Av
namespace Go.Proofs.YtiailccmofdhfaaGreat.P
open Go Go.Av G
set_option maxRecDepth 4000
set_option maxHeartbeats 8000000
def sel (i:Nat) (a b:AV):AV:=if i=0 then a else b
@[simp] theorem sel_0 (a b:AV):sel 0 a b=a:=(rfl)
@[simp] theorem sel_s (i:Nat) (a b:AV):sel (i+1) a b=b:=(rfl)
structure Mt (V:Pn) (A B C:Tbl):Prop where
 thin:V.thin
 bd:∀ n:Nat,1≤n→V.bd n≤n
 ok:∀ T∈[A,B,C],T.ok=true
 rows:∀ T∈[A,B,C],T.rows.length≤4
theorem Mt.fit {V:Pn} {A B C:Tbl} (h:Mt V A B C) {lv:Nat} (hw:V.wd ([A,B,C].map Tbl.w) lv≠0):V.fit [A,B,C]=true∧(V.evP [A,B,C]).rows.length≤4:=by
 have hb:=h.bd 4 (by omega)
 obtain⟨h1,h2⟩:=bd_fit (n:=4) (by omega) rfl (fun T hT=>⟨h.ok T hT,h.rows T hT⟩) V lv hw (by omega)
 exact⟨h1,by omega⟩
structure MtL (V:Pn) (A B C:Tbl) (t:Int) (R:Tbl):Prop where
 wd:V.wd ([A,B,C].map Tbl.w) 8≠0
 width:V.width ([A,B,C].map Tbl.w)≠0
 ht:t=0∨t=1∨t=2
 ns:scP t V=false
 can:canB V ([A,B,C].map Tbl.w) t=true
 rok:R.ok=true
 rlen:R.rows.length≤4
 fit:V.fit [A,B,C]=true
 ok:∀ T∈[A,B,C].set t.toNat R,T.ok=true
 ws:([A,B,C].set t.toNat R).map Tbl.w=[A,B,C].map Tbl.w
 ev:V.evP ([A,B,C].set t.toNat R)=R
 fit2:V.fit ([A,B,C].set t.toNat R)=true
 at0:([A,B,C].map Tbl.w)[t.toNat]?=some (V.wd ([A,B,C].map Tbl.w) 8)
end Go.Proofs.YtiailccmofdhfaaGreat.P
namespace Go.Proofs.YtiailccmofdhfaaGreat.P
open Go Go.Av
set_option maxRecDepth 4000
set_option maxHeartbeats 4000000
end Go.Proofs.YtiailccmofdhfaaGreat.P
namespace Go.Av
end Go.Av
namespace Go.Proofs.YtiailccmofdhfaaGreat.P
open Go Go.Av G
set_option maxRecDepth 4000
set_option maxHeartbeats 8000000
set_option maxHeartbeats 4000000
theorem law_rowBound_calls (a:Option Addr) (len cap:Nat) (zs:List Int) (w:World)
 (h:(a=none∧len=0∧cap=0∧zs=[])∨∃ x,a=some x∧len≤cap∧cap≤maxLen∧zs.length=cap∧(∀ i,i<zs.length→w.cell? (x.add i)=some (.int .u8 (zs.getD i 0)))∧∀ n∈zs,(Lit.int .u8 n).wf=true) :
 Calls Tryz.prog 18 #[.slice a len cap] w fun e w'=>e=.returned (.bool true)∧RowKit.Below w.heap.size w w':=by
 obtain⟨code,hc⟩:=bytes_rep h
 exact calls_true soundE (.cons (.i hc) .nil) (law_rowBound code)
theorem law_tablesOf_calls (a:Option Addr) (len cap:Nat) (zs:List Int) (w:World)
 (h:(a=none∧len=0∧cap=0∧zs=[])∨∃ x,a=some x∧len≤cap∧cap≤maxLen∧zs.length=cap∧(∀ i,i<zs.length→w.cell? (x.add i)=some (.int .u8 (zs.getD i 0)))∧∀ n∈zs,(Lit.int .u8 n).wf=true) :
 Calls Tryz.prog 19 #[.slice a len cap] w fun e w'=>e=.returned (.bool true)∧RowKit.Below w.heap.size w w':=by
 obtain⟨code,hc⟩:=bytes_rep h
 exact calls_true soundE (.cons (.i hc) .nil) (law_tablesOf code)
theorem law_isDuplicateFree_calls (a:Option Addr) (len cap:Nat) (zs:List Int) (w:World)
 (h:(a=none∧len=0∧cap=0∧zs=[])∨∃ x,a=some x∧len≤cap∧cap≤maxLen∧zs.length=cap∧(∀ i,i<zs.length→w.cell? (x.add i)=some (.int .u8 (zs.getD i 0)))∧∀ n∈zs,(Lit.int .u8 n).wf=true) :
 Calls Tryz.prog 20 #[.slice a len cap] w fun e w'=>e=.returned (.bool true)∧RowKit.Below w.heap.size w w':=by
 obtain⟨code,hc⟩:=bytes_rep h
 exact calls_true soundE (.cons (.i hc) .nil) (law_isDuplicateFree code)
end Go.Proofs.YtiailccmofdhfaaGreat.P
namespace Go.Proofs.YtiailccmofdhfaaGreat.io
open Go
set_option maxRecDepth 100000
abbrev chs (l:List Nat):List Char:=l.map Char.ofNat
def w0:List Nat:=[104,97,114,110,101,115,115]
def w1:List Nat:=[50,56,102,97,49,53,98,56,52,99,100,48,101,100,100,56,51,100,100,98,102,101,53,102,55,50,99,97,49,49,55,50,56,49,53,101,97,102,100,102,
 50,97,54,48,99,102,98,101,56,57,48,100,53,97,56,97,97,102,100,53,56,48,102,52]
def w2:List Nat:=[99,117,116]
def others:List Nat:=[
 97,116,32,108,111,111,112,46,101,120,97,109,112,108,101,47,113,117,101,114,121,111,112,116,105,109,105,122,101,114,47,108,97,119,115,46,70,110,80,108,
 97,110,67,111,115,116,32,108,111,111,112,46,101,120,97,109,112,108,101,47,113,117,101,114,121,111,112,116,105,109,105,122,101,114,47,108,97,119,115,46,
 70,110,71,114,111,117,112,67,111,117,110,116,115,32,108,111,111,112,46,101,120,97,109,112,108,101,47,113,117,101,114,121,111,112,116,105,109,105,122,101,
 114,47,108,97,119,115,46,70,110,71,114,111,117,112,75,101,121,115,32,108,111,111,112,46,101,120,97,109,112,108,101,47,113,117,101,114,121,111,112,116,
 105,109,105,122,101,114,47,108,97,119,115,46,70,110,80,114,111,106,101,99,116,65,108,108,32,108,111,111,112,46,101,120,97,109,112,108,101,47,113,117,
 101,114,121,111,112,116,105,109,105,122,101,114,47,108,97,119,115,46,70,110,83,99,97,110,32,108,111,111,112,46,101,120,97,109,112,108,101,47,113,117,
 101,114,121,111,112,116,105,109,105,122,101,114,47,108,97,119,115,46,70,110,85,110,105,111,110,83,119,97,112,32,108,111,111,112,46,101,120,97,109,112,
 108,101,47,113,117,101,114,121,111,112,116,105,109,105,122,101,114,47,108,97,119,115,46,70,110,70,105,108,116,101,114,67,111,110,115,116,97,110,116,32,
 108,111,111,112,46,101,120,97,109,112,108,101,47,113,117,101,114,121,111,112,116,105,109,105,122,101,114,47,108,97,119,115,46,70,110,74,111,105,110,70,
 105,108,116,101,114,32,108,111,111,112,46,101,120,97,109,112,108,101,47,113,117,101,114,121,111,112,116,105,109,105,122,101,114,47,108,97,119,115,46,70,
 110,68,105,115,116,105,110,99,116,85,110,105,111,110,32,108,111,111,112,46,101,120,97,109,112,108,101,47,113,117,101,114,121,111,112,116,105,109,105,122,
 101,114,47,108,97,119,115,46,70,110,70,105,108,116,101,114,84,119,105,99,101,32,108,111,111,112,46,101,120,97,109,112,108,101,47,113,117,101,114,121,
 111,112,116,105,109,105,122,101,114,47,108,97,119,115,46,70,110,69,118,97,108,80,108,97,110,32,108,111,111,112,46,101,120,97,109,112,108,101,47,113,
 117,101,114,121,111,112,116,105,109,105,122,101,114,47,108,97,119,115,46,70,110,77,97,116,101,114,105,97,108,105,122,101,32,108,111,111,112,46,101,120,
 97,109,112,108,101,47,113,117,101,114,121,111,112,116,105,109,105,122,101,114,47,108,97,119,115,46,70,110,70,105,108,116,101,114,83,112,108,105,116,115,
 32,108,111,111,112,46,101,120,97,109,112,108,101,47,113,117,101,114,121,111,112,116,105,109,105,122,101,114,47,108,97,119,115,46,70,110,76,101,102,116,
 74,111,105,110,75,101,101,112,115,32,108,111,111,112,46,101,120,97,109,112,108,101,47,113,117,101,114,121,111,112,116,105,109,105,122,101,114,47,108,97,
 119,115,46,70,110,74,111,105,110,73,110,76,101,102,116,74,111,105,110,32,108,111,111,112,46,101,120,97,109,112,108,101,47,113,117,101,114,121,111,112,
 116,105,109,105,122,101,114,47,108,97,119,115,46,70,110,82,111,119,66,111,117,110,100,32,108,111,111,112,46,101,120,97,109,112,108,101,47,113,117,101,
 114,121,111,112,116,105,109,105,122,101,114,47,108,97,119,115,46,70,110,84,97,98,108,101,115,79,102,32,108,111,111,112,46,101,120,97,109,112,108,101,
 47,113,117,101,114,121,111,112,116,105,109,105,122,101,114,47,108,97,119,115,46,70,110,73,115,68,117,112,108,105,99,97,116,101,70,114,101,101,32,108,
 111,111,112,46,101,120,97,109,112,108,101,47,113,117,101,114,121,111,112,116,105,109,105,122,101,114,47,108,97,119,115,46,70,110,69,120,112,97,110,100,
 82,101,115,117,108,116,32,108,111,111,112,46,101,120,97,109,112,108,101,47,113,117,101,114,121,111,112,116,105,109,105,122,101,114,47,108,97,119,115,46,
 70,110,86,105,101,119,82,101,115,117,108,116,32,108,111,111,112,46,101,120,97,109,112,108,101,47,113,117,101,114,121,111,112,116,105,109,105,122,101,114,
 47,108,97,119,115,46,70,110,78,117,108,108,97,98,108,101,67,111,108,117,109,110,115]
theorem order:Tryz.pinned.checked.prog.initOrder=String.ofList (chs w0++Char.ofNat 32::(chs w1++Char.ofNat 32::(chs w2++Char.ofNat 32::chs others))):=by kernel_rfl
theorem word:∀ (w r:List Char),(w.all fun c=>decide (c≠Char.ofNat 32))=true→wordsSigns (w++Char.ofNat 32::r)=w::wordsSigns r
 | [],r,_=>rfl
 | c::w,r,h=>by
  simp only[List.all_cons,Bool.and_eq_true,decide_eq_true_eq]at h
  have ih:=word w r h.2
  rw[List.cons_append,wordsSigns,ih]
  intro e
  exact h.1 e
theorem words:wordsSigns Tryz.pinned.checked.prog.initOrder.toList=chs w0::chs w1::chs w2::wordsSigns (chs others):=by
 rw[order,String.toList_ofList,word _ _ (by decide),word _ _ (by decide),word _ _ (by decide)]
theorem strip_none (c:List Char) (r:List (List Char)):∀ l:List String,(l.all fun o=>!(c == o.toList))=true→stripLifts l (c::r)=([],c::r)
 | [],_=>rfl
 | o::l,h=>by
  simp only[List.all_cons,Bool.and_eq_true,Bool.not_eq_true']at h
  have ih:=strip_none c r l h.2
  rw[stripLifts,h.1]
  exact ih
theorem behind (a b c:List Char) (r:List (List Char)) (ha:a= "harness".toList) (hb:isSumSigns b=true):behindMainWord (a::b::c::r)=c::r:=by
 show(if((a == "harness".toList || a == "ownmain".toList) && isSumSigns b)=true then c::r else a::b::c::r)=c::r
 rw[if_pos (by rw[hb,ha];simp)]
theorem enters_of (P:Program) (c:List Char) (r:List (List Char)) (h:behindMainWord (wordsSigns P.initOrder.toList)=c::r) (hc:c= "cut".toList) (hs:stripLifts liftWords (c::r)=([],c::r)) (l1:P.laysLater=false) (l2:P.bearsReflect=false) (l3:P.doorFits []=true):P.mayEnter=true:=by
 unfold Program.mayEnter
 rw[h]
 simp only[hs,l1,l2,l3]
 simp[hc]
theorem lifts_of (P:Program) (c:List Char) (r:List (List Char)) (h:behindMainWord (wordsSigns P.initOrder.toList)=c::r) (hc:c= "cut".toList) (hs:stripLifts liftWords (c::r)=([],c::r)):P.liftsFinal=false:=by
 unfold Program.liftsFinal Program.headLifts
 rw[h]
 simp only[hs]
 simp[hc]
theorem makes_of (P:Program) (c:List Char) (r:List (List Char)) (h:behindMainWord (wordsSigns P.initOrder.toList)=c::r) (hc:c= "cut".toList):P.make=some .cut:=by
 unfold Program.make
 rw[h]
 simp[hc]
theorem front:behindMainWord (wordsSigns Tryz.pinned.checked.prog.initOrder.toList)=chs w2::wordsSigns (chs others):=by
 rw[words,behind _ _ _ _ (by decide +kernel) (by decide +kernel)]
theorem cut2:chs w2= "cut".toList:=by decide +kernel
theorem strips (r:List (List Char)):stripLifts liftWords (chs w2::r)=([],chs w2::r):=strip_none _ _ _ (by decide +kernel)
theorem enters:Tryz.pinned.checked.prog.mayEnter=true:=enters_of _ _ _ front cut2 (strips _) (by kernel_rfl) (by kernel_rfl) (by kernel_rfl)
theorem lifts:Tryz.pinned.checked.prog.liftsFinal=false:=lifts_of _ _ _ front cut2 (strips _)
theorem makes:Tryz.pinned.checked.prog.make=some .cut:=makes_of _ _ _ front cut2
theorem laid:laidOutB Tryz.pinned.checked.prog=true:=by kernel_rfl
theorem rowed:mapsRowed Tryz.pinned.checked.prog=true:=by kernel_rfl
theorem noStops:Tryz.pinned.checked.prog.stops=[]:=by kernel_rfl
theorem noKnobs:Tryz.pinned.checked.prog.stopKnobs=[]:=by kernel_rfl
theorem plain:Tryz.pinned.checked.prog.plainKeys=true:=by kernel_rfl
theorem heard:Tryz.pinned.checked.prog.stopsHeard=true:=by kernel_rfl
theorem band {a b:Bool} (h:a=true) (k:b=true):(a && b)=true:=by rw[h,k];rfl
end Go.Proofs.YtiailccmofdhfaaGreat.io

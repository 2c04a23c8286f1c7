/- Part 4 of what the proof rests on: the executor and what it is worth, and the program's functions as it runs them. No condition. -/
import Derived.Test.YtmcjmafajkeecaaDoorT3
set_option linter.unusedVariables false
set_option linter.unusedSimpArgs false
namespace Go.Proofs.YtmcjmafajkeecaaDoor.P
open Go Go.Av
set_option maxRecDepth 4000
set_option maxHeartbeats 2000000
theorem kZ (k t:Int) (es:List Ex) (cs:List Int) (ks:List Pn):Pn.headOk (.mk k t es cs ks)=true↔((ks.length:Int)=gX k∧(es.length:Int)=(if k=3∧cB es.length=true then(es.length:Int)else dN k)∧(k=1∨t=0)∧(k=8∨cs=[])):=by
 unfold Pn.headOk;simp only[zU,xU,zL];exact Iff.rfl
theorem kL {α:Type} {l:List α} (h:(l.length:Int)=1):∃ a,l=[a]:=List.length_eq_one_iff.1 (by omega)
theorem uZ {α:Type} {l:List α} (h:(l.length:Int)=2):∃ a b,l=[a,b]:=by
 match l,h with
 | [a,b],_=>exact⟨a,b,rfl⟩
 | [],h=>simp at h
 | [_],h=>simp at h
 | _::_::_::_,h=>simp at h;omega
theorem gF {α:Type} {l:List α} (h:(l.length:Int)=0):l=[]:=zZ.1 (by omega)
theorem J3 {ws:List Int} (hw:∀ w∈ws,0≤w∧w≤6):∀ (p:Pn) (lv:Nat),lv≤8→aH C0 47 [.i (.iref p.cells), .i (.isl (aI ws)), .int lv] []=some (.int (p.wd ws lv),[]):=by
 intro p
 induction p using Pn.ind with
 | h k t es cs ks ih =>
  intro lv hlv;rw[Pn.bD];by_cases hh:Pn.headOk (.mk k t es cs ks)=true∧(ks=[]∨lv≠0)
  case neg =>
   rw[Pn.AFP hh];rw[kZ]at hh
   rcases pG k with rfl|rfl|rfl|rfl|rfl|rfl|rfl|rfl|h
   ·refine AAX fun h=>hh ?_
    have:=gF h.1;simp[h.2.1,h.2.2.2,this]
   ·exact AAW fun h=>hh (by simp[h.1,h.2.1,h.2.2.1,h.2.2.2.1,h.2.2.2.2])
   ·exact AAV fun h=>hh (by refine⟨⟨by simp[h.1],by simpa using h.2.1,by simp[h.2.2.2.1],by simp[h.2.2.2.2]⟩, .inr h.2.2.1⟩)
   ·exact AAU fun h=>hh (by simp[h.1,h.2.1,h.2.2.1,h.2.2.2.1,h.2.2.2.2])
   ·exact AAT fun h=>hh (by simp[h.1,h.2.1,h.2.2.1,h.2.2.2.1,h.2.2.2.2])
   ·exact AAS fun h=>hh (by simp[h.1,gF h.2.1,h.2.2.1,h.2.2.2.1,h.2.2.2.2])
   ·exact AAR fun h=>hh (by simp[h.1,gF h.2.1,h.2.2.1,h.2.2.2.1,h.2.2.2.2])
   ·exact AAQ fun h=>hh (by simp[h.1,gF h.2.1,h.2.2.1,h.2.2.2])
   ·exact QL h
  have hd:=hh.1;have hx:=Pn.sZ ws lv (.mk k t es cs ks);rw[if_pos (by simpa using hh)]at hx;simp only[Pn.eT,Pn.jB,Pn.cK,Pn.fA,Pn.jF]at hx;rw[hx];rw[kZ]at hh;obtain⟨⟨h1,h2,h3,h4⟩,h5⟩:=hh;have hr:=fun a=>Pn.kR hw a (lv-1)
  rcases pG k with rfl|rfl|rfl|rfl|rfl|rfl|rfl|rfl|h
  ·obtain rfl:=gF (by simpa using h1);obtain rfl:es=[]:=gF (by simpa using h2);obtain rfl:cs=[]:=by simpa using h4
   exact WS
  ·obtain⟨a,rfl⟩:=kL (by simpa using h1);obtain rfl:cs=[]:=by simpa using h4
   obtain rfl:t=0:=by simpa using h3
   have hl:lv≠0:=by simpa using h5
   rw[WR hl hlv hd (ih a (by simp) (lv-1) (by omega)) (hr a)];by_cases z:a.wd ws (lv-1)=0<;>simp[z]
  ·obtain⟨a,rfl⟩:=kL (by simpa using h1);obtain rfl:cs=[]:=by simpa using h4
   obtain rfl:t=0:=by simpa using h3
   have hl:lv≠0:=by simpa using h5
   rw[WQ hl hlv hd (ih a (by simp) (lv-1) (by omega)) (hr a)];by_cases z:a.wd ws (lv-1)=0<;>simp[z]
  ·obtain⟨a,b,rfl⟩:=uZ (by simpa using h1);obtain rfl:cs=[]:=by simpa using h4
   obtain rfl:t=0:=by simpa using h3
   have hl:lv≠0:=by simpa using h5
   rw[WP hl hlv hd (ih a (by simp) (lv-1) (by omega)) (hr a) (ih b (by simp) (lv-1) (by omega)) (hr b)];by_cases z:a.wd ws (lv-1)=0<;>by_cases z2:b.wd ws (lv-1)=0<;>simp[z,z2]
  ·obtain⟨a,b,rfl⟩:=uZ (by simpa using h1);obtain rfl:cs=[]:=by simpa using h4
   obtain rfl:t=0:=by simpa using h3
   have hl:lv≠0:=by simpa using h5
   rw[WO hl hlv hd (ih a (by simp) (lv-1) (by omega)) (hr a) (ih b (by simp) (lv-1) (by omega)) (hr b)];by_cases z:a.wd ws (lv-1)=0<;>by_cases z2:b.wd ws (lv-1)=0<;>simp[z,z2]
  ·obtain⟨a,b,rfl⟩:=uZ (by simpa using h1);obtain rfl:es=[]:=gF (by simpa using h2);obtain rfl:cs=[]:=by simpa using h4
   obtain rfl:t=0:=by simpa using h3
   have hl:lv≠0:=by simpa using h5
   rw[WN hl hlv hd (ih a (by simp) (lv-1) (by omega)) (hr a) (ih b (by simp) (lv-1) (by omega)) (hr b)];by_cases z:a.wd ws (lv-1)=0<;>by_cases z2:b.wd ws (lv-1)=0<;>simp[z,z2]
  ·obtain⟨a,rfl⟩:=kL (by simpa using h1);obtain rfl:es=[]:=gF (by simpa using h2);obtain rfl:cs=[]:=by simpa using h4
   obtain rfl:t=0:=by simpa using h3
   have hl:lv≠0:=by simpa using h5
   rw[WM hl hlv hd (ih a (by simp) (lv-1) (by omega)) (hr a)];by_cases z:a.wd ws (lv-1)=0<;>simp[z]
  ·obtain⟨a,rfl⟩:=kL (by simpa using h1);obtain rfl:es=[]:=gF (by simpa using h2);obtain rfl:t=0:=by simpa using h3
   have hl:lv≠0:=by simpa using h5
   rw[WK hl hlv hd (ih a (by simp) (lv-1) (by omega)) (hr a)];by_cases z:a.wd ws (lv-1)=0<;>simp[z]
  ·exact absurd h1 (by rw[RG h];omega)
def VX (ws:List Int) (i:Nat):AS :=
 { env:=[(0, .i (.isl (aI ws))),(2, .bool false),(4,jk i (.int (ws[i-1]?.getD 0))),(12, .bool false),(13, .i (.isl (aI ws))),(14, .int ws.length),(15, .int i),(16,jk i (.bool true)),(21,jk i (.bool false))],st:=[] }
theorem FH (ws:List Int):aH C0 46 [.i (.isl (aI ws))] []=some (.bool (KM ws),[]):=by
 rw[aF rfl Tryd.func46 rfl rfl];by_cases h1:ws.length=0
 ·have:=zZ.1 h1;subst this;simp[aI,KM]
 by_cases h4:ws.length≤4
 case neg=>simp[KM,h4,show ¬ (ws.length:Int)<1 by omega,show 4<(ws.length:Int)by omega]
 simp[show ¬ (ws.length:Int)<1 by omega,show ¬ 4<(ws.length:Int)by omega];obtain⟨j,h1',h2⟩:=jS cB ws;rw[aU (VX ws) j (by simp[VX])]
 ·rw[aD]
  rcases h2 with ⟨hj,ha⟩|⟨x,h3,_,h5,ha⟩
  ·simp[VX,hj,KM,h4,ha,show 1≤ws.length by omega]
  ·have r1:=(zW.1 h3).1;have r2:=dA h3;simp[VX,r1,r2,h5,KM,ha]
 ·intro i hi;obtain⟨x,h3,_,h5⟩:=h1' i hi;have r1:=(zW.1 h3).1;have r2:=dA h3;have w2:IntKind.i64.wrap ((i:Int)+1)=i+1:=wrO;have h3':ws[i]=x:=(zW.1 h3).2;simp[VX,r1,r2,h5,w2,h3']
theorem H8 {ws:List Int} (h:KM ws=true):∀ w∈ws,0≤w∧w≤6:=by
 intro w hw;simp only[KM,zU]at h;have:=zJ.1 h.2 w hw;simp[cB]at this;omega
theorem wK (p:Pn) (ws:List Int):aH C0 23 [.i (.agg p.cells), .i (.isl (aI ws))] []=some (.int (p.width ws),[]):=by
 rw[aF rfl Tryd.func23 rfl rfl];have hv:=FH ws
 cases h:KM ws with
 | false=>rw[h]at hv;rw[Pn.aB];simp[hv,Pn.width,h]
 | true =>
  rw[h]at hv;have hb:=J3 (H8 h) p 8 (by omega);rw[show((8:Nat):Int)=8 from rfl]at hb;rw[Pn.aB]at hb ⊢;simp[hv,Pn.width,h,hb]
end Go.Proofs.YtmcjmafajkeecaaDoor.P
namespace Go.Av
mutual
def Pn.tx:Pn→Prop
 | .mk k t es cs ks=>(1≤k∧k≤8)∧(k=1→0≤t∧t<10)∧(∀ c∈cs,0≤c∧c<10)∧(∀ e∈es,e.tx)∧Pn.txs ks
def Pn.txs:List Pn→Prop
 | []=>True
 | p::l=>p.tx∧Pn.txs l
end
theorem Pn.BP:∀ l:List Pn,Pn.txs l↔∀ p∈l,p.tx
 | []=>by simp[Pn.txs]
 | p::l=>by simp[Pn.txs,Pn.BP l]
theorem Pn.kP (p:Pn):p.tx↔(1≤p.kind∧p.kind≤8)∧(p.kind=1→0≤p.table∧p.table<10)∧(∀ c∈p.cols,0≤c∧c<10)∧(∀ e∈p.exprs,e.tx)∧∀ a∈p.kids,a.tx:=by
 obtain⟨k,t,es,cs,ks⟩:=p;simp only[Pn.tx,Pn.kind,Pn.table,Pn.cols,Pn.exprs,Pn.kids,Pn.BP]
def N8 (l:List Int) (i:Nat):Int:=(l[i-1]?).getD 0
theorem AZ {l:List Int} {i:Nat} {c:Int} (h:l[i]?=some c):N8 l (i+1)=c:=by simp[N8,h]
def m1P (p:Pn) (l:List UInt8):List UInt8:=(l++40::nmP p.kind)++(if p.kind=1 then 32::dgI p.table else [])
def mCP (p:Pn) (l:List UInt8) (i:Nat):List UInt8:=m1P p l++txC (p.cols.take i)
def mXP (p:Pn) (l:List UInt8) (i:Nat):List UInt8:=mCP p l p.cols.length++oW (p.exprs.take i)
def mKP (p:Pn) (l:List UInt8) (i:Nat):List UInt8:=mXP p l p.exprs.length++F9 (p.kids.take i)
theorem Y0 (p:Pn) (l:List UInt8):l++txP p=mKP p l p.kids.length++[41]:=by
 rw[L8];simp[mKP,mXP,mCP,m1P]
theorem J6:∀ l:List Int,l.length≤(txC l).length
 | []=>by simp
 | a::l=>by have:=J6 l;simp only[txC,zS,zR];omega
theorem AU:∀ l:List Pn,l.length≤(F9 l).length
 | []=>by simp
 | a::l=>by have:=AU l;simp only[F9,zS,zR];omega
theorem QT:∀ (xs:List Int) (n:Nat),(txC (xs.take n)).length≤(txC xs).length
 | [],n=>by simp
 | a::xs,0=>by simp[txC]
 | a::xs,n+1=>by have:=QT xs n;simp only[yR,txC,zS,zR];omega
theorem uQ:∀ (xs:List Ex) (n:Nat),(oW (xs.take n)).length≤(oW xs).length
 | [],n=>by simp
 | a::xs,0=>by simp[oW]
 | a::xs,n+1=>by have:=uQ xs n;simp only[yR,oW,zS,zR];omega
theorem J5:∀ (xs:List Pn) (n:Nat),(F9 (xs.take n)).length≤(F9 xs).length
 | [],n=>by simp
 | a::xs,0=>by simp[F9]
 | a::xs,n+1=>by have:=J5 xs n;simp only[yR,F9,zS,zR];omega
end Go.Av
namespace Go.Proofs.YtmcjmafajkeecaaDoor.P
open Go Go.Av
set_option maxRecDepth 4000
set_option maxHeartbeats 8000000
def PCO (p:Pn) (l:List UInt8) (i:Nat):AS :=
 { env:=[(0, .i (.iref [.int p.kind, .int p.table, .isl (Ex.aA p.exprs), .isl (aI p.cols), .isl (Pn.aA p.kids)])),(1, .osl 1 1 0 (mCP p l i).length),(4, .nils),(6,jk i (.int (N8 p.cols i))),(7, .junk),(8, .junk),(23, .bool (p.kind == 1)),(35, .i (.isl (aI p.cols))),(36, .int p.cols.length),(37, .int i),(38,jk i (.bool true)),(51, .junk),(52, .junk),(53, .junk),(70, .junk),(71, .junk),(72, .junk)],
   st:=[none,some (.arr 1 (aO (mCP p l i)))] }
def PXO (p:Pn) (l:List UInt8) (i:Nat):AS :=
 { env:=[(0, .i (.iref [.int p.kind, .int p.table, .isl (Ex.aA p.exprs), .isl (aI p.cols), .isl (Pn.aA p.kids)])),(1, .osl 1 1 0 (mXP p l i).length),(4, .nils),(6,jk p.cols.length (.int (N8 p.cols p.cols.length))),(7,jk i (.int (i-1))),(8, .junk),(23, .bool (p.kind == 1)),(35, .i (.isl (aI p.cols))),(36, .int p.cols.length),(37, .int p.cols.length),(38, .bool false),(51, .int p.exprs.length),(52, .int i),(53,jk i (.bool true)),(70, .junk),(71, .junk),(72, .junk)],
   st:=[none,some (.arr 1 (aO (mXP p l i)))] }
def PKO (p:Pn) (l:List UInt8) (i:Nat):AS :=
 { env:=[(0, .i (.iref [.int p.kind, .int p.table, .isl (Ex.aA p.exprs), .isl (aI p.cols), .isl (Pn.aA p.kids)])),(1, .osl 1 1 0 (mKP p l i).length),(4, .nils),(6,jk p.cols.length (.int (N8 p.cols p.cols.length))),(7,jk p.exprs.length (.int (p.exprs.length-1))),(8,jk i (.int (i-1))),(23, .bool (p.kind == 1)),(35, .i (.isl (aI p.cols))),(36, .int p.cols.length),(37, .int p.cols.length),(38, .bool false),(51, .int p.exprs.length),(52, .int p.exprs.length),(53, .bool false),(70, .int p.kids.length),(71, .int i),(72,jk i (.bool true))],
   st:=[none,some (.arr 1 (aO (mKP p l i)))] }
theorem WY {p:Pn} (ht:p.tx) {l:List UInt8} (hl:l.length+(txP p).length<9000000)
 (ih:∀ a∈p.kids,∀ l:List UInt8,l.length+(txP a).length<9000000→aH C0 51 [.i (.iref a.cells), .osl 0 1 0 l.length] [some (.arr 1 (aO l))]=some (.osl 1 1 0 (l++txP a).length,[none,some (.arr 1 (aO (l++txP a)))])) :
 aH C0 51 [.i (.iref p.cells), .osl 0 1 0 l.length] [some (.arr 1 (aO l))]=some (.osl 1 1 0 (l++txP p).length,[none,some (.arr 1 (aO (l++txP p)))]):=by
 obtain⟨⟨k1,k2⟩,k3,k4,k5,k6⟩:=(Pn.kP p).1 ht;have hfin:=Y0 p l
 have hlp:(mKP p l p.kids.length).length+1=l.length+(txP p).length:=by
  have:=congrArg List.length hfin;simp at this;omega
 have hl':l.length+(txP p).length<9000000:=by exact hl
 have lX:(mXP p l p.exprs.length).length≤(mKP p l p.kids.length).length:=by simp[mKP]
 have lC:(mCP p l p.cols.length).length≤(mXP p l p.exprs.length).length:=by simp[mXP]
 have l1:(m1P p l).length≤(mCP p l p.cols.length).length:=by simp[mCP]
 have l0:(l++40::nmP p.kind).length≤(m1P p l).length:=by simp[m1P]
 have hC:∀ i,(mCP p l i).length≤(mCP p l p.cols.length).length:=fun i=>by have:=QT p.cols i;simp[mCP];exact this
 have hX:∀ i,(mXP p l i).length≤(mXP p l p.exprs.length).length:=fun i=>by have:=uQ p.exprs i;simp[mXP];exact this
 have hK:∀ i,(mKP p l i).length≤(mKP p l p.kids.length).length:=fun i=>by have:=J5 p.kids i;simp[mKP];exact this
 have nC:p.cols.length≤(mCP p l p.cols.length).length:=by have:=J6 p.cols;simp[mCP];omega
 have nX:p.exprs.length≤(mXP p l p.exprs.length).length:=by have:=qG p.exprs;simp[mXP];omega
 have nK:p.kids.length≤(mKP p l p.kids.length).length:=by have:=AU p.kids;simp[mKP];omega
 have hnm:=CZ k1 k2;have htk:=dS l;have htk2:=dS (l++[40]);simp[aO,aN]at htk2;simp at l0;have hb1:l.length+1≤140737488355328:=by omega
 have hb2:l.length+1+(nmP p.kind).length≤140737488355328:=by omega
 rw[hfin];rw[aF rfl Tryd.func51 rfl rfl,Pn.aB];have hC0:mCP p l 0=m1P p l:=by simp[mCP,txC]
 have hX0:mXP p l 0=mCP p l p.cols.length:=by simp[mXP,oW]
 have hK0:mKP p l 0=mXP p l p.exprs.length:=by simp[mKP,F9]
 by_cases h1:p.kind=1
 ·obtain⟨k7,k8⟩:=k3 h1;obtain⟨t,htt⟩:=yQ k7;have hm1:m1P p l=(l++40::nmP p.kind++[32])++dgI t:=by simp[m1P,h1,htt]
  have hlm:=l1;rw[hm1]at hlm;simp at hlm;have hai:=F6 (n:=t) (by omega) (l++40::nmP p.kind++[32]) (by simp;omega);rw[← hm1]at hai;have htk3:(aO l++[.lit (.int .u8 40)]::aO (nmP p.kind)).take (l.length+1+(nmP p.kind).length)=aO l++[.lit (.int .u8 40)]::aO (nmP p.kind):=zY (by simp[aN];omega);have hle3:l.length+1+(nmP p.kind).length≤l.length+((nmP p.kind).length+1):=by omega
  have hlen3:(l++40::nmP p.kind++[32]).length=l.length+1+(nmP p.kind).length+1:=by simp;omega
  rw[hlen3]at hai;have hb3:l.length+1+(nmP p.kind).length+1≤140737488355328:=by omega
  rw[h1]at hnm hb2 hb3 htk3 hai hle3;simp[aO,aN]at hai;simp[h1,htt,hnm,hb1,hb2,hb3,hle3,htk,htk2,htk3,hai,aO,aN];rw[aU (PCO p l) p.cols.length (by simp[PCO,hC0,h1,htt])]
  ·rw[aD];simp only[PCO];generalize mCP p l p.cols.length=mc at *
   simp;rw[aU (PXO p l) p.exprs.length (by simp[PXO,hX0])]
   ·rw[aD];simp only[PXO];generalize mXP p l p.exprs.length=mx at *
    simp;rw[aU (PKO p l) p.kids.length (by simp[PKO,hK0])]
    ·rw[aD];have hb9:(mKP p l p.kids.length).length+1≤140737488355328:=by omega
     have htk9:=dS (mKP p l p.kids.length);simp only[PKO];generalize mKP p l p.kids.length=mk at *
     simp[hb9,htk9,aO,aN]
    ·intro i hi;have h4:=zX hi;have hm:=zT h4;have r2:=Pn.aS h4;have hsn:=aM h4;generalize p.kids[i]=a at h4 hm r2 hsn;have hnext:mKP p l (i+1)=mKP p l i++[32]++txP a:=by unfold mKP;rw[hsn,l9];simp
     have hl1:=hK i;have hl2:=hK (i+1);rw[hnext]at hl2;simp at hl2;have hk:=ih a hm (mKP p l i++[32]) (by simp;omega);rw[← hnext]at hk;have w2:IntKind.i64.wrap ((i:Int)+1)=i+1:=wrO;have hb3:(mKP p l i).length+1≤140737488355328:=by omega
     have htk3:=dS (mKP p l i);simp only[PKO];generalize mKP p l (i+1)=m2 at hk ⊢;generalize mKP p l i=m1 at hk hb3 htk3 ⊢;rw[Pn.aB a]at r2 hk;simp[aO,aN]at hk;simp[hi,r2,hk,w2,hb3,htk3,aO,aN]
   ·intro i hi;have h4:=zX hi;have hm:=zT h4;have r2:=Ex.aS h4;have hsn:=aM h4;generalize p.exprs[i]=a at h4 hm r2 hsn;have hnext:mXP p l (i+1)=mXP p l i++[32]++txE a:=by unfold mXP;rw[hsn,iG];simp
    have hl1:=hX i;have hl2:=hX (i+1);rw[hnext]at hl2;simp at hl2;have hk:=KE a (k5 a hm) (mXP p l i++[32]) (by simp;omega);rw[← hnext]at hk;have w2:IntKind.i64.wrap ((i:Int)+1)=i+1:=wrO;have hb3:(mXP p l i).length+1≤140737488355328:=by omega
    have htk3:=dS (mXP p l i);simp only[PXO];generalize mXP p l (i+1)=m2 at hk ⊢;generalize mXP p l i=m1 at hk hb3 htk3 ⊢;rw[Ex.aB a]at r2 hk;simp[aO,aN]at hk;simp[hi,r2,hk,w2,hb3,htk3,aO,aN]
  ·intro i hi;have h4:=zX hi;have hm:=zT h4;have r2:=dA h4;have hsn:=aM h4;have hla:=AZ h4;generalize p.cols[i]=a at h4 hm r2 hsn hla;obtain⟨a0,a1⟩:=k4 a hm;obtain⟨c,rfl⟩:=yQ a0;have hnext:mCP p l (i+1)=mCP p l i++[32]++35::dgI c:=by unfold mCP;rw[hsn,nP];simp
   have hl1:=hC i;have hk:=qF (n:=c) (by omega) (mCP p l i++[32]) (by simp;omega);rw[← hnext]at hk;have w2:IntKind.i64.wrap ((i:Int)+1)=i+1:=wrO;have hb3:(mCP p l i).length+1≤140737488355328:=by omega
   have htk3:=dS (mCP p l i);simp only[PCO];generalize mCP p l (i+1)=m2 at hk ⊢;generalize mCP p l i=m1 at hk hb3 htk3 ⊢;simp[aO,aN]at hk;simp[hi,r2,hk,w2,hb3,htk3,hla,aO,aN]
 ·have hm1:m1P p l=l++40::nmP p.kind:=by simp[m1P,h1]
  simp[h1,hnm,hb1,hb2,htk,htk2,aO,aN];rw[aU (PCO p l) p.cols.length (by simp[PCO,hC0,hm1,h1,aO,aN];omega)]
  ·rw[aD];simp only[PCO];generalize mCP p l p.cols.length=mc at *
   simp;rw[aU (PXO p l) p.exprs.length (by simp[PXO,hX0])]
   ·rw[aD];simp only[PXO];generalize mXP p l p.exprs.length=mx at *
    simp;rw[aU (PKO p l) p.kids.length (by simp[PKO,hK0])]
    ·rw[aD];have hb9:(mKP p l p.kids.length).length+1≤140737488355328:=by omega
     have htk9:=dS (mKP p l p.kids.length);simp only[PKO];generalize mKP p l p.kids.length=mk at *
     simp[hb9,htk9,aO,aN]
    ·intro i hi;have h4:=zX hi;have hm:=zT h4;have r2:=Pn.aS h4;have hsn:=aM h4;generalize p.kids[i]=a at h4 hm r2 hsn;have hnext:mKP p l (i+1)=mKP p l i++[32]++txP a:=by unfold mKP;rw[hsn,l9];simp
     have hl1:=hK i;have hl2:=hK (i+1);rw[hnext]at hl2;simp at hl2;have hk:=ih a hm (mKP p l i++[32]) (by simp;omega);rw[← hnext]at hk;have w2:IntKind.i64.wrap ((i:Int)+1)=i+1:=wrO;have hb3:(mKP p l i).length+1≤140737488355328:=by omega
     have htk3:=dS (mKP p l i);simp only[PKO];generalize mKP p l (i+1)=m2 at hk ⊢;generalize mKP p l i=m1 at hk hb3 htk3 ⊢;rw[Pn.aB a]at r2 hk;simp[aO,aN]at hk;simp[hi,r2,hk,w2,hb3,htk3,aO,aN]
   ·intro i hi;have h4:=zX hi;have hm:=zT h4;have r2:=Ex.aS h4;have hsn:=aM h4;generalize p.exprs[i]=a at h4 hm r2 hsn;have hnext:mXP p l (i+1)=mXP p l i++[32]++txE a:=by unfold mXP;rw[hsn,iG];simp
    have hl1:=hX i;have hl2:=hX (i+1);rw[hnext]at hl2;simp at hl2;have hk:=KE a (k5 a hm) (mXP p l i++[32]) (by simp;omega);rw[← hnext]at hk;have w2:IntKind.i64.wrap ((i:Int)+1)=i+1:=wrO;have hb3:(mXP p l i).length+1≤140737488355328:=by omega
    have htk3:=dS (mXP p l i);simp only[PXO];generalize mXP p l (i+1)=m2 at hk ⊢;generalize mXP p l i=m1 at hk hb3 htk3 ⊢;rw[Ex.aB a]at r2 hk;simp[aO,aN]at hk;simp[hi,r2,hk,w2,hb3,htk3,aO,aN]
  ·intro i hi;have h4:=zX hi;have hm:=zT h4;have r2:=dA h4;have hsn:=aM h4;have hla:=AZ h4;generalize p.cols[i]=a at h4 hm r2 hsn hla;obtain⟨a0,a1⟩:=k4 a hm;obtain⟨c,rfl⟩:=yQ a0;have hnext:mCP p l (i+1)=mCP p l i++[32]++35::dgI c:=by unfold mCP;rw[hsn,nP];simp
   have hl1:=hC i;have hk:=qF (n:=c) (by omega) (mCP p l i++[32]) (by simp;omega);rw[← hnext]at hk;have w2:IntKind.i64.wrap ((i:Int)+1)=i+1:=wrO;have hb3:(mCP p l i).length+1≤140737488355328:=by omega
   have htk3:=dS (mCP p l i);simp only[PCO];generalize mCP p l (i+1)=m2 at hk ⊢;generalize mCP p l i=m1 at hk hb3 htk3 ⊢;simp[aO,aN]at hk;simp[hi,r2,hk,w2,hb3,htk3,hla,aO,aN]
def bxQ (p:Pn):Option Blk:=some (.box [.int p.kind, .int p.table, .i (.isl (Ex.aA p.exprs)), .i (.isl (aI p.cols)), .i (.isl (Pn.aA p.kids))])
def PCB (p:Pn) (l:List UInt8) (i:Nat):AS :=
 { env:=[(0, .own 0 0),(1, .osl 1 1 0 (mCP p l i).length),(4, .nils),(6,jk i (.int (N8 p.cols i))),(7, .junk),(8, .junk),(23, .bool (p.kind == 1)),(35, .i (.isl (aI p.cols))),(36, .int p.cols.length),(37, .int i),(38,jk i (.bool true)),(51, .junk),(52, .junk),(53, .junk),(70, .junk),(71, .junk),(72, .junk)],
   st:=[bxQ p,some (.arr 1 (aO (mCP p l i)))] }
def PXB (p:Pn) (l:List UInt8) (i:Nat):AS :=
 { env:=[(0, .own 0 0),(1, .osl 1 1 0 (mXP p l i).length),(4, .nils),(6,jk p.cols.length (.int (N8 p.cols p.cols.length))),(7,jk i (.int (i-1))),(8, .junk),(23, .bool (p.kind == 1)),(35, .i (.isl (aI p.cols))),(36, .int p.cols.length),(37, .int p.cols.length),(38, .bool false),(51, .int p.exprs.length),(52, .int i),(53,jk i (.bool true)),(70, .junk),(71, .junk),(72, .junk)],
   st:=[bxQ p,some (.arr 1 (aO (mXP p l i)))] }
def PKB (p:Pn) (l:List UInt8) (i:Nat):AS :=
 { env:=[(0, .own 0 0),(1, .osl 1 1 0 (mKP p l i).length),(4, .nils),(6,jk p.cols.length (.int (N8 p.cols p.cols.length))),(7,jk p.exprs.length (.int (p.exprs.length-1))),(8,jk i (.int (i-1))),(23, .bool (p.kind == 1)),(35, .i (.isl (aI p.cols))),(36, .int p.cols.length),(37, .int p.cols.length),(38, .bool false),(51, .int p.exprs.length),(52, .int p.exprs.length),(53, .bool false),(70, .int p.kids.length),(71, .int i),(72,jk i (.bool true))],
   st:=[bxQ p,some (.arr 1 (aO (mKP p l i)))] }
theorem WZ {p:Pn} (ht:p.tx) (hl:(txP p).length<9000000)
 (ih:∀ a∈p.kids,∀ l:List UInt8,l.length+(txP a).length<9000000→aH C0 51 [.i (.iref a.cells), .osl 0 1 0 l.length] [some (.arr 1 (aO l))]=some (.osl 1 1 0 (l++txP a).length,[none,some (.arr 1 (aO (l++txP a)))])) :
 aH C0 51 [.own 0 0, .nils] [bxQ p]=some (.osl 1 1 0 (txP p).length,[bxQ p,some (.arr 1 (aO (txP p)))]):=by
 obtain⟨l,hl0⟩:∃ l:List UInt8,l=[]:=⟨[],rfl⟩
 obtain⟨⟨k1,k2⟩,k3,k4,k5,k6⟩:=(Pn.kP p).1 ht;have hfin:=Y0 p l
 have hlp:(mKP p l p.kids.length).length+1=l.length+(txP p).length:=by
  have:=congrArg List.length hfin;simp at this;omega
 have hl':l.length+(txP p).length<9000000:=by rw[hl0];simpa using hl
 have lX:(mXP p l p.exprs.length).length≤(mKP p l p.kids.length).length:=by simp[mKP]
 have lC:(mCP p l p.cols.length).length≤(mXP p l p.exprs.length).length:=by simp[mXP]
 have l1:(m1P p l).length≤(mCP p l p.cols.length).length:=by simp[mCP]
 have l0:(l++40::nmP p.kind).length≤(m1P p l).length:=by simp[m1P]
 have hC:∀ i,(mCP p l i).length≤(mCP p l p.cols.length).length:=fun i=>by have:=QT p.cols i;simp[mCP];exact this
 have hX:∀ i,(mXP p l i).length≤(mXP p l p.exprs.length).length:=fun i=>by have:=uQ p.exprs i;simp[mXP];exact this
 have hK:∀ i,(mKP p l i).length≤(mKP p l p.kids.length).length:=fun i=>by have:=J5 p.kids i;simp[mKP];exact this
 have nC:p.cols.length≤(mCP p l p.cols.length).length:=by have:=J6 p.cols;simp[mCP];omega
 have nX:p.exprs.length≤(mXP p l p.exprs.length).length:=by have:=qG p.exprs;simp[mXP];omega
 have nK:p.kids.length≤(mKP p l p.kids.length).length:=by have:=AU p.kids;simp[mKP];omega
 have hnm:=CZ k1 k2;have htk:=dS l;have htk2:=dS (l++[40]);simp[aO,aN]at htk2;simp at l0;have hb1:l.length+1≤140737488355328:=by omega
 have hb2:l.length+1+(nmP p.kind).length≤140737488355328:=by omega
 have hfin0:txP p=mKP p l p.kids.length++[41]:=by rw[← hfin,hl0];rfl
 rw[hfin0];rw[aF rfl Tryd.func51 rfl rfl];have hC0:mCP p l 0=m1P p l:=by simp[mCP,txC]
 have hX0:mXP p l 0=mCP p l p.cols.length:=by simp[mXP,oW]
 have hK0:mKP p l 0=mXP p l p.exprs.length:=by simp[mKP,F9]
 rw[hl0]at htk2
 try simp at htk2
 rw[hl0]at hb2
 try simp at hb2
 rw[hl0]at hC0;by_cases h1:p.kind=1
 ·obtain⟨k7,k8⟩:=k3 h1;obtain⟨t,htt⟩:=yQ k7;have hm1:m1P p l=(l++40::nmP p.kind++[32])++dgI t:=by simp[m1P,h1,htt]
  have hlm:=l1;rw[hm1]at hlm;simp at hlm;have hai:=F6 (n:=t) (by omega) (l++40::nmP p.kind++[32]) (by simp;omega);rw[← hm1]at hai;have htk3:(aO l++[.lit (.int .u8 40)]::aO (nmP p.kind)).take (l.length+1+(nmP p.kind).length)=aO l++[.lit (.int .u8 40)]::aO (nmP p.kind):=zY (by simp[aN];omega);have hle3:l.length+1+(nmP p.kind).length≤l.length+((nmP p.kind).length+1):=by omega
  have hlen3:(l++40::nmP p.kind++[32]).length=l.length+1+(nmP p.kind).length+1:=by simp;omega
  rw[hlen3]at hai;have hb3:l.length+1+(nmP p.kind).length+1≤140737488355328:=by omega
  rw[h1]at hnm hb2 hb3 htk3 hai hle3;rw[hl0]at htk3 hai hb3 hle3
  try simp[aO]at hb3 htk3 hle3
  simp[aO,aN]at hai;simp[bxQ,h1,htt,hnm,hb1,hb2,hb3,hle3,htk,htk2,htk3,hai,aO,aN];rw[aU (PCB p l) p.cols.length (by simp[bxQ,PCB,hC0,h1,htt,hl0])]
  ·rw[aD];simp only[PCB,bxQ];generalize mCP p l p.cols.length=mc at *
   simp;rw[aU (PXB p l) p.exprs.length (by simp[PXB,bxQ,hX0])]
   ·rw[aD];simp only[PXB,bxQ];generalize mXP p l p.exprs.length=mx at *
    simp;rw[aU (PKB p l) p.kids.length (by simp[PKB,bxQ,hK0])]
    ·rw[aD];have hb9:(mKP p l p.kids.length).length+1≤140737488355328:=by omega
     have htk9:=dS (mKP p l p.kids.length);simp only[PKB,bxQ];generalize mKP p l p.kids.length=mk at *
     simp[hb9,htk9,aO,aN];exact⟨h1,htt⟩
    ·intro i hi;have h4:=zX hi;have hm:=zT h4;have r2:=Pn.aS h4;have hsn:=aM h4;generalize p.kids[i]=a at h4 hm r2 hsn;have hnext:mKP p l (i+1)=mKP p l i++[32]++txP a:=by unfold mKP;rw[hsn,l9];simp
     have hl1:=hK i;have hl2:=hK (i+1);rw[hnext]at hl2;simp at hl2;have hk:=ih a hm (mKP p l i++[32]) (by simp;omega);rw[← hnext]at hk;have w2:IntKind.i64.wrap ((i:Int)+1)=i+1:=wrO;have hb3:(mKP p l i).length+1≤140737488355328:=by omega
     have htk3:=dS (mKP p l i);simp only[PKB,bxQ];generalize mKP p l (i+1)=m2 at hk ⊢;generalize mKP p l i=m1 at hk hb3 htk3 ⊢;rw[Pn.aB a]at r2 hk;simp[aO,aN]at hk;simp[hi,r2,hk,w2,hb3,htk3,aO,aN]
   ·intro i hi;have h4:=zX hi;have hm:=zT h4;have r2:=Ex.aS h4;have hsn:=aM h4;generalize p.exprs[i]=a at h4 hm r2 hsn;have hnext:mXP p l (i+1)=mXP p l i++[32]++txE a:=by unfold mXP;rw[hsn,iG];simp
    have hl1:=hX i;have hl2:=hX (i+1);rw[hnext]at hl2;simp at hl2;have hk:=KE a (k5 a hm) (mXP p l i++[32]) (by simp;omega);rw[← hnext]at hk;have w2:IntKind.i64.wrap ((i:Int)+1)=i+1:=wrO;have hb3:(mXP p l i).length+1≤140737488355328:=by omega
    have htk3:=dS (mXP p l i);simp only[PXB,bxQ];generalize mXP p l (i+1)=m2 at hk ⊢;generalize mXP p l i=m1 at hk hb3 htk3 ⊢;rw[Ex.aB a]at r2 hk;simp[aO,aN]at hk;simp[hi,r2,hk,w2,hb3,htk3,aO,aN]
  ·intro i hi;have h4:=zX hi;have hm:=zT h4;have r2:=dA h4;have hsn:=aM h4;have hla:=AZ h4;generalize p.cols[i]=a at h4 hm r2 hsn hla;obtain⟨a0,a1⟩:=k4 a hm;obtain⟨c,rfl⟩:=yQ a0;have hnext:mCP p l (i+1)=mCP p l i++[32]++35::dgI c:=by unfold mCP;rw[hsn,nP];simp
   have hl1:=hC i;have hk:=qF (n:=c) (by omega) (mCP p l i++[32]) (by simp;omega);rw[← hnext]at hk;have w2:IntKind.i64.wrap ((i:Int)+1)=i+1:=wrO;have hb3:(mCP p l i).length+1≤140737488355328:=by omega
   have htk3:=dS (mCP p l i);simp only[PCB,bxQ];generalize mCP p l (i+1)=m2 at hk ⊢;generalize mCP p l i=m1 at hk hb3 htk3 ⊢;simp[aO,aN]at hk;simp[hi,r2,hk,w2,hb3,htk3,hla,aO,aN]
 ·have hm1:m1P p l=l++40::nmP p.kind:=by simp[m1P,h1]
  rw[hl0]at hm1;simp[bxQ,h1,hnm,hb1,hb2,htk,htk2,aO,aN];rw[aU (PCB p l) p.cols.length (by simp[bxQ,PCB,hC0,hm1,h1,aO,aN,hl0];try omega)]
  ·rw[aD];simp only[PCB,bxQ];generalize mCP p l p.cols.length=mc at *
   simp;rw[aU (PXB p l) p.exprs.length (by simp[PXB,bxQ,hX0])]
   ·rw[aD];simp only[PXB,bxQ];generalize mXP p l p.exprs.length=mx at *
    simp;rw[aU (PKB p l) p.kids.length (by simp[PKB,bxQ,hK0])]
    ·rw[aD];have hb9:(mKP p l p.kids.length).length+1≤140737488355328:=by omega
     have htk9:=dS (mKP p l p.kids.length);simp only[PKB,bxQ];generalize mKP p l p.kids.length=mk at *
     simp[hb9,htk9,aO,aN]
    ·intro i hi;have h4:=zX hi;have hm:=zT h4;have r2:=Pn.aS h4;have hsn:=aM h4;generalize p.kids[i]=a at h4 hm r2 hsn;have hnext:mKP p l (i+1)=mKP p l i++[32]++txP a:=by unfold mKP;rw[hsn,l9];simp
     have hl1:=hK i;have hl2:=hK (i+1);rw[hnext]at hl2;simp at hl2;have hk:=ih a hm (mKP p l i++[32]) (by simp;omega);rw[← hnext]at hk;have w2:IntKind.i64.wrap ((i:Int)+1)=i+1:=wrO;have hb3:(mKP p l i).length+1≤140737488355328:=by omega
     have htk3:=dS (mKP p l i);simp only[PKB,bxQ];generalize mKP p l (i+1)=m2 at hk ⊢;generalize mKP p l i=m1 at hk hb3 htk3 ⊢;rw[Pn.aB a]at r2 hk;simp[aO,aN]at hk;simp[hi,r2,hk,w2,hb3,htk3,aO,aN]
   ·intro i hi;have h4:=zX hi;have hm:=zT h4;have r2:=Ex.aS h4;have hsn:=aM h4;generalize p.exprs[i]=a at h4 hm r2 hsn;have hnext:mXP p l (i+1)=mXP p l i++[32]++txE a:=by unfold mXP;rw[hsn,iG];simp
    have hl1:=hX i;have hl2:=hX (i+1);rw[hnext]at hl2;simp at hl2;have hk:=KE a (k5 a hm) (mXP p l i++[32]) (by simp;omega);rw[← hnext]at hk;have w2:IntKind.i64.wrap ((i:Int)+1)=i+1:=wrO;have hb3:(mXP p l i).length+1≤140737488355328:=by omega
    have htk3:=dS (mXP p l i);simp only[PXB,bxQ];generalize mXP p l (i+1)=m2 at hk ⊢;generalize mXP p l i=m1 at hk hb3 htk3 ⊢;rw[Ex.aB a]at r2 hk;simp[aO,aN]at hk;simp[hi,r2,hk,w2,hb3,htk3,aO,aN]
  ·intro i hi;have h4:=zX hi;have hm:=zT h4;have r2:=dA h4;have hsn:=aM h4;have hla:=AZ h4;generalize p.cols[i]=a at h4 hm r2 hsn hla;obtain⟨a0,a1⟩:=k4 a hm;obtain⟨c,rfl⟩:=yQ a0;have hnext:mCP p l (i+1)=mCP p l i++[32]++35::dgI c:=by unfold mCP;rw[hsn,nP];simp
   have hl1:=hC i;have hk:=qF (n:=c) (by omega) (mCP p l i++[32]) (by simp;omega);rw[← hnext]at hk;have w2:IntKind.i64.wrap ((i:Int)+1)=i+1:=wrO;have hb3:(mCP p l i).length+1≤140737488355328:=by omega
   have htk3:=dS (mCP p l i);simp only[PCB,bxQ];generalize mCP p l (i+1)=m2 at hk ⊢;generalize mCP p l i=m1 at hk hb3 htk3 ⊢;simp[aO,aN]at hk;simp[hi,r2,hk,w2,hb3,htk3,hla,aO,aN]
theorem AIJ:∀ p:Pn,p.tx→∀ l:List UInt8,l.length+(txP p).length<9000000→aH C0 51 [.i (.iref p.cells), .osl 0 1 0 l.length] [some (.arr 1 (aO l))]=some (.osl 1 1 0 (l++txP p).length,[none,some (.arr 1 (aO (l++txP p)))]):=by
 intro p
 induction p using Pn.ind with
 | h k t es cs ks ih =>
  intro ht l hl;exact WY ht hl fun a ha=>ih a ha (((Pn.kP _).1 ht).2.2.2.2 a ha)
theorem KI {p:Pn} {ws:List Int} (hp:p.tx) (hl:(txP p).length<9000000) (h0:p.width ws≠0):aH C0 32 [.i (.agg p.cells), .i (.isl (aI ws))] []=some (.i (.lit (.string ⟨(txP p).toArray⟩)),[]):=by
 have c1:=wK p ws;have c2:=WZ hp hl fun a ha=>AIJ a (((Pn.kP _).1 hp).2.2.2.2 a ha)
 have hs:=AG1 (txP p);have hb:=O4 (txP p);have htk:=dS (txP p);have hlen:=aN (txP p);generalize txP p=m at *
 rw[aF rfl Tryd.func32 rfl rfl];rw[Pn.aB p]at *
 simp only[bxQ]at c2;simp[c1,h0,c2,hs,hb,htk,hlen]
end Go.Proofs.YtmcjmafajkeecaaDoor.P
namespace Go.Av
def sE (e:Ex) (i:Nat):List UInt8:=40::(nmE e.kind++oW (e.kids.take i))
def sP1 (p:Pn):List UInt8:=(40::nmP p.kind)++(if p.kind=1 then 32::dgI p.table else [])
def sPC (p:Pn) (i:Nat):List UInt8:=sP1 p++txC (p.cols.take i)
def sPX (p:Pn) (i:Nat):List UInt8:=sPC p p.cols.length++oW (p.exprs.take i)
def sPK (p:Pn) (i:Nat):List UInt8:=sPX p p.exprs.length++F9 (p.kids.take i)
theorem AC0 (p:Pn):txP p=sPK p p.kids.length++[41]:=by
 rw[L8];simp[sPK,sPX,sPC,sP1]
@[simp] theorem bsz (l:List UInt8):(ByteArray.mk l.toArray).size=l.length:=by simp[ByteArray.size]
@[simp] theorem AcB (c:UInt8):(ByteArray.mk #[c]).size=1:=rfl
@[simp] theorem AcA (c d:UInt8):(ByteArray.mk #[c,d]).size=2:=rfl
theorem J9 (c:UInt8) (l:List UInt8):(ByteArray.mk #[c])++(ByteArray.mk l.toArray)=ByteArray.mk (c::l).toArray:=lD [c] l
theorem kS (c:UInt8) (l:List UInt8):(ByteArray.mk l.toArray)++(ByteArray.mk #[c])=ByteArray.mk (l++[c]).toArray:=lD l [c]
theorem LF (c d:UInt8) (l:List UInt8):(ByteArray.mk l.toArray)++(ByteArray.mk #[c,d])=ByteArray.mk (l++[c,d]).toArray:=lD l [c,d]
end Go.Av
namespace Go.Proofs.YtmcjmafajkeecaaDoor.P
open Go Go.Av
set_option maxRecDepth 4000
set_option maxHeartbeats 4000000
theorem mR {n:Nat} (h:n<10):aH C0 41 [.int n] []=some (.i (.lit (.string ⟨(dgI n).toArray⟩)),[]):=by
 have hd:=qA (n:=n) (by omega) (by omega);have hn:n=0∨n=1∨n=2∨n=3∨n=4∨n=5∨n=6∨n=7∨n=8∨n=9:=by omega
 rw[aF rfl Tryd.func41 rfl rfl,hd]
 rcases hn with rfl|rfl|rfl|rfl|rfl|rfl|rfl|rfl|rfl|rfl<;>simp<;>rfl
theorem AKJ:aH C0 62 [.i (.agg [.bool false, .int 0])] []=some (.i (.lit (.string ⟨[48].toArray⟩)),[]):=by
 have h:=mR (n:=0) (by omega);have hd:dgI (0:Nat)=[48]:=by rw[qA (by omega) (by omega)];rfl
 rw[hd]at h;rw[aF rfl Tryd.func62 rfl rfl];simp at h;simp[h]
def ALB:List (List IV):=[[.lit (.string ⟨#[]⟩)],[.lit (.string ⟨#[99,111,108]⟩)],[.lit (.string ⟨#[118,97,108]⟩)],[.lit (.string ⟨(nmE 3).toArray⟩)],[.lit (.string ⟨(nmE 4).toArray⟩)],[.lit (.string ⟨(nmE 5).toArray⟩)],[.lit (.string ⟨(nmE 6).toArray⟩)],[.lit (.string ⟨(nmE 7).toArray⟩)],[.lit (.string ⟨(nmE 8).toArray⟩)],[.lit (.string ⟨(nmE 9).toArray⟩)],[.lit (.string ⟨(nmE 10).toArray⟩)],[.lit (.string ⟨(nmE 11).toArray⟩)]]
def ALA:List (List IV):=[[.lit (.string ⟨#[]⟩)],[.lit (.string ⟨(nmP 1).toArray⟩)],[.lit (.string ⟨(nmP 2).toArray⟩)],[.lit (.string ⟨(nmP 3).toArray⟩)],[.lit (.string ⟨(nmP 4).toArray⟩)],[.lit (.string ⟨(nmP 5).toArray⟩)],[.lit (.string ⟨(nmP 6).toArray⟩)],[.lit (.string ⟨(nmP 7).toArray⟩)],[.lit (.string ⟨(nmP 8).toArray⟩)]]
theorem NM:aH C0 63 [] []=some (.i (.isl ALB),[]):=by
 rw[aF rfl Tryd.func63 rfl rfl];simp[ALB,nmE]
theorem MM:aH C0 40 [] []=some (.i (.isl ALA),[]):=by
 rw[aF rfl Tryd.func40 rfl rfl];simp[ALA,nmP]
theorem ACJ {k:Int} (h0:3≤k) (h1:k≤11):gW ALB k.toNat=some [.lit (.string ⟨(nmE k).toArray⟩)]:=by
 have hk:k=3∨k=4∨k=5∨k=6∨k=7∨k=8∨k=9∨k=10∨k=11:=by omega
 rcases hk with rfl|rfl|rfl|rfl|rfl|rfl|rfl|rfl|rfl<;>rfl
theorem ACI {k:Int} (h0:1≤k) (h1:k≤8):gW ALA k.toNat=some [.lit (.string ⟨(nmP k).toArray⟩)]:=by
 have hk:k=1∨k=2∨k=3∨k=4∨k=5∨k=6∨k=7∨k=8:=by omega
 rcases hk with rfl|rfl|rfl|rfl|rfl|rfl|rfl|rfl<;>rfl
def STE (e:Ex) (i:Nat):AS :=
 { env:=[(0, .i (.agg [.int e.kind, .int e.col, .bool e.val.null, .int e.val.n, .isl (Ex.aA e.kids)])),(1, .own 0 0),(2, .i (.lit (.string ⟨#[]⟩))),(3, .i (.lit (.string ⟨(sE e i).toArray⟩))),(4, .int i),(6, .int e.kind),(7, .bool false),(13, .bool false),(28,jk i (.bool true))],
   st:=[some (.box [.int e.kind, .int e.col, .bool e.val.null, .int e.val.n, .i (.isl (Ex.aA e.kids))])] }
theorem QY:∀ e:Ex,e.tx→(txE e).length<10000000→aH C0 42 [.i (.agg e.cells)] []=some (.i (.lit (.string ⟨(txE e).toArray⟩)),[]):=by
 intro e
 induction e using Ex.ind with
 | h k c v ks ih =>
  intro ht hl;generalize he:Ex.mk k c v ks=e at *
  have hks:ks=e.kids:=by rw[← he];rfl
  subst hks;rw[aF rfl Tryd.func42 rfl rfl,Ex.aB];have hte:=BQ e
  rcases(Ex.kP e).1 ht with ⟨h1,h2,h3⟩|⟨h1,h2⟩|⟨h1,h2,h3⟩
  ·rw[if_pos h1]at hte;rw[hte];obtain⟨n,hn⟩:=yQ h2;have hc:=mR (n:=n) (by omega);have hs:=J9 35 (dgI n);rw[hte]at hl;simp only[zS]at hl;rw[hn]at hl ⊢;have hb:1+(dgI n).length≤9223372036854775807:=by omega
   generalize dgI n=m at *
   simp[h1,hc,hs,hb]
  ·rw[if_neg (by omega),if_pos h1]at hte;have hv:txV e.val=[48]:=by rw[h2];simp[txV];rw[qA (by omega) (by omega)];rfl
   rw[hv]at hte;rw[hte];have hc:=AKJ;simp[h1,h2,hc]
  ·rw[if_neg (by omega),if_neg (by omega)]at hte;have hfin:txE e=sE e e.kids.length++[41]:=by rw[hte];simp[sE]
   rw[hfin];have hnm:=ACJ h1 h2;have hns:=NM;have hnl:ALB.length=12:=rfl;have k1:¬ e.kind=1:=by omega
   have k2:¬ e.kind=2:=by omega
   have k3:0≤e.kind:=by omega
   have k4:e.kind<12:=by omega
   have hs0:=J9 40 (nmE e.kind)
   have hlen:∀ i,(sE e i).length<10000000:=by
    intro i;have h9:=uQ e.kids i;rw[hte]at hl;simp only[sE,zR,zS,zI]at hl ⊢;omega
   have hb0:1+(nmE e.kind).length≤9223372036854775807:=by have:=hlen 0;simp[sE]at this;omega
   generalize ALB=nms at *
   simp[k1,k2,k3,k4,hns,hnl,hnm,hs0,hb0];rw[aU (STE e) e.kids.length (by simp[STE,sE,oW,k1,k2])]
   ·rw[aD];have hs1:=kS 41 (sE e e.kids.length);have hb1:(sE e e.kids.length).length+1≤9223372036854775807:=by have:=hlen e.kids.length;omega
    simp only[STE];generalize sE e e.kids.length=m at *
    simp[hs1,hb1]
   ·intro i hi;have h4:=zX hi;have hm:=zT h4;have r2:=Ex.aS h4;have hsn:=aM h4;generalize e.kids[i]=a at h4 hm r2 hsn;have hnext:sE e (i+1)=(sE e i++[32])++txE a:=by unfold sE;rw[hsn,iG];simp
    have hcnt:=qG e.kids;have hkl:e.kids.length<10000000:=by rw[hte]at hl;simp only[zR,zS,zI]at hl;omega
    have hla:(txE a).length<10000000:=by
     have h9:=uQ e.kids (i+1);rw[hsn,iG]at h9;rw[hte]at hl;simp only[zR,zS,zI]at hl h9;omega
    have hk:=ih a hm (h3 a hm) hla;have hs1:=kS 32 (sE e i);have hs2:=lD (sE e i++[32]) (txE a);rw[← hnext]at hs2;have w2:IntKind.i64.wrap ((i:Int)+1)=i+1:=wrO;have hb1:(sE e i).length+1≤9223372036854775807:=by have:=hlen i;omega
    have hb2:(sE e i++[32]).length+(txE a).length≤9223372036854775807:=by have:=hlen i;simp only[zR,zS,zI];omega
    simp only[STE];generalize sE e (i+1)=m2 at *
    generalize sE e i++[32]=m3 at *
    generalize sE e i=m1 at *
    generalize txE a=m4 at *
    rw[Ex.aB a]at r2 hk;simp[hi,r2,hk,w2,hs1,hs2,hb1,hb2]
def SPC (p:Pn) (i:Nat):AS :=
 { env:=[(0, .i (.agg [.int p.kind, .int p.table, .isl (Ex.aA p.exprs), .isl (aI p.cols), .isl (Pn.aA p.kids)])),(1, .own 0 0),(2, .i (.lit (.string ⟨#[]⟩))),(3, .i (.lit (.string ⟨(sPC p i).toArray⟩))),(4, .int i),(5, .junk),(6, .junk),(15, .bool (p.kind == 1)),(26,jk i (.bool true)),(42, .junk),(58, .junk)],
   st:=[bxQ p] }
def SPX (p:Pn) (i:Nat):AS :=
 { env:=[(0, .i (.agg [.int p.kind, .int p.table, .isl (Ex.aA p.exprs), .isl (aI p.cols), .isl (Pn.aA p.kids)])),(1, .own 0 0),(2, .i (.lit (.string ⟨#[]⟩))),(3, .i (.lit (.string ⟨(sPX p i).toArray⟩))),(4, .int p.cols.length),(5, .int i),(6, .junk),(15, .bool (p.kind == 1)),(26, .bool false),(42,jk i (.bool true)),(58, .junk)],
   st:=[bxQ p] }
def SPK (p:Pn) (i:Nat):AS :=
 { env:=[(0, .i (.agg [.int p.kind, .int p.table, .isl (Ex.aA p.exprs), .isl (aI p.cols), .isl (Pn.aA p.kids)])),(1, .own 0 0),(2, .i (.lit (.string ⟨#[]⟩))),(3, .i (.lit (.string ⟨(sPK p i).toArray⟩))),(4, .int p.cols.length),(5, .int p.exprs.length),(6, .int i),(15, .bool (p.kind == 1)),(26, .bool false),(42, .bool false),(58,jk i (.bool true))],
   st:=[bxQ p] }
theorem UG {p:Pn} (ht:p.tx) (hl:(txP p).length<9000000)
 (ih:∀ a∈p.kids,(txP a).length<9000000→aH C0 19 [.i (.agg a.cells)] []=some (.i (.lit (.string ⟨(txP a).toArray⟩)),[])) :
 aH C0 19 [.i (.agg p.cells)] []=some (.i (.lit (.string ⟨(txP p).toArray⟩)),[]):=by
 obtain⟨⟨k1,k2⟩,k3,k4,k5,k6⟩:=(Pn.kP p).1 ht;have hfin:=AC0 p
 have hlp:(sPK p p.kids.length).length+1=(txP p).length:=by
  have:=congrArg List.length hfin;simp at this;omega
 have lX:(sPX p p.exprs.length).length≤(sPK p p.kids.length).length:=by simp[sPK]
 have lC:(sPC p p.cols.length).length≤(sPX p p.exprs.length).length:=by simp[sPX]
 have l1:(sP1 p).length≤(sPC p p.cols.length).length:=by simp[sPC]
 have l0:1+(nmP p.kind).length≤(sP1 p).length:=by simp[sP1];omega
 have hC:∀ i,(sPC p i).length≤(sPC p p.cols.length).length:=fun i=>by have:=QT p.cols i;simp[sPC];exact this
 have hX:∀ i,(sPX p i).length≤(sPX p p.exprs.length).length:=fun i=>by have:=uQ p.exprs i;simp[sPX];exact this
 have hK:∀ i,(sPK p i).length≤(sPK p p.kids.length).length:=fun i=>by have:=J5 p.kids i;simp[sPK];exact this
 have nC:p.cols.length≤(sPC p p.cols.length).length:=by have:=J6 p.cols;simp[sPC];omega
 have nX:p.exprs.length≤(sPX p p.exprs.length).length:=by have:=qG p.exprs;simp[sPX];omega
 have nK:p.kids.length≤(sPK p p.kids.length).length:=by have:=AU p.kids;simp[sPK];omega
 have hnm:=ACI k1 k2;have hns:=MM;have hnl:ALA.length=9:=rfl;have q3:0≤p.kind:=by omega
 have q4:p.kind<9:=by omega
 have hs0:=J9 40 (nmP p.kind);have hb0:1+(nmP p.kind).length≤9223372036854775807:=by omega
 have hC0:sPC p 0=sP1 p:=by simp[sPC,txC]
 have hX0:sPX p 0=sPC p p.cols.length:=by simp[sPX,oW]
 have hK0:sPK p 0=sPX p p.exprs.length:=by simp[sPK,F9]
 rw[hfin,aF rfl Tryd.func19 rfl rfl,Pn.aB];generalize ALA=nms at *
 by_cases h1:p.kind=1
 ·obtain⟨k7,k8⟩:=k3 h1;obtain⟨t,htt⟩:=yQ k7;have hai:=mR (n:=t) (by omega);have hs1:=kS 32 (40::nmP p.kind);have hs2:=lD ((40::nmP p.kind)++[32]) (dgI t);have hm1:sP1 p=(40::nmP p.kind++[32])++dgI t:=by simp[sP1,h1,htt]
  rw[← hm1]at hs2;have hb1:(40::nmP p.kind).length+1≤9223372036854775807:=by rw[zS];omega
  have hb2:(40::nmP p.kind++[32]).length+(dgI t).length≤9223372036854775807:=by rw[← List.length_append,← hm1];omega
  generalize 40::nmP p.kind++[32]=m3 at *
  generalize 40::nmP p.kind=m2 at *
  generalize nmP p.kind=m4 at *
  generalize dgI t=m5 at *
  generalize sP1 p=m1 at *
  simp[bxQ,h1,htt,hnm,hns,hnl,hs0,hb0,hs1,hs2,hb1,hb2,hai];rw[h1]at hnm;simp at hnm;simp[bxQ,h1,htt,hnm,hns,hnl,hs0,hb0,hs1,hs2,hb1,hb2,hai];rw[aU (SPC p) p.cols.length (by simp[SPC,bxQ,hC0,h1,htt])]
  ·rw[aD];simp only[SPC,bxQ];generalize sPC p p.cols.length=mc at *
   simp;rw[aU (SPX p) p.exprs.length (by simp[SPX,bxQ,hX0])]
   ·rw[aD];simp only[SPX,bxQ];generalize sPX p p.exprs.length=mx at *
    simp;rw[aU (SPK p) p.kids.length (by simp[SPK,bxQ,hK0])]
    ·rw[aD];have hs9:=kS 41 (sPK p p.kids.length);have hb9:(sPK p p.kids.length).length+1≤9223372036854775807:=by omega
     simp only[SPK,bxQ];generalize sPK p p.kids.length=mk at *
     simp[hb9,hs9]
    ·intro i hi;have h4:=zX hi;have hm:=zT h4;have r2:=Pn.aS h4;have hsn:=aM h4;generalize p.kids[i]=a at h4 hm r2 hsn;have hnext:sPK p (i+1)=(sPK p i++[32])++txP a:=by unfold sPK;rw[hsn,l9];simp
     have hl1:=hK i;have hl2:=hK (i+1);rw[hnext]at hl2;simp at hl2;have hk:=ih a hm (by omega);have hs1:=kS 32 (sPK p i);have hs2:=lD (sPK p i++[32]) (txP a);rw[← hnext]at hs2;have w2:IntKind.i64.wrap ((i:Int)+1)=i+1:=wrO;have hb1:(sPK p i).length+1≤9223372036854775807:=by omega
     have hb2:(sPK p i++[32]).length+(txP a).length≤9223372036854775807:=by simp only[zR,zS,zI];omega
     simp only[SPK,bxQ];generalize sPK p (i+1)=m2 at hs2 ⊢;generalize sPK p i++[32]=m3 at hs1 hs2 hb2 ⊢;generalize sPK p i=m1 at hs1 hb1 ⊢;generalize txP a=m4 at hk hs2 hb2 ⊢;rw[Pn.aB a]at r2 hk;simp[hi,r2,hk,w2,hs1,hs2,hb1,hb2]
   ·intro i hi;have h4:=zX hi;have hm:=zT h4;have r2:=Ex.aS h4;have hsn:=aM h4;generalize p.exprs[i]=a at h4 hm r2 hsn;have hnext:sPX p (i+1)=(sPX p i++[32])++txE a:=by unfold sPX;rw[hsn,iG];simp
    have hl1:=hX i;have hl2:=hX (i+1);rw[hnext]at hl2;simp at hl2;have hk:=QY a (k5 a hm) (by omega);have hs1:=kS 32 (sPX p i);have hs2:=lD (sPX p i++[32]) (txE a);rw[← hnext]at hs2;have w2:IntKind.i64.wrap ((i:Int)+1)=i+1:=wrO;have hb1:(sPX p i).length+1≤9223372036854775807:=by omega
    have hb2:(sPX p i++[32]).length+(txE a).length≤9223372036854775807:=by simp only[zR,zS,zI];omega
    simp only[SPX,bxQ];generalize sPX p (i+1)=m2 at hs2 ⊢;generalize sPX p i++[32]=m3 at hs1 hs2 hb2 ⊢;generalize sPX p i=m1 at hs1 hb1 ⊢;generalize txE a=m4 at hk hs2 hb2 ⊢;rw[Ex.aB a]at r2 hk;simp[hi,r2,hk,w2,hs1,hs2,hb1,hb2]
  ·intro i hi;have h4:=zX hi;have hm:=zT h4;have r2:=dA h4;have hsn:=aM h4;generalize p.cols[i]=a at h4 hm r2 hsn;obtain⟨a0,a1⟩:=k4 a hm;obtain⟨c,rfl⟩:=yQ a0;have hnext:sPC p (i+1)=(sPC p i++[32,35])++dgI c:=by unfold sPC;rw[hsn,nP];simp
   have hl1:=hC i;have hl2:=hC (i+1);rw[hnext]at hl2;simp at hl2;have hk:=mR (n:=c) (by omega);have hs1:=LF 32 35 (sPC p i);have hs2:=lD (sPC p i++[32,35]) (dgI c);rw[← hnext]at hs2;have w2:IntKind.i64.wrap ((i:Int)+1)=i+1:=wrO;have hb1:(sPC p i).length+2≤9223372036854775807:=by omega
   have hb2:(sPC p i++[32,35]).length+(dgI c).length≤9223372036854775807:=by simp only[zR,zS,zI];omega
   simp only[SPC,bxQ];generalize sPC p (i+1)=m2 at hs2 ⊢;generalize sPC p i++[32,35]=m3 at hs1 hs2 hb2 ⊢;generalize sPC p i=m1 at hs1 hb1 ⊢;generalize dgI (c:Int)=m4 at hk hs2 hb2 ⊢;simp[hi,r2,hk,w2,hs1,hs2,hb1,hb2]
 ·have hm1:sP1 p=40::nmP p.kind:=by simp[sP1,h1]
  rw[← hm1]at hs0;generalize nmP p.kind=m4 at *
  simp[bxQ,h1,q3,q4,hnm,hns,hnl,hs0,hb0];rw[aU (SPC p) p.cols.length (by simp[SPC,bxQ,hC0,h1])]
  ·rw[aD];simp only[SPC,bxQ];generalize sPC p p.cols.length=mc at *
   simp;rw[aU (SPX p) p.exprs.length (by simp[SPX,bxQ,hX0])]
   ·rw[aD];simp only[SPX,bxQ];generalize sPX p p.exprs.length=mx at *
    simp;rw[aU (SPK p) p.kids.length (by simp[SPK,bxQ,hK0])]
    ·rw[aD];have hs9:=kS 41 (sPK p p.kids.length);have hb9:(sPK p p.kids.length).length+1≤9223372036854775807:=by omega
     simp only[SPK,bxQ];generalize sPK p p.kids.length=mk at *
     simp[hb9,hs9]
    ·intro i hi;have h4:=zX hi;have hm:=zT h4;have r2:=Pn.aS h4;have hsn:=aM h4;generalize p.kids[i]=a at h4 hm r2 hsn;have hnext:sPK p (i+1)=(sPK p i++[32])++txP a:=by unfold sPK;rw[hsn,l9];simp
     have hl1:=hK i;have hl2:=hK (i+1);rw[hnext]at hl2;simp at hl2;have hk:=ih a hm (by omega);have hs1:=kS 32 (sPK p i);have hs2:=lD (sPK p i++[32]) (txP a);rw[← hnext]at hs2;have w2:IntKind.i64.wrap ((i:Int)+1)=i+1:=wrO;have hb1:(sPK p i).length+1≤9223372036854775807:=by omega
     have hb2:(sPK p i++[32]).length+(txP a).length≤9223372036854775807:=by simp only[zR,zS,zI];omega
     simp only[SPK,bxQ];generalize sPK p (i+1)=m2 at hs2 ⊢;generalize sPK p i++[32]=m3 at hs1 hs2 hb2 ⊢;generalize sPK p i=m1 at hs1 hb1 ⊢;generalize txP a=m4 at hk hs2 hb2 ⊢;rw[Pn.aB a]at r2 hk;simp[hi,r2,hk,w2,hs1,hs2,hb1,hb2]
   ·intro i hi;have h4:=zX hi;have hm:=zT h4;have r2:=Ex.aS h4;have hsn:=aM h4;generalize p.exprs[i]=a at h4 hm r2 hsn;have hnext:sPX p (i+1)=(sPX p i++[32])++txE a:=by unfold sPX;rw[hsn,iG];simp
    have hl1:=hX i;have hl2:=hX (i+1);rw[hnext]at hl2;simp at hl2;have hk:=QY a (k5 a hm) (by omega);have hs1:=kS 32 (sPX p i);have hs2:=lD (sPX p i++[32]) (txE a);rw[← hnext]at hs2;have w2:IntKind.i64.wrap ((i:Int)+1)=i+1:=wrO;have hb1:(sPX p i).length+1≤9223372036854775807:=by omega
    have hb2:(sPX p i++[32]).length+(txE a).length≤9223372036854775807:=by simp only[zR,zS,zI];omega
    simp only[SPX,bxQ];generalize sPX p (i+1)=m2 at hs2 ⊢;generalize sPX p i++[32]=m3 at hs1 hs2 hb2 ⊢;generalize sPX p i=m1 at hs1 hb1 ⊢;generalize txE a=m4 at hk hs2 hb2 ⊢;rw[Ex.aB a]at r2 hk;simp[hi,r2,hk,w2,hs1,hs2,hb1,hb2]
  ·intro i hi;have h4:=zX hi;have hm:=zT h4;have r2:=dA h4;have hsn:=aM h4;generalize p.cols[i]=a at h4 hm r2 hsn;obtain⟨a0,a1⟩:=k4 a hm;obtain⟨c,rfl⟩:=yQ a0;have hnext:sPC p (i+1)=(sPC p i++[32,35])++dgI c:=by unfold sPC;rw[hsn,nP];simp
   have hl1:=hC i;have hl2:=hC (i+1);rw[hnext]at hl2;simp at hl2;have hk:=mR (n:=c) (by omega);have hs1:=LF 32 35 (sPC p i);have hs2:=lD (sPC p i++[32,35]) (dgI c);rw[← hnext]at hs2;have w2:IntKind.i64.wrap ((i:Int)+1)=i+1:=wrO;have hb1:(sPC p i).length+2≤9223372036854775807:=by omega
   have hb2:(sPC p i++[32,35]).length+(dgI c).length≤9223372036854775807:=by simp only[zR,zS,zI];omega
   simp only[SPC,bxQ];generalize sPC p (i+1)=m2 at hs2 ⊢;generalize sPC p i++[32,35]=m3 at hs1 hs2 hb2 ⊢;generalize sPC p i=m1 at hs1 hb1 ⊢;generalize dgI (c:Int)=m4 at hk hs2 hb2 ⊢;simp[hi,r2,hk,w2,hs1,hs2,hb1,hb2]
theorem AC9:∀ p:Pn,p.tx→(txP p).length<9000000→aH C0 19 [.i (.agg p.cells)] []=some (.i (.lit (.string ⟨(txP p).toArray⟩)),[]):=by
 intro p
 induction p using Pn.ind with
 | h k t es cs ks ih =>
  intro ht hl;exact UG ht hl fun a ha=>ih a ha (((Pn.kP _).1 ht).2.2.2.2 a ha)
set_option maxHeartbeats 2000000
def only (k t:Int) (es:List Ex) (cs:List Int) (ks:List Pn):Bool:=decide (1≤k∧k≤8) && (decide ((ks.length:Int)=gX k) && (decide ((es.length:Int)=if k=3 then(es.length:Int)else dN k) && ((decide (t=0) || decide (k=1)) && (decide (cs=[]) || decide (k=8)))))
theorem dY (k t:Int) (es:List Ex) (cs:List Int) (ks:List Pn):aH C0 58 [.i (.agg [.int k, .int t, .isl (Ex.aA es), .isl (aI cs), .isl (Pn.aA ks)])] []=some (.bool (only k t es cs ks),[]):=by
 rw[aF rfl Tryd.func58 rfl rfl]
 rcases pG k with rfl|rfl|rfl|rfl|rfl|rfl|rfl|rfl|h
 case inr.inr.inr.inr.inr.inr.inr.inr =>
  have h1:¬ (1≤k∧k≤8):=by omega
  simp[h.1,h.2.1,h.2.2.1,h.2.2.2.1,h.2.2.2.2.1,h.2.2.2.2.2.1,h1,only]
 case inr.inr.inl =>
  by_cases c1:(ks.length:Int)=1
  case neg=>simp[c1,only]
  by_cases c3:t=0
  case neg=>simp[c1,c3,only]
  by_cases c5:cs=[]<;>simp[c1,c3,c5,only,aI]
 case inl =>
  by_cases c1:ks=[]
  case neg=>simp[c1,only]
  by_cases c2:es=[]
  case neg=>simp[c1,c2,only]
  by_cases c3:t=0<;>by_cases c5:cs=[]<;>simp[c1,c2,c3,c5,only,aI,Ex.aA,Pn.aA]
 case inr.inl =>
  by_cases c1:(ks.length:Int)=1
  case neg=>simp[c1,only]
  by_cases c2:(es.length:Int)=1
  case neg=>simp[c1,c2,only]
  by_cases c3:t=0
  case neg=>simp[c1,c2,c3,only]
  by_cases c5:cs=[]<;>simp[c1,c2,c3,c5,only,aI]
 case inr.inr.inr.inl =>
  by_cases c1:(ks.length:Int)=2
  case neg=>simp[c1,only]
  by_cases c2:(es.length:Int)=1
  case neg=>simp[c1,c2,only]
  by_cases c3:t=0
  case neg=>simp[c1,c2,c3,only]
  by_cases c5:cs=[]<;>simp[c1,c2,c3,c5,only,aI]
 case inr.inr.inr.inr.inl =>
  by_cases c1:(ks.length:Int)=2
  case neg=>simp[c1,only]
  by_cases c2:(es.length:Int)=1
  case neg=>simp[c1,c2,only]
  by_cases c3:t=0
  case neg=>simp[c1,c2,c3,only]
  by_cases c5:cs=[]<;>simp[c1,c2,c3,c5,only,aI]
 case inr.inr.inr.inr.inr.inl =>
  by_cases c1:(ks.length:Int)=2
  case neg=>simp[c1,only]
  by_cases c2:es=[]
  case neg=>simp[c1,c2,only]
  by_cases c3:t=0
  case neg=>simp[c1,c2,c3,only]
  by_cases c5:cs=[]<;>simp[c1,c2,c3,c5,only,aI,Ex.aA]
 case inr.inr.inr.inr.inr.inr.inl =>
  by_cases c1:(ks.length:Int)=1
  case neg=>simp[c1,only]
  by_cases c2:es=[]
  case neg=>simp[c1,c2,only]
  by_cases c3:t=0
  case neg=>simp[c1,c2,c3,only]
  by_cases c5:cs=[]<;>simp[c1,c2,c3,c5,only,aI,Ex.aA]
 case inr.inr.inr.inr.inr.inr.inr.inl =>
  by_cases c1:(ks.length:Int)=1
  case neg=>simp[c1,only]
  by_cases c2:es=[]
  case neg=>simp[c1,c2,only]
  by_cases c3:t=0
  case neg=>simp[c1,c2,c3,only]
  by_cases c5:cs=[]<;>simp[c1,c2,c3,c5,only,aI,Ex.aA]
theorem AGJ {cs:List Int} {w:Int}:∀ {i:Nat},(∀ k,k<i→∃ x,(cs.zip (-1::cs))[k]?=some x∧x∈cs.zip (-1::cs)∧decide (x.2<x.1∧x.1<w)=true)→-1≤pv cs i∧(i≠0→0≤pv cs i)
 | 0,_=>by simp[pv]
 | i+1,h=>by
  obtain⟨x,h3,_,h4⟩:=h i (by omega);obtain⟨c1,c2⟩:=uI h3;rw[YR c1];have hb:x.2<x.1∧x.1<w:=by simpa using h4
  have:=AGJ (i:=i) fun k hk=>h k (by omega)
  omega
def CX (cs:List Int) (w:Int) (i:Nat):AS :=
 { env:=[(0, .i (.isl (aI cs))),(1, .int w),(4, .bool false),(5, .int i),(9,jk i (.bool true)),(35,jk i (.bool false))],st:=[] }
theorem KY (cs:List Int) (w:Int) (hl:cs.length<9223372036854775808) (hw:0≤w∧w≤6):aH C0 61 [.i (.isl (aI cs)), .int w] []=some (.bool (nH w cs),[]):=by
 rw[aF rfl Tryd.func61 rfl rfl];have w1:IntKind.i64.wrap (w-1)=w-1:=wrO;simp;obtain⟨j,h1,h2⟩:=jS (fun x:Int×Int=>decide (x.2<x.1∧x.1<w)) (cs.zip (-1::cs));rw[aU (CX cs w) j (by simp[CX])]
 ·rw[aD]
  rcases h2 with ⟨hj,ha⟩|⟨x,h3,_,h4,ha⟩
  ·rw[TB]at hj;have ha:nH w cs=true:=ha;simp[CX,hj,ha]
  ·obtain⟨c1,c2⟩:=uI h3;have r1:=(zW.1 c1).1;have r2:=dA c1;have hb:¬ (x.2<x.1∧x.1<w):=by simpa using h4
   have ha:nH w cs=false:=ha;have hp:=AGJ (i:=j) h1;by_cases hin:0≤x.1∧x.1≤w-1
   ·have hj:j≠0:=fun h=>by subst h;simp[pv]at c2;omega
    obtain⟨j,rfl⟩:∃ i,j=i+1:=⟨j-1,by omega⟩
    have q1:cs[j]?=some x.2:=by
     have:pv cs (j+1)=x.2:=c2;simp only[pv,zA4]at this;rw[zX (by omega)]at this ⊢;simpa using this
    have q2:=dA q1;have w4:IntKind.i64.wrap ((j:Int)+1-1)=j:=by rw[wrO];omega
    have w5:IntKind.i64.wrap ((j:Int))=j:=by rw[wrO]
    simp[CX,r1,r2,w1,hin,ha,q2,w4,w5,show(0:Int)<j+1 by omega,show x.1≤x.2 by omega,show(0:Int)≤(j:Int)+1 by omega,show j<cs.length by omega,show((j:Int)+1<cs.length)by omega]
   ·simp[CX,r1,r2,w1,hin,ha]
 ·intro i hi;obtain⟨x,h3,_,h4⟩:=h1 i hi;obtain⟨c1,c2⟩:=uI h3;have r1:=(zW.1 c1).1;have r2:=dA c1;have hb:x.2<x.1∧x.1<w:=by simpa using h4
  have hp:=AGJ (i:=i) fun k hk=>h1 k (by omega)
  have hin:0≤x.1∧x.1≤w-1:=by omega
  have w2:IntKind.i64.wrap ((i:Int)+1)=i+1:=wrO;by_cases h0:i=0
  ·subst h0;simp[CX,r1,r2,w1,hin,dC]
  ·obtain⟨i,rfl⟩:∃ j,i=j+1:=⟨i-1,by omega⟩
   have q1:cs[i]?=some x.2:=by
    have:pv cs (i+1)=x.2:=c2;simp only[pv,zA4]at this;rw[zX (by omega)]at this ⊢;simpa using this
   have q2:=dA q1;have w5:IntKind.i64.wrap ((i:Int))=i:=by rw[wrO]
   have w2':IntKind.i64.wrap ((i:Int)+1+1)=i+1+1:=wrO;simp[CX,r1,r2,w1,hin,q2,w5,w2',show(0:Int)<i+1 by omega,show ¬ x.1≤x.2 by omega,show(0:Int)≤(i:Int)+1 by omega,show i<cs.length by omega,show((i:Int)+1<cs.length)by omega]
def pW (es:List Ex) (w:Int):Int:=if es.all (Ex.ok w)=true∧es.length≤6 then(es.length:Int)else 0
def QX (es:List Ex) (w:Int) (i:Nat):AS :=
 { env:=[(0, .i (.isl (Ex.aA es))),(1, .int w),(4, .int 0),(5, .int i),(9,jk i (.bool true)),(18,jk i (.bool false)),(21, .junk)],st:=[] }
theorem CW (es:List Ex) (w:Int) (hl:es.length<9223372036854775808):aH C0 60 [.i (.isl (Ex.aA es)), .int w] []=some (.int (pW es w),[]):=by
 rw[aF rfl Tryd.func60 rfl rfl];simp;obtain⟨j,h1,h2⟩:=jS (Ex.ok w) es;rw[aU (QX es w) j (by simp[QX])]
 ·rw[aD]
  rcases h2 with ⟨hj,hall⟩|⟨x,h3,_,h5,hall⟩
  ·by_cases h6:es.length≤6
   ·have hq:pW es w=es.length:=if_pos ⟨hall,h6⟩;simp[QX,hj,hq,show ¬ (6:Int)<es.length by omega]
   ·have hq:pW es w=0:=if_neg fun h=>h6 h.2
    simp[QX,hj,hq,show(6:Int)<es.length by omega]
  ·have r1:=(zW.1 h3).1;have r2:=Ex.aS h3;have r3:=LQ w x;rw[h5]at r3;rw[Ex.aB]at r2 r3;have hq:pW es w=0:=if_neg fun h=>by rw[hall]at h;simp at h
   simp[QX,r1,r2,r3,hq]
 ·intro i hi;obtain⟨x,h3,_,h5⟩:=h1 i hi;have r1:=(zW.1 h3).1;have r2:=Ex.aS h3;have r3:=LQ w x;rw[h5]at r3;rw[Ex.aB]at r2 r3;have w2:IntKind.i64.wrap ((i:Int)+1)=i+1:=wrO;simp[QX,r1,r2,r3,w2]
def UX (ws:List Int) (i:Nat):AS :=
 { env:=[(0, .i (.isl (aI ws))),(2, .bool false),(3, .int i),(7,jk i (.bool true)),(15,jk i (.bool false))],st:=[] }
theorem BR (ws:List Int) (hl:ws.length<9223372036854775808):aH C0 38 [.i (.isl (aI ws))] []=some (.bool (KM ws),[]):=by
 rw[aF rfl Tryd.func38 rfl rfl];simp;obtain⟨j,h1',h2⟩:=jS cB ws;rw[aU (UX ws) j (by simp[UX])]
 ·rw[aD]
  rcases h2 with ⟨hj,ha⟩|⟨x,h3,_,h5,ha⟩
  ·by_cases h4:1≤ws.length∧ws.length≤4
   ·simp[UX,hj,KM,h4,ha,show(1:Int)≤ws.length∧(ws.length:Int)≤4 by omega]
   ·simp[UX,hj,KM,h4,ha,show ¬ ((1:Int)≤ws.length∧(ws.length:Int)≤4)by omega]
  ·have r1:=(zW.1 h3).1;have r2:=dA h3;have h5:¬ (1≤x∧x≤6):=by simpa [cB]using h5
   simp[UX,r1,r2,h5,KM,ha]
 ·intro i hi;obtain⟨x,h3,_,h5⟩:=h1' i hi;have r1:=(zW.1 h3).1;have r2:=dA h3;have h5:1≤x∧x≤6:=by simpa [cB]using h5
  have w2:IntKind.i64.wrap ((i:Int)+1)=i+1:=wrO;simp[UX,r1,r2,h5,w2]
theorem AC5 {ws:List Int} {k t:Int} {es:List Ex} {cs:List Int} {ks:List Pn} {lv:Nat} (h:¬ (only k t es cs ks=true∧(ks=[]∨lv≠0))):aH C0 39 [.i (.agg [.int k, .int t, .isl (Ex.aA es), .isl (aI cs), .isl (Pn.aA ks)]), .i (.isl (aI ws)), .int lv] []=some (.int 0,[]):=by
 rw[aF rfl Tryd.func39 rfl rfl];have ho:=dY k t es cs ks
 cases hq:only k t es cs ks with
 | false=>rw[hq]at ho;simp[ho]
 | true =>
  rw[hq]at ho;by_cases hk:ks=[]
  ·exact absurd ⟨hq, .inl hk⟩ h
  by_cases hl:lv=0
  ·have:0<ks.length:=y9.2 hk;subst hl;simp[ho,hk,this]
  ·exact absurd ⟨hq, .inr hl⟩ h
theorem UE {ws:List Int} {lv:Nat} {t:Int} (ho:only 1 t [] [] []=true) (hw:ws.length<1000000000):aH C0 39 [.i (.agg [.int 1, .int t, .isl (Ex.aA []), .isl (aI []), .isl (Pn.aA [])]), .i (.isl (aI ws)), .int lv] []=some (.int (if 0≤t then(ws[t.toNat]?).getD 0 else 0),[]):=by
 rw[aF rfl Tryd.func39 rfl rfl];have hf:=dY 1 t [] [] [];rw[ho]at hf;have w1:IntKind.i64.wrap ((ws.length:Int)-1)=ws.length-1:=wrO;simp only[Ex.aA,Pn.aA,aI]at hf ⊢;simp[hf,w1];rw[aD];by_cases h0:0≤t
 case neg=>simp[h0,w1]
 cases hx:ws[t.toNat]? with
 | none =>
  have:=List.getElem?_eq_none_iff.1 hx;simp[h0,w1,show ¬ t≤ws.length-1 by omega]
 | some x =>
  have r1:=(zW.1 hx).1;have r2:=dA hx;simp[h0,w1,show t≤ws.length-1 by omega,show t<ws.length by omega,r2]
theorem UD {ws:List Int} {lv:Nat} {a:Pn} {va:Int} {e:Ex} (ho:only 2 0 [e] [] [a]=true) (hl:lv≠0) (hl8:lv≤8) (ha:aH C0 39 [.i (.agg a.cells), .i (.isl (aI ws)), .int (lv-1:Nat)] []=some (.int va,[])) (ra:0≤va∧va≤6):aH C0 39 [.i (.agg [.int 2, .int 0, .isl (Ex.aA [e]), .isl (aI []), .isl (Pn.aA [a])]), .i (.isl (aI ws)), .int lv] []=some (.int (if va=0 then 0 else if e.ok va=true then va else 0),[]):=by
 rw[aF rfl Tryd.func39 rfl rfl];have hf:=dY 2 0 [e] [] [a];rw[ho]at hf;have c3':¬ (lv:Int)=0:=by omega
 have w1:IntKind.i64.wrap ((lv:Int)-1)=(lv-1:Nat):=by rw[wrO];omega
 have w2:IntKind.i64.wrap (1:Int)=1:=dC;have w3:IntKind.i64.wrap (2:Int)=2:=wrO;have r0:gW [a.cells] 0=some a.cells:=rfl;simp only[Pn.aA,aI,Ex.aA]at hf ⊢;have q0:gW [e.cells] 0=some e.cells:=rfl;have qe:=LQ (va) e;rw[Ex.aB e]at q0 qe hf ⊢;rw[Pn.aB a]at ha r0 hf ⊢;simp[hf,hl,c3'];rw[aD];by_cases z1:va=0
 case pos=>simp[w1,ha,r0,z1]
 simp[w1,w2,ha,r0,z1];rw[aD]
 cases hv:e.ok va<;>rw[hv]at qe<;>simp[z1,q0,qe]
theorem GM {ws:List Int} {lv:Nat} {a:Pn} {va:Int} {es:List Ex} (ho:only 3 0 es [] [a]=true) (hl:lv≠0) (hl8:lv≤8) (ha:aH C0 39 [.i (.agg a.cells), .i (.isl (aI ws)), .int (lv-1:Nat)] []=some (.int va,[])) (ra:0≤va∧va≤6) (he:es.length<9223372036854775808):aH C0 39 [.i (.agg [.int 3, .int 0, .isl (Ex.aA es), .isl (aI []), .isl (Pn.aA [a])]), .i (.isl (aI ws)), .int lv] []=some (.int (if va=0 then 0 else pW es va),[]):=by
 rw[aF rfl Tryd.func39 rfl rfl];have hf:=dY 3 0 es [] [a];rw[ho]at hf;have c3':¬ (lv:Int)=0:=by omega
 have w1:IntKind.i64.wrap ((lv:Int)-1)=(lv-1:Nat):=by rw[wrO];omega
 have w2:IntKind.i64.wrap (1:Int)=1:=dC;have w3:IntKind.i64.wrap (2:Int)=2:=wrO;have r0:gW [a.cells] 0=some a.cells:=rfl;simp only[Pn.aA,aI,Ex.aA]at hf ⊢;rw[Pn.aB a]at ha r0 hf ⊢;simp[hf,hl,c3'];rw[aD];by_cases z1:va=0
 case pos=>simp[w1,ha,r0,z1]
 simp[w1,w2,ha,r0,z1];rw[aD];have hp:=CW es va he;simp[z1,hp]
theorem UC {ws:List Int} {lv:Nat} {a:Pn} {va:Int} {b:Pn} {vb:Int} {e:Ex} (ho:only 4 0 [e] [] [a,b]=true) (hl:lv≠0) (hl8:lv≤8) (ha:aH C0 39 [.i (.agg a.cells), .i (.isl (aI ws)), .int (lv-1:Nat)] []=some (.int va,[])) (ra:0≤va∧va≤6) (hb:aH C0 39 [.i (.agg b.cells), .i (.isl (aI ws)), .int (lv-1:Nat)] []=some (.int vb,[])) (rb:0≤vb∧vb≤6):aH C0 39 [.i (.agg [.int 4, .int 0, .isl (Ex.aA [e]), .isl (aI []), .isl (Pn.aA [a,b])]), .i (.isl (aI ws)), .int lv] []=some (.int (if va=0∨vb=0 then 0 else if va+vb≤6∧e.ok (va+vb)=true then va+vb else 0),[]):=by
 rw[aF rfl Tryd.func39 rfl rfl];have hf:=dY 4 0 [e] [] [a,b];rw[ho]at hf;have c3':¬ (lv:Int)=0:=by omega
 have w1:IntKind.i64.wrap ((lv:Int)-1)=(lv-1:Nat):=by rw[wrO];omega
 have w2:IntKind.i64.wrap (1:Int)=1:=dC;have w3:IntKind.i64.wrap (2:Int)=2:=wrO;have r0:gW [a.cells,b.cells] 0=some a.cells:=rfl;have r1:gW [a.cells,b.cells] 1=some b.cells:=rfl;simp only[Pn.aA,aI,Ex.aA]at hf ⊢;have q0:gW [e.cells] 0=some e.cells:=rfl;have qe:=LQ (va+vb) e;rw[Ex.aB e]at q0 qe hf ⊢;rw[Pn.aB a]at ha r0 hf ⊢;rw[Pn.aB a]at r1;rw[Pn.aB b]at hb r0 r1 hf ⊢;simp[hf,hl,c3'];rw[aD];by_cases z1:va=0
 case pos=>simp[w1,ha,r0,z1]
 simp[w1,w2,ha,r0,z1];rw[aD];by_cases z2:vb=0
 case pos=>simp[w1,hb,r1,z2]
 simp[w1,hb,r1,z1,z2,w2,w3];rw[aD];have w4:IntKind.i64.wrap (va+vb)=va+vb:=wrO;by_cases h6:va+vb≤6
 ·cases hv:e.ok (va+vb)<;>rw[hv]at qe<;>simp[z1,z2,q0,qe,w4,h6]
 ·simp[z1,z2,w4,h6]
theorem UB {ws:List Int} {lv:Nat} {a:Pn} {va:Int} {b:Pn} {vb:Int} {e:Ex} (ho:only 5 0 [e] [] [a,b]=true) (hl:lv≠0) (hl8:lv≤8) (ha:aH C0 39 [.i (.agg a.cells), .i (.isl (aI ws)), .int (lv-1:Nat)] []=some (.int va,[])) (ra:0≤va∧va≤6) (hb:aH C0 39 [.i (.agg b.cells), .i (.isl (aI ws)), .int (lv-1:Nat)] []=some (.int vb,[])) (rb:0≤vb∧vb≤6):aH C0 39 [.i (.agg [.int 5, .int 0, .isl (Ex.aA [e]), .isl (aI []), .isl (Pn.aA [a,b])]), .i (.isl (aI ws)), .int lv] []=some (.int (if va=0∨vb=0 then 0 else if va+vb≤6∧e.ok (va+vb)=true then va+vb else 0),[]):=by
 rw[aF rfl Tryd.func39 rfl rfl];have hf:=dY 5 0 [e] [] [a,b];rw[ho]at hf;have c3':¬ (lv:Int)=0:=by omega
 have w1:IntKind.i64.wrap ((lv:Int)-1)=(lv-1:Nat):=by rw[wrO];omega
 have w2:IntKind.i64.wrap (1:Int)=1:=dC;have w3:IntKind.i64.wrap (2:Int)=2:=wrO;have r0:gW [a.cells,b.cells] 0=some a.cells:=rfl;have r1:gW [a.cells,b.cells] 1=some b.cells:=rfl;simp only[Pn.aA,aI,Ex.aA]at hf ⊢;have q0:gW [e.cells] 0=some e.cells:=rfl;have qe:=LQ (va+vb) e;rw[Ex.aB e]at q0 qe hf ⊢;rw[Pn.aB a]at ha r0 hf ⊢;rw[Pn.aB a]at r1;rw[Pn.aB b]at hb r0 r1 hf ⊢;simp[hf,hl,c3'];rw[aD];by_cases z1:va=0
 case pos=>simp[w1,ha,r0,z1]
 simp[w1,w2,ha,r0,z1];rw[aD];by_cases z2:vb=0
 case pos=>simp[w1,hb,r1,z2]
 simp[w1,hb,r1,z1,z2,w2,w3];rw[aD];have w4:IntKind.i64.wrap (va+vb)=va+vb:=wrO;by_cases h6:va+vb≤6
 ·cases hv:e.ok (va+vb)<;>rw[hv]at qe<;>simp[z1,z2,q0,qe,w4,h6]
 ·simp[z1,z2,w4,h6]
theorem UA {ws:List Int} {lv:Nat} {a:Pn} {va:Int} {b:Pn} {vb:Int} (ho:only 6 0 [] [] [a,b]=true) (hl:lv≠0) (hl8:lv≤8) (ha:aH C0 39 [.i (.agg a.cells), .i (.isl (aI ws)), .int (lv-1:Nat)] []=some (.int va,[])) (ra:0≤va∧va≤6) (hb:aH C0 39 [.i (.agg b.cells), .i (.isl (aI ws)), .int (lv-1:Nat)] []=some (.int vb,[])) (rb:0≤vb∧vb≤6):aH C0 39 [.i (.agg [.int 6, .int 0, .isl (Ex.aA []), .isl (aI []), .isl (Pn.aA [a,b])]), .i (.isl (aI ws)), .int lv] []=some (.int (if va=0∨vb=0 then 0 else if va=vb then va else 0),[]):=by
 rw[aF rfl Tryd.func39 rfl rfl];have hf:=dY 6 0 [] [] [a,b];rw[ho]at hf;have c3':¬ (lv:Int)=0:=by omega
 have w1:IntKind.i64.wrap ((lv:Int)-1)=(lv-1:Nat):=by rw[wrO];omega
 have w2:IntKind.i64.wrap (1:Int)=1:=dC;have w3:IntKind.i64.wrap (2:Int)=2:=wrO;have r0:gW [a.cells,b.cells] 0=some a.cells:=rfl;have r1:gW [a.cells,b.cells] 1=some b.cells:=rfl;simp only[Pn.aA,aI,Ex.aA]at hf ⊢;rw[Pn.aB a]at ha r0 hf ⊢;rw[Pn.aB a]at r1;rw[Pn.aB b]at hb r0 r1 hf ⊢;simp[hf,hl,c3'];rw[aD];by_cases z1:va=0
 case pos=>simp[w1,ha,r0,z1]
 simp[w1,w2,ha,r0,z1];rw[aD];by_cases z2:vb=0
 case pos=>simp[w1,hb,r1,z2]
 simp[w1,hb,r1,z1,z2,w2,w3];rw[aD];by_cases h6:va=vb<;>simp[z1,z2,h6]
theorem U9 {ws:List Int} {lv:Nat} {a:Pn} {va:Int} (ho:only 7 0 [] [] [a]=true) (hl:lv≠0) (hl8:lv≤8) (ha:aH C0 39 [.i (.agg a.cells), .i (.isl (aI ws)), .int (lv-1:Nat)] []=some (.int va,[])) (ra:0≤va∧va≤6):aH C0 39 [.i (.agg [.int 7, .int 0, .isl (Ex.aA []), .isl (aI []), .isl (Pn.aA [a])]), .i (.isl (aI ws)), .int lv] []=some (.int (if va=0 then 0 else va),[]):=by
 rw[aF rfl Tryd.func39 rfl rfl];have hf:=dY 7 0 [] [] [a];rw[ho]at hf;have c3':¬ (lv:Int)=0:=by omega
 have w1:IntKind.i64.wrap ((lv:Int)-1)=(lv-1:Nat):=by rw[wrO];omega
 have w2:IntKind.i64.wrap (1:Int)=1:=dC;have w3:IntKind.i64.wrap (2:Int)=2:=wrO;have r0:gW [a.cells] 0=some a.cells:=rfl;simp only[Pn.aA,aI,Ex.aA]at hf ⊢;rw[Pn.aB a]at ha r0 hf ⊢;simp[hf,hl,c3'];rw[aD];by_cases z1:va=0
 case pos=>simp[w1,ha,r0,z1]
 simp[w1,w2,ha,r0,z1];rw[aD];simp[z1]
theorem U8 {ws:List Int} {lv:Nat} {a:Pn} {va:Int} {cs:List Int} (ho:only 8 0 [] cs [a]=true) (hl:lv≠0) (hl8:lv≤8) (ha:aH C0 39 [.i (.agg a.cells), .i (.isl (aI ws)), .int (lv-1:Nat)] []=some (.int va,[])) (ra:0≤va∧va≤6) (hc:cs.length<9223372036854775808):aH C0 39 [.i (.agg [.int 8, .int 0, .isl (Ex.aA []), .isl (aI cs), .isl (Pn.aA [a])]), .i (.isl (aI ws)), .int lv] []=some (.int (if va=0 then 0 else if cs.length<6∧nH va cs=true then(cs.length:Int)+1 else 0),[]):=by
 rw[aF rfl Tryd.func39 rfl rfl];have hf:=dY 8 0 [] cs [a];rw[ho]at hf;have c3':¬ (lv:Int)=0:=by omega
 have w1:IntKind.i64.wrap ((lv:Int)-1)=(lv-1:Nat):=by rw[wrO];omega
 have w2:IntKind.i64.wrap (1:Int)=1:=dC;have w3:IntKind.i64.wrap (2:Int)=2:=wrO;have r0:gW [a.cells] 0=some a.cells:=rfl;simp only[Pn.aA,aI,Ex.aA]at hf ⊢;rw[Pn.aB a]at ha r0 hf ⊢;simp[hf,hl,c3'];rw[aD];by_cases z1:va=0
 case pos=>simp[w1,ha,r0,z1]
 simp[w1,w2,ha,r0,z1];rw[aD];have hp:=KY cs va hc ra;by_cases h6:cs.length<6
 ·have w5:IntKind.i64.wrap ((cs.length:Int)+1)=cs.length+1:=wrO
  cases hv:nH va cs<;>rw[hv]at hp<;>simp[z1,hp,h6,show(cs.length:Int)<6 by omega,w5]
 ·cases hv:nH va cs<;>rw[hv]at hp<;>simp[z1,hp,h6,show ¬ (cs.length:Int)<6 by omega]
theorem RF (k t:Int) (es:List Ex) (cs:List Int) (ks:List Pn):only k t es cs ks=true↔((1≤k∧k≤8)∧(ks.length:Int)=gX k∧((es.length:Int)=if k=3 then(es.length:Int)else dN k)∧(t=0∨k=1)∧(cs=[]∨k=8)):=by
 unfold only;simp only[zU,xU,zL]
theorem nQ {ws:List Int} (hw:∀ w∈ws,0≤w∧w≤6) (hwl:ws.length<1000000000):∀ (p:Pn),p.lim→∀ (lv:Nat),lv≤8→aH C0 39 [.i (.agg p.cells), .i (.isl (aI ws)), .int lv] []=some (.int (p.wd ws lv),[]):=by
 intro p
 induction p using Pn.ind with
 | h k t es cs ks ih =>
  intro hp lv hlv;have hp:=(Pn.DR _).1 hp;simp only[Pn.cK,Pn.fA,Pn.jF]at hp;obtain⟨he,hc,-,hks⟩:=hp;rw[Pn.bD];have hr:=fun a=>Pn.kR hw a (lv-1)
  by_cases ho:only k t es cs ks=true∧(ks=[]∨lv≠0)
  case neg =>
   rw[AC5 ho,Pn.AFP];intro hh;apply ho;refine⟨?_,hh.2⟩;have h:=(kZ k t es cs ks).1 hh.1;rw[RF];refine⟨?_,h.1,?_,h.2.2.1.symm,h.2.2.2.symm⟩
   ·rcases D8 k with h1|h1|h1|h1<;>omega
   ·by_cases h3:k=3
    ·rw[if_pos h3]
    ·have:=h.2.1;rw[if_neg fun h=>h3 h.1]at this;rw[if_neg h3];exact this
  have hoo:=ho.1;have hq:=(RF k t es cs ks).1 ho.1;obtain⟨h0,h1,h2,h3,h4⟩:=hq;have h5:=ho.2;by_cases hd:Pn.headOk (.mk k t es cs ks)=true
  case neg =>
   rw[Pn.AFP fun h=>hd h.1]
   have hk3:k=3∧¬ cB es.length=true∧(es.length:Int)≠1:=by
    by_cases hk:k=3
    ·refine⟨hk,?_,?_⟩
     ·intro hv;exact hd ((kZ k t es cs ks).2 ⟨h1,by rw[if_pos ⟨hk,hv⟩],h3.symm,h4.symm⟩)
     ·intro hv;have:cB es.length=true:=by rw[hv];decide
      exact hd ((kZ k t es cs ks).2 ⟨h1,by rw[if_pos ⟨hk,this⟩],h3.symm,h4.symm⟩)
    ·exact absurd ((kZ k t es cs ks).2 ⟨h1,by rw[if_neg fun h=>hk h.1];rwa [if_neg hk]at h2,h3.symm,h4.symm⟩) hd
   obtain⟨rfl,hv,hv1⟩:=hk3;obtain⟨a,rfl⟩:=kL (by simpa using h1);obtain rfl:cs=[]:=by simpa using h4
   obtain rfl:t=0:=by simpa using h3
   have hl:lv≠0:=by simpa using h5
   rw[GM hoo hl hlv (ih a (by simp) (hks a (by simp)) (lv-1) (by omega)) (hr a) he]
   have:pW es (a.wd ws (lv-1))=0:=by
    unfold pW;split
    ·rename_i h;have:¬ (1≤(es.length:Int)∧(es.length:Int)≤6):=by simpa [cB]using hv
     omega
    ·rfl
   simp[this]
  have hx:=Pn.sZ ws lv (.mk k t es cs ks);rw[if_pos (by simpa using (⟨hd,h5⟩:_∧_))]at hx;simp only[Pn.eT,Pn.jB,Pn.cK,Pn.fA,Pn.jF]at hx;rw[hx]
  rcases pG k with rfl|rfl|rfl|rfl|rfl|rfl|rfl|rfl|h
  ·obtain rfl:=gF (by simpa using h1);obtain rfl:es=[]:=gF (by simpa using h2);obtain rfl:cs=[]:=by simpa using h4
   exact UE hoo hwl
  ·obtain⟨a,rfl⟩:=kL (by simpa using h1);obtain⟨e,rfl⟩:=kL (by simpa using h2);obtain rfl:cs=[]:=by simpa using h4
   obtain rfl:t=0:=by simpa using h3
   have hl:lv≠0:=by simpa using h5
   rw[UD hoo hl hlv (ih a (by simp) (hks a (by simp)) (lv-1) (by omega)) (hr a)];by_cases z:a.wd ws (lv-1)=0<;>simp[z,bP]
  ·obtain⟨a,rfl⟩:=kL (by simpa using h1);obtain rfl:cs=[]:=by simpa using h4
   obtain rfl:t=0:=by simpa using h3
   have hl:lv≠0:=by simpa using h5
   rw[GM hoo hl hlv (ih a (by simp) (hks a (by simp)) (lv-1) (by omega)) (hr a) he];have h6:=Pn.kG hd;simp only[Pn.cK]at h6;by_cases z:a.wd ws (lv-1)=0<;>simp[z,bP,pW,h6]
  ·obtain⟨a,b,rfl⟩:=uZ (by simpa using h1);obtain⟨e,rfl⟩:=kL (by simpa using h2);obtain rfl:cs=[]:=by simpa using h4
   obtain rfl:t=0:=by simpa using h3
   have hl:lv≠0:=by simpa using h5
   rw[UC hoo hl hlv (ih a (by simp) (hks a (by simp)) (lv-1) (by omega)) (hr a) (ih b (by simp) (hks b (by simp)) (lv-1) (by omega)) (hr b)];by_cases z:a.wd ws (lv-1)=0<;>by_cases z2:b.wd ws (lv-1)=0<;>simp[z,z2,bP]
  ·obtain⟨a,b,rfl⟩:=uZ (by simpa using h1);obtain⟨e,rfl⟩:=kL (by simpa using h2);obtain rfl:cs=[]:=by simpa using h4
   obtain rfl:t=0:=by simpa using h3
   have hl:lv≠0:=by simpa using h5
   rw[UB hoo hl hlv (ih a (by simp) (hks a (by simp)) (lv-1) (by omega)) (hr a) (ih b (by simp) (hks b (by simp)) (lv-1) (by omega)) (hr b)];by_cases z:a.wd ws (lv-1)=0<;>by_cases z2:b.wd ws (lv-1)=0<;>simp[z,z2,bP]
  ·obtain⟨a,b,rfl⟩:=uZ (by simpa using h1);obtain rfl:es=[]:=gF (by simpa using h2);obtain rfl:cs=[]:=by simpa using h4
   obtain rfl:t=0:=by simpa using h3
   have hl:lv≠0:=by simpa using h5
   rw[UA hoo hl hlv (ih a (by simp) (hks a (by simp)) (lv-1) (by omega)) (hr a) (ih b (by simp) (hks b (by simp)) (lv-1) (by omega)) (hr b)];by_cases z:a.wd ws (lv-1)=0<;>by_cases z2:b.wd ws (lv-1)=0<;>simp[z,z2,bP]
  ·obtain⟨a,rfl⟩:=kL (by simpa using h1);obtain rfl:es=[]:=gF (by simpa using h2);obtain rfl:cs=[]:=by simpa using h4
   obtain rfl:t=0:=by simpa using h3
   have hl:lv≠0:=by simpa using h5
   rw[U9 hoo hl hlv (ih a (by simp) (hks a (by simp)) (lv-1) (by omega)) (hr a)];by_cases z:a.wd ws (lv-1)=0<;>simp[z,bP]
  ·obtain⟨a,rfl⟩:=kL (by simpa using h1);obtain rfl:es=[]:=gF (by simpa using h2);obtain rfl:t=0:=by simpa using h3
   have hl:lv≠0:=by simpa using h5
   rw[U8 hoo hl hlv (ih a (by simp) (hks a (by simp)) (lv-1) (by omega)) (hr a) hc];by_cases z:a.wd ws (lv-1)=0<;>simp[z,bP]
  ·omega
theorem TM (p:Pn) (hp:p.lim) (ws:List Int) (hl:ws.length<9223372036854775808):aH C0 18 [.i (.agg p.cells), .i (.isl (aI ws))] []=some (.int (p.width ws),[]):=by
 rw[aF rfl Tryd.func18 rfl rfl];have hv:=BR ws hl
 cases h:KM ws with
 | false=>rw[h]at hv;rw[Pn.aB];simp[hv,Pn.width,h]
 | true =>
  rw[h]at hv;have h4:ws.length≤4:=by simp[KM]at h;omega
  have hb:=nQ (H8 h) (by omega) p hp 8 (by omega);rw[show((8:Nat):Int)=8 from rfl]at hb;rw[Pn.aB]at hb ⊢;simp[hv,Pn.width,h,hb]
def EX (a b:Ex) (i:Nat):AS :=
 { env:=[(0, .i (.iref [.int a.kind, .int a.col, .bool a.val.null, .int a.val.n, .isl (Ex.aA a.kids)])),(1, .i (.iref [.int b.kind, .int b.col, .bool b.val.null, .int b.val.n, .isl (Ex.aA b.kids)])),(4, .bool false),(5,jk i (.int (i-1))),(49, .bool false),(54, .int a.kids.length),(55, .int i),(56,jk i (.bool true)),(71,jk i (.bool false))],st:=[] }
def HX (p q:Pn) (n m:Nat) (i j k:AV) (x51 x65 x70 x83 x88 x102:AV):AS :=
 { env:=[(0, .i (.agg [.int p.kind, .int p.table, .isl (Ex.aA p.exprs), .isl (aI p.cols), .isl (Pn.aA p.kids)])),(1, .i (.agg [.int q.kind, .int q.table, .isl (Ex.aA q.exprs), .isl (aI q.cols), .isl (Pn.aA q.kids)])),(2, .own 0 0),(3, .own 1 0),(4, .bool false),(5,i),(6,j),(7,k),(46, .bool false),(51,x51),(65,x65),(70,x70),(83,x83),(88,x88),(102,x102)],
   st:=[some (.box [.int p.kind, .int p.table, .i (.isl (Ex.aA p.exprs)), .i (.isl (aI p.cols)), .i (.isl (Pn.aA p.kids))]),some (.box [.int q.kind, .int q.table, .i (.isl (Ex.aA q.exprs)), .i (.isl (aI q.cols)), .i (.isl (Pn.aA q.kids))])] }
def H1 (p q:Pn) (i:Nat):AS:=HX p q 0 0 (.int i) .junk .junk (jk i (.bool true)) (jk i (.bool false)) .junk .junk .junk .junk
def H2 (p q:Pn) (i:Nat):AS:=HX p q 0 0 (.int p.exprs.length) (.int i) .junk (.bool false) (jk p.exprs.length (.bool false)) (jk i (.bool true)) (jk i (.bool false)) .junk .junk
def KX (p:Pn) (i:Nat):AS :=
 { env:=[(0, .i (.agg [.int p.kind, .int p.table, .isl (Ex.aA p.exprs), .isl (aI p.cols), .isl (Pn.aA p.kids)])),(1, .own 0 0),(2, .own 1 0),(3, .own 2 0),(4, .int i),(5, .junk),(19,jk i (.bool true)),(37, .junk)],
   st:=some (.box [.int p.kind, .int p.table, .i (.isl (Ex.aA p.exprs)), .i (.isl (aI p.cols)), .i (.isl (Pn.aA p.kids))])::some (.box [.int 0, .int 0, .nils, .nils, .nils]) ::
    some (.box [.int p.kind, .int p.table,gro 3 5 i, .osl (if i=0 then 3 else 4) 1 0 p.cols.length, .nils])::(VK 5 (Ex.aA (p.exprs.take i)) i++[some (.arr 1 (aI p.cols))]) }
def K2 (p:Pn) (i:Nat):AS :=
 { env:=[(0, .i (.agg [.int p.kind, .int p.table, .isl (Ex.aA p.exprs), .isl (aI p.cols), .isl (Pn.aA p.kids)])),(1, .own 0 0),(2, .own 1 0),(3, .own 2 0),(4, .int p.exprs.length),(5, .int i),(19, .bool false),(37,jk i (.bool true))],
   st:=some (.box [.int p.kind, .int p.table, .i (.isl (Ex.aA p.exprs)), .i (.isl (aI p.cols)), .i (.isl (Pn.aA p.kids))])::some (.box [.int 0, .int 0, .nils, .nils, .nils]) ::
    some (.box [.int p.kind, .int p.table,gro 3 5 p.exprs.length, .osl (if p.exprs.length=0 then 3 else 4) 1 0 p.cols.length,gro (if p.exprs.length=0 then 4 else 5) 5 i])::(VK 5 (Ex.aA p.exprs) p.exprs.length++some (.arr 1 (aI p.cols))::VK 5 (Pn.aA (p.kids.take i)) i) }
def pcX (p:Pn):AV:=.agg [.int p.kind, .int p.table,gro 0 5 p.exprs.length, .osl (if p.exprs.length=0 then 0 else 1) 1 0 p.cols.length,gro (if p.exprs.length=0 then 1 else 2) 5 p.kids.length]
def pcS (p:Pn):StL:=VK 5 (Ex.aA p.exprs) p.exprs.length++some (.arr 1 (aI p.cols))::VK 5 (Pn.aA p.kids) p.kids.length
theorem K6 {p:Pn} (hp:p.thin) (ih:∀ a∈p.kids,aH C0 43 [.i (.agg a.cells)] []=some (pcX a,pcS a)) :
 aH C0 43 [.i (.agg p.cells)] []=some (pcX p,pcS p):=by
 have ht:=(Pn.dV _).1 hp;obtain⟨t1,t2,t3,t4,-⟩:=ht;rw[aF rfl Tryd.func43 rfl rfl,Pn.aB];by_cases hc:p.cols=[]
 ·simp[hc,aI];rw[aU (KX p) p.exprs.length (by simp[KX,hc,aI])]
  ·rw[aD]
   cases hn:p.exprs.length with
   | zero =>
    have he:p.exprs=[]:=zZ.1 hn;simp[KX,he,hc,aI,Ex.aA];rw[aU (K2 p) p.kids.length (by simp[K2,he,hc,aI,Ex.aA])]
    ·rw[aD]
     cases hm:p.kids.length with
     | zero =>
      have hk:p.kids=[]:=zZ.1 hm;simp[K2,he,hc,aI,hk,Ex.aA,Pn.aA,pcX,pcS]
     | succ m =>
      have hk:p.kids.take (m+1)=p.kids:=zY (by omega);simp[K2,he,hc,aI,hm,hk,Ex.aA,pcX,pcS]
    ·intro i hi;have h3:=zX hi;have hc':=ih _ (zT h3);have r2:=Pn.aS h3;generalize p.kids[i]=a at h3 hc' r2;have w2:IntKind.i64.wrap ((i:Int)+1)=i+1:=wrO;rw[Pn.aB]at r2 hc';simp only[pcX,pcS]at hc';have hl1:(i+1)*88≤140737488355328:=by omega
     have hl2:min i p.kids.length=i:=by omega
     by_cases a1:a.exprs=[]
     ·by_cases a2:a.kids=[]
      ·simp[a1,a2,Ex.aA,Pn.aA]at hc' r2;by_cases h0:i=0
       ·subst h0;simp[K2,he,hc,aI,hi,r2,hc',dC,aM h3,Ex.aA,Pn.aA,Pn.aB a,a1,a2]
       ·simp[K2,he,hc,aI,aQ h0,aJ h0,fG h0,hi,r2,hc',w2,aM h3,Ex.aA,Pn.aA,Pn.bB,hl1,hl2,zD,Pn.aB a,h0,a1,a2]
      ·have a2':a.kids.length≠0:=fun h=>a2 (zZ.1 h)
       simp[a1,aQ a2',aJ a2',a2,Ex.aA,Pn.aA]at hc' r2;by_cases h0:i=0
       ·subst h0;simp[K2,he,hc,aI,hi,r2,hc',dC,aM h3,Ex.aA,Pn.aA,Pn.aB a,a1,aQ a2',aJ a2',a2]
       ·simp[K2,he,hc,aI,aQ h0,aJ h0,fG h0,hi,r2,hc',w2,aM h3,Ex.aA,Pn.aA,Pn.bB,hl1,hl2,zD,Pn.aB a,h0,a1,aQ a2',aJ a2',a2]
     ·by_cases a2:a.kids=[]
      ·have a1':a.exprs.length≠0:=fun h=>a1 (zZ.1 h)
       simp[aQ a1',aJ a1',a1,a2,Ex.aA,Pn.aA]at hc' r2;by_cases h0:i=0
       ·subst h0;simp[K2,he,hc,aI,hi,r2,hc',dC,aM h3,Ex.aA,Pn.aA,Pn.aB a,aQ a1',aJ a1',a1,a2]
       ·simp[K2,he,hc,aI,aQ h0,aJ h0,fG h0,hi,r2,hc',w2,aM h3,Ex.aA,Pn.aA,Pn.bB,hl1,hl2,zD,Pn.aB a,h0,aQ a1',aJ a1',a1,a2]
      ·have a1':a.exprs.length≠0:=fun h=>a1 (zZ.1 h)
       have a2':a.kids.length≠0:=fun h=>a2 (zZ.1 h)
       simp[aQ a1',aJ a1',a1,aQ a2',aJ a2',a2,Ex.aA,Pn.aA]at hc' r2;by_cases h0:i=0
       ·subst h0;simp[K2,he,hc,aI,hi,r2,hc',dC,aM h3,Ex.aA,Pn.aA,Pn.aB a,aQ a1',aJ a1',a1,aQ a2',aJ a2',a2]
       ·simp[K2,he,hc,aI,aQ h0,aJ h0,fG h0,hi,r2,hc',w2,aM h3,Ex.aA,Pn.aA,Pn.bB,hl1,hl2,zD,Pn.aB a,h0,aQ a1',aJ a1',a1,aQ a2',aJ a2',a2]
   | succ n =>
    have he:p.exprs.take (n+1)=p.exprs:=zY (by omega);simp[KX,hn,he,hc,aI];rw[aU (K2 p) p.kids.length (by simp[K2,hn,hc,aI,Ex.aA])]
    ·rw[aD]
     cases hm:p.kids.length with
     | zero =>
      have hk:p.kids=[]:=zZ.1 hm;simp[K2,hn,hc,aI,hk,Ex.aA,Pn.aA,pcX,pcS]
     | succ m =>
      have hk:p.kids.take (m+1)=p.kids:=zY (by omega);simp[K2,hn,hc,aI,hm,hk,Ex.aA,pcX,pcS]
    ·intro i hi;have h3:=zX hi;have hc':=ih _ (zT h3);have r2:=Pn.aS h3;generalize p.kids[i]=a at h3 hc' r2;have w2:IntKind.i64.wrap ((i:Int)+1)=i+1:=wrO;rw[Pn.aB]at r2 hc';simp only[pcX,pcS]at hc';have hl1:(i+1)*88≤140737488355328:=by omega
     have hl2:min i p.kids.length=i:=by omega
     by_cases a1:a.exprs=[]
     ·by_cases a2:a.kids=[]
      ·simp[a1,a2,Ex.aA,Pn.aA]at hc' r2;by_cases h0:i=0
       ·subst h0;simp[K2,hn,hc,aI,hi,r2,hc',dC,aM h3,Ex.aA,Pn.aA,Pn.aB a,a1,a2]
       ·simp[K2,hn,hc,aI,aQ h0,aJ h0,fG h0,hi,r2,hc',w2,aM h3,Ex.aA,Pn.aA,Pn.bB,hl1,hl2,zD,Pn.aB a,h0,a1,a2]
      ·have a2':a.kids.length≠0:=fun h=>a2 (zZ.1 h)
       simp[a1,aQ a2',aJ a2',a2,Ex.aA,Pn.aA]at hc' r2;by_cases h0:i=0
       ·subst h0;simp[K2,hn,hc,aI,hi,r2,hc',dC,aM h3,Ex.aA,Pn.aA,Pn.aB a,a1,aQ a2',aJ a2',a2]
       ·simp[K2,hn,hc,aI,aQ h0,aJ h0,fG h0,hi,r2,hc',w2,aM h3,Ex.aA,Pn.aA,Pn.bB,hl1,hl2,zD,Pn.aB a,h0,a1,aQ a2',aJ a2',a2]
     ·by_cases a2:a.kids=[]
      ·have a1':a.exprs.length≠0:=fun h=>a1 (zZ.1 h)
       simp[aQ a1',aJ a1',a1,a2,Ex.aA,Pn.aA]at hc' r2;by_cases h0:i=0
       ·subst h0;simp[K2,hn,hc,aI,hi,r2,hc',dC,aM h3,Ex.aA,Pn.aA,Pn.aB a,aQ a1',aJ a1',a1,a2]
       ·simp[K2,hn,hc,aI,aQ h0,aJ h0,fG h0,hi,r2,hc',w2,aM h3,Ex.aA,Pn.aA,Pn.bB,hl1,hl2,zD,Pn.aB a,h0,aQ a1',aJ a1',a1,a2]
      ·have a1':a.exprs.length≠0:=fun h=>a1 (zZ.1 h)
       have a2':a.kids.length≠0:=fun h=>a2 (zZ.1 h)
       simp[aQ a1',aJ a1',a1,aQ a2',aJ a2',a2,Ex.aA,Pn.aA]at hc' r2;by_cases h0:i=0
       ·subst h0;simp[K2,hn,hc,aI,hi,r2,hc',dC,aM h3,Ex.aA,Pn.aA,Pn.aB a,aQ a1',aJ a1',a1,aQ a2',aJ a2',a2]
       ·simp[K2,hn,hc,aI,aQ h0,aJ h0,fG h0,hi,r2,hc',w2,aM h3,Ex.aA,Pn.aA,Pn.bB,hl1,hl2,zD,Pn.aB a,h0,aQ a1',aJ a1',a1,aQ a2',aJ a2',a2]
  ·intro i hi;have h3:=zX hi;have hc':=EP _ (t2 _ (zT h3));have r2:=Ex.aS h3;generalize p.exprs[i]=a at h3 hc' r2;have w2:IntKind.i64.wrap ((i:Int)+1)=i+1:=wrO;rw[Ex.aB]at r2 hc';by_cases h0:i=0
   ·subst h0;simp[KX,hc,aI,hi,r2,hc',dC,aM h3,Ex.aA,Ex.aB a]
   ·simp[KX,hc,aI,aQ h0,aJ h0,fG h0,hi,r2,hc',w2,aM h3,Ex.bB,show min i p.exprs.length=i by omega,show(i+1)*56≤140737488355328 by omega,zD,Ex.aB a,h0]
 simp[hc,show p.cols.length*8≤140737488355328 by omega];rw[aU (KX p) p.exprs.length (by simp[KX,hc])]
 ·rw[aD]
  cases hn:p.exprs.length with
  | zero =>
   have he:p.exprs=[]:=zZ.1 hn;simp[KX,he,hc,Ex.aA];rw[aU (K2 p) p.kids.length (by simp[K2,he,hc,Ex.aA])]
   ·rw[aD]
    cases hm:p.kids.length with
    | zero =>
     have hk:p.kids=[]:=zZ.1 hm;simp[K2,he,hc,hk,Ex.aA,Pn.aA,pcX,pcS]
    | succ m =>
     have hk:p.kids.take (m+1)=p.kids:=zY (by omega);simp[K2,he,hc,hm,hk,Ex.aA,pcX,pcS]
   ·intro i hi;have h3:=zX hi;have hc':=ih _ (zT h3);have r2:=Pn.aS h3;generalize p.kids[i]=a at h3 hc' r2;have w2:IntKind.i64.wrap ((i:Int)+1)=i+1:=wrO;rw[Pn.aB]at r2 hc';simp only[pcX,pcS]at hc';have hl1:(i+1)*88≤140737488355328:=by omega
    have hl2:min i p.kids.length=i:=by omega
    by_cases a1:a.exprs=[]
    ·by_cases a2:a.kids=[]
     ·simp[a1,a2,Ex.aA,Pn.aA]at hc' r2;by_cases h0:i=0
      ·subst h0;simp[K2,he,hc,hi,r2,hc',dC,aM h3,Ex.aA,Pn.aA,Pn.aB a,a1,a2]
      ·simp[K2,he,hc,aQ h0,aJ h0,fG h0,hi,r2,hc',w2,aM h3,Ex.aA,Pn.aA,Pn.bB,hl1,hl2,zD,Pn.aB a,h0,a1,a2]
     ·have a2':a.kids.length≠0:=fun h=>a2 (zZ.1 h)
      simp[a1,aQ a2',aJ a2',a2,Ex.aA,Pn.aA]at hc' r2;by_cases h0:i=0
      ·subst h0;simp[K2,he,hc,hi,r2,hc',dC,aM h3,Ex.aA,Pn.aA,Pn.aB a,a1,aQ a2',aJ a2',a2]
      ·simp[K2,he,hc,aQ h0,aJ h0,fG h0,hi,r2,hc',w2,aM h3,Ex.aA,Pn.aA,Pn.bB,hl1,hl2,zD,Pn.aB a,h0,a1,aQ a2',aJ a2',a2]
    ·by_cases a2:a.kids=[]
     ·have a1':a.exprs.length≠0:=fun h=>a1 (zZ.1 h)
      simp[aQ a1',aJ a1',a1,a2,Ex.aA,Pn.aA]at hc' r2;by_cases h0:i=0
      ·subst h0;simp[K2,he,hc,hi,r2,hc',dC,aM h3,Ex.aA,Pn.aA,Pn.aB a,aQ a1',aJ a1',a1,a2]
      ·simp[K2,he,hc,aQ h0,aJ h0,fG h0,hi,r2,hc',w2,aM h3,Ex.aA,Pn.aA,Pn.bB,hl1,hl2,zD,Pn.aB a,h0,aQ a1',aJ a1',a1,a2]
     ·have a1':a.exprs.length≠0:=fun h=>a1 (zZ.1 h)
      have a2':a.kids.length≠0:=fun h=>a2 (zZ.1 h)
      simp[aQ a1',aJ a1',a1,aQ a2',aJ a2',a2,Ex.aA,Pn.aA]at hc' r2;by_cases h0:i=0
      ·subst h0;simp[K2,he,hc,hi,r2,hc',dC,aM h3,Ex.aA,Pn.aA,Pn.aB a,aQ a1',aJ a1',a1,aQ a2',aJ a2',a2]
      ·simp[K2,he,hc,aQ h0,aJ h0,fG h0,hi,r2,hc',w2,aM h3,Ex.aA,Pn.aA,Pn.bB,hl1,hl2,zD,Pn.aB a,h0,aQ a1',aJ a1',a1,aQ a2',aJ a2',a2]
  | succ n =>
   have he:p.exprs.take (n+1)=p.exprs:=zY (by omega);simp[KX,hn,he,hc];rw[aU (K2 p) p.kids.length (by simp[K2,hn,hc,Ex.aA])]
   ·rw[aD]
    cases hm:p.kids.length with
    | zero =>
     have hk:p.kids=[]:=zZ.1 hm;simp[K2,hn,hc,hk,Ex.aA,Pn.aA,pcX,pcS]
    | succ m =>
     have hk:p.kids.take (m+1)=p.kids:=zY (by omega);simp[K2,hn,hc,hm,hk,Ex.aA,pcX,pcS]
   ·intro i hi;have h3:=zX hi;have hc':=ih _ (zT h3);have r2:=Pn.aS h3;generalize p.kids[i]=a at h3 hc' r2;have w2:IntKind.i64.wrap ((i:Int)+1)=i+1:=wrO;rw[Pn.aB]at r2 hc';simp only[pcX,pcS]at hc';have hl1:(i+1)*88≤140737488355328:=by omega
    have hl2:min i p.kids.length=i:=by omega
    by_cases a1:a.exprs=[]
    ·by_cases a2:a.kids=[]
     ·simp[a1,a2,Ex.aA,Pn.aA]at hc' r2;by_cases h0:i=0
      ·subst h0;simp[K2,hn,hc,hi,r2,hc',dC,aM h3,Ex.aA,Pn.aA,Pn.aB a,a1,a2]
      ·simp[K2,hn,hc,aQ h0,aJ h0,fG h0,hi,r2,hc',w2,aM h3,Ex.aA,Pn.aA,Pn.bB,hl1,hl2,zD,Pn.aB a,h0,a1,a2]
     ·have a2':a.kids.length≠0:=fun h=>a2 (zZ.1 h)
      simp[a1,aQ a2',aJ a2',a2,Ex.aA,Pn.aA]at hc' r2;by_cases h0:i=0
      ·subst h0;simp[K2,hn,hc,hi,r2,hc',dC,aM h3,Ex.aA,Pn.aA,Pn.aB a,a1,aQ a2',aJ a2',a2]
      ·simp[K2,hn,hc,aQ h0,aJ h0,fG h0,hi,r2,hc',w2,aM h3,Ex.aA,Pn.aA,Pn.bB,hl1,hl2,zD,Pn.aB a,h0,a1,aQ a2',aJ a2',a2]
    ·by_cases a2:a.kids=[]
     ·have a1':a.exprs.length≠0:=fun h=>a1 (zZ.1 h)
      simp[aQ a1',aJ a1',a1,a2,Ex.aA,Pn.aA]at hc' r2;by_cases h0:i=0
      ·subst h0;simp[K2,hn,hc,hi,r2,hc',dC,aM h3,Ex.aA,Pn.aA,Pn.aB a,aQ a1',aJ a1',a1,a2]
      ·simp[K2,hn,hc,aQ h0,aJ h0,fG h0,hi,r2,hc',w2,aM h3,Ex.aA,Pn.aA,Pn.bB,hl1,hl2,zD,Pn.aB a,h0,aQ a1',aJ a1',a1,a2]
     ·have a1':a.exprs.length≠0:=fun h=>a1 (zZ.1 h)
      have a2':a.kids.length≠0:=fun h=>a2 (zZ.1 h)
      simp[aQ a1',aJ a1',a1,aQ a2',aJ a2',a2,Ex.aA,Pn.aA]at hc' r2;by_cases h0:i=0
      ·subst h0;simp[K2,hn,hc,hi,r2,hc',dC,aM h3,Ex.aA,Pn.aA,Pn.aB a,aQ a1',aJ a1',a1,aQ a2',aJ a2',a2]
      ·simp[K2,hn,hc,aQ h0,aJ h0,fG h0,hi,r2,hc',w2,aM h3,Ex.aA,Pn.aA,Pn.bB,hl1,hl2,zD,Pn.aB a,h0,aQ a1',aJ a1',a1,aQ a2',aJ a2',a2]
 ·intro i hi;have h3:=zX hi;have hc':=EP _ (t2 _ (zT h3));have r2:=Ex.aS h3;generalize p.exprs[i]=a at h3 hc' r2;have w2:IntKind.i64.wrap ((i:Int)+1)=i+1:=wrO;rw[Ex.aB]at r2 hc';by_cases h0:i=0
  ·subst h0;simp[KX,hc,hi,r2,hc',dC,aM h3,Ex.aA,Ex.aB a]
  ·simp[KX,hc,aQ h0,aJ h0,fG h0,hi,r2,hc',w2,aM h3,Ex.bB,show min i p.exprs.length=i by omega,show(i+1)*56≤140737488355328 by omega,zD,Ex.aB a,h0]
theorem lN:∀ (p:Pn),p.thin→aH C0 43 [.i (.agg p.cells)] []=some (pcX p,pcS p):=by
 intro p
 induction p using Pn.ind with
 | h k t es cs ks ih =>
  intro ht;exact K6 ht fun a ha=>ih a ha (((Pn.dV _).1 ht).2.2.2.2 a ha)
def vB (x:Bool) (v:Pn):Option Blk:=if x=true then some (.fbox v.cells)else some (.box (kQ v.cells))
set_option maxHeartbeats 4000000
theorem SC {α:Type} {D R:List α} {y x:α} {i:Nat} (hD:D.length=i):(D++y::R).set i x=D++x::R:=by
 subst hD;simp
theorem nD {α:Type} {l:List α} {i:Nat} {a:α} (h:l[i]?=some a):l.drop i=a::l.drop (i+1):=by
 obtain⟨hl,rfl⟩:=zW.1 h;exact yJ hl
end Go.Proofs.YtmcjmafajkeecaaDoor.P
namespace Go.Av
theorem Ex.fE:∀ l:List Ex,Ex.KJ l=l.map Ex.shp
 | []=>rfl
 | a::l=>by simp[Ex.KJ,Ex.fE l]
theorem Pn.fE:∀ l:List Pn,Pn.KJ l=l.map Pn.shp
 | []=>rfl
 | a::l=>by simp[Pn.KJ,Pn.fE l]
theorem Ex.fC (e:Ex):e.shp=if e.kind=2 then .mk 2 0 ⟨false,0⟩ []else .mk e.kind e.col ⟨false,0⟩ (e.kids.map Ex.shp):=by
 obtain⟨k,c,v,ks⟩:=e;simp only[Ex.shp,Ex.kind,Ex.col,Ex.kids,Ex.fE];by_cases h:k=2<;>simp[h]
theorem Pn.fC (p:Pn):p.shp=.mk p.kind p.table (p.exprs.map Ex.shp) p.cols (p.kids.map Pn.shp):=by
 obtain⟨k,t,es,cs,ks⟩:=p;simp only[Pn.shp,Pn.kind,Pn.table,Pn.exprs,Pn.cols,Pn.kids,Ex.fE,Pn.fE]
@[simp] theorem Ex.AC8 (l:List Ex):(Ex.KJ l).length=l.length:=by simp[Ex.fE]
@[simp] theorem Pn.AC8 (l:List Pn):(Pn.KJ l).length=l.length:=by simp[Pn.fE]
def FB (l:List Ex) (i:Nat):List (List IV):=Ex.aA ((l.take i).map Ex.shp++l.drop i)
def KN (l:List Pn) (i:Nat):List (List IV):=Pn.aA ((l.take i).map Pn.shp++l.drop i)
end Go.Av
namespace Go.Proofs.YtmcjmafajkeecaaDoor.P
open Go Go.Av
set_option maxRecDepth 4000
set_option maxHeartbeats 4000000
theorem pK (l:List Ex):FB l 0=Ex.aA l:=by simp[FB]
theorem gY (l:List Ex):FB l l.length=Ex.aA (l.map Ex.shp):=by simp[FB]
@[simp] theorem ACR (l:List Ex) (i:Nat):(FB l i).length=l.length:=by simp[FB];omega
theorem JQ {l:List Ex} {i:Nat} {a:Ex} (h:l[i]?=some a):(FB l i).set i a.shp.cells=FB l (i+1):=by
 have hl:=(zW.1 h).1;unfold FB;rw[nD h,aM h,yF,Ex.eY,yS,Ex.eY];simp only[Ex.aA,yP,List.map_nil,yT,yO];exact SC (by simp;omega)
theorem JR {l:List Ex} {i:Nat} {a:Ex} (h:l[i]?=some a):gW (FB l i) i=some a.cells:=by
 have hl:=(zW.1 h).1;unfold FB;apply Ex.aS;rw[zA (by simp;omega),nD h];simp;rw[show i-min i l.length=0 by omega];rfl
theorem pJ (l:List Pn):KN l 0=Pn.aA l:=by simp[KN]
theorem uB (l:List Pn):KN l l.length=Pn.aA (l.map Pn.shp):=by simp[KN]
@[simp] theorem ACP (l:List Pn) (i:Nat):(KN l i).length=l.length:=by simp[KN];omega
theorem JP {l:List Pn} {i:Nat} {a:Pn} (h:l[i]?=some a):(KN l i).set i a.shp.cells=KN l (i+1):=by
 have hl:=(zW.1 h).1;unfold KN;rw[nD h,aM h,yF,Pn.eY,yS,Pn.eY];simp only[Pn.aA,yP,List.map_nil,yT,yO];exact SC (by simp;omega)
theorem RH {l:List Pn} {i:Nat} {a:Pn} (h:l[i]?=some a):gW (KN l i) i=some a.cells:=by
 have hl:=(zW.1 h).1;unfold KN;apply Pn.aS;rw[zA (by simp;omega),nD h];simp;rw[show i-min i l.length=0 by omega];rfl
def SHX (e:Ex) (i:Nat):AS :=
 { env:=[(0, .i (.agg [.int e.kind, .int e.col, .bool e.val.null, .int e.val.n, .isl (Ex.aA e.kids)])),(1, .own 0 0),(2, .own 1 0),(3, .own 2 0),(4, .int i),(7, .bool false),(19,jk i (.bool true))],
   st:=some (.box [.int e.kind, .int e.col, .bool e.val.null, .int e.val.n, .i (.isl (Ex.aA e.kids))])::some (.box [.int 0, .int 0, .bool false, .int 0, .nils]) ::
    some (.box [.int e.kind, .int e.col, .bool false, .int 0,gro 3 5 i])::VK 5 (Ex.aA ((e.kids.take i).map Ex.shp)) i }
theorem OW {e:Ex} (hl:e.kids.length<1000000000) (ih:∀ a∈e.kids,aH C0 44 [.i (.agg a.cells)] []=some (.i (.agg a.shp.cells),[])) :
 aH C0 44 [.i (.agg e.cells)] []=some (.i (.agg e.shp.cells),[]):=by
 rw[aF rfl Tryd.func44 rfl rfl,Ex.aB e,Ex.fC e];by_cases h1:e.kind=2
 ·have hc:aH C0 65 [.i (.agg [.bool false, .int 0])] []=some (.i (.agg (Ex.mk 2 0 ⟨false,0⟩ []).cells),[]):=by
   rw[aF rfl Tryd.func65 rfl rfl];simp[Ex.cells,Ex.aA]
  simp[Ex.cells,Ex.aA]at hc;simp[h1,hc,Ex.cells,Ex.aA]
 ·simp[h1];rw[aU (SHX e) e.kids.length (by simp[SHX,h1])]
  ·rw[aD]
   cases hn:e.kids.length with
   | zero =>
    have:e.kids=[]:=zZ.1 hn;simp[SHX,this,Ex.aA,Ex.cells]
   | succ n =>
    have:e.kids.take (n+1)=e.kids:=zY (by omega);simp[SHX,hn,this,Ex.cells,← List.map_take]
  ·intro i hi;have h3:=zX hi;have hc:=ih _ (zT h3);have r2:=Ex.aS h3;generalize e.kids[i]=a at h3 hc r2;have w2:IntKind.i64.wrap ((i:Int)+1)=i+1:=wrO;have hx:∀ l:List (List IV),Ex.aA [a.shp]=[a.shp.cells]:=fun _=>rfl
   by_cases h0:i=0
   ·subst h0;simp[SHX,hi,r2,hc,dC,aM h3,Ex.aA]
   ·simp[SHX,aQ h0,aJ h0,fG h0,hi,r2,hc,w2,aM h3,Ex.bB,show min i e.kids.length=i by omega,show(i+1)*56≤140737488355328 by omega,← List.map_take,zD]
theorem LM:∀ e:Ex,e.thin→aH C0 44 [.i (.agg e.cells)] []=some (.i (.agg e.shp.cells),[]):=by
 intro e
 induction e using Ex.ind with
 | h k c v ks ih =>
  intro ht;have ht':=(Ex.dV _).1 ht;exact OW ht'.1 fun a ha=>ih a ha (ht'.2 a ha)
def AO4 (p:Pn) (i:Nat):AS :=
 { env:=[(0, .i (.agg [.int p.kind, .int p.table, .isl (Ex.aA p.exprs), .isl (aI p.cols), .isl (Pn.aA p.kids)])),(1, .own 0 0),(2, .own 1 0),(3, .own 2 0),(4, .int i),(5, .junk),(12,jk i (.bool true)),(29, .junk)],
   st:=[some (.box [.int p.kind, .int p.table, .i (.isl (Ex.aA p.exprs)), .i (.isl (aI p.cols)), .i (.isl (Pn.aA p.kids))]),some (.box [.int 0, .int 0, .nils, .nils, .nils]),some (.box [.int p.kind, .int p.table, .osl 3 5 0 p.exprs.length, .osl 4 1 0 p.cols.length, .osl 5 5 0 p.kids.length]),some (.arr 5 (FB p.exprs i)),some (.arr 1 (aI p.cols)),some (.arr 5 (Pn.aA p.kids))] }
def AO6 (p:Pn) (i:Nat):AS :=
 { env:=[(0, .i (.agg [.int p.kind, .int p.table, .isl (Ex.aA p.exprs), .isl (aI p.cols), .isl (Pn.aA p.kids)])),(1, .own 0 0),(2, .own 1 0),(3, .own 2 0),(4, .int p.exprs.length),(5, .int i),(12, .bool false),(29,jk i (.bool true))],
   st:=[some (.box [.int p.kind, .int p.table, .i (.isl (Ex.aA p.exprs)), .i (.isl (aI p.cols)), .i (.isl (Pn.aA p.kids))]),some (.box [.int 0, .int 0, .nils, .nils, .nils]),some (.box [.int p.kind, .int p.table, .osl 3 5 0 p.exprs.length, .osl 4 1 0 p.cols.length, .osl 5 5 0 p.kids.length]),some (.arr 5 (FB p.exprs p.exprs.length)),some (.arr 1 (aI p.cols)),some (.arr 5 (KN p.kids i))] }
theorem U4 {p:Pn} (hp:p.thin) (he:p.exprs≠[]) (hk:p.kids≠[])
 (ih:∀ a∈p.kids,aH C0 20 [.i (.agg a.cells)] []=some (.i (.agg a.shp.cells),[])) :
 aH C0 20 [.i (.agg p.cells)] []=some (.i (.agg p.shp.cells),[]):=by
 have hc:=lN p hp;obtain⟨t1,t2,t3,t4,-⟩:=(Pn.dV _).1 hp;have hel:p.exprs.length≠0:=fun h=>he (zZ.1 h)
 have hkl:p.kids.length≠0:=fun h=>hk (zZ.1 h)
 simp[pcX,pcS,aQ hel,aJ hel,aQ hkl,aJ hkl,he,hk]at hc;rw[aF rfl Tryd.func20 rfl rfl,Pn.fC p];rw[Pn.aB p]at hc ⊢;simp only[Pn.cells];simp[hc];rw[aU (AO4 p) p.exprs.length (by simp[AO4,pK])]
 ·rw[aD];simp only[AO4,gY];simp;rw[aU (AO6 p) p.kids.length (by simp[AO6,pJ,gY])]
  ·rw[aD];simp only[AO6,uB,gY];have z1:(Ex.aA (p.exprs.map Ex.shp)).take p.exprs.length=Ex.aA (p.exprs.map Ex.shp):=zY (by simp);have z2:(Pn.aA (p.kids.map Pn.shp)).take p.kids.length=Pn.aA (p.kids.map Pn.shp):=zY (by simp);have z3:(aI p.cols).take p.cols.length=aI p.cols:=zY (by simp);simp[← Ex.fE,← Pn.fE]at z1 z2 ⊢;simp[z1,z2,z3,he,hk]
  ·intro i hi;have h3:=zX hi;have hm:=zT h3;have hset:=JP h3;have hnt:=RH h3;generalize p.kids[i]=a at h3 hm hset hnt;have hkk:=ih a hm;have w2:IntKind.i64.wrap ((i:Int)+1)=i+1:=wrO;rw[Pn.aB a]at hkk hnt;rw[Pn.aB a.shp]at hkk hset;simp[AO6,hi,hkk,w2,hset,hnt]
 ·intro i hi;have h3:=zX hi;have hm:=zT h3;have hset:=JQ h3;have hnt:=JR h3;generalize p.exprs[i]=a at h3 hm hset hnt;have hkk:=LM a (t2 a hm);have w2:IntKind.i64.wrap ((i:Int)+1)=i+1:=wrO;rw[Ex.aB a]at hkk hnt;rw[Ex.aB a.shp]at hkk hset;simp[AO4,hi,hkk,w2,hset,hnt]
def AO5 (p:Pn) (i:Nat):AS :=
 { env:=[(0, .i (.agg [.int p.kind, .int p.table, .isl (Ex.aA p.exprs), .isl (aI p.cols), .isl (Pn.aA p.kids)])),(1, .own 0 0),(2, .own 1 0),(3, .own 2 0),(4, .int i),(5, .junk),(12,jk i (.bool true)),(29, .junk)],
   st:=[some (.box [.int p.kind, .int p.table, .i (.isl (Ex.aA p.exprs)), .i (.isl (aI p.cols)), .i (.isl (Pn.aA p.kids))]),some (.box [.int 0, .int 0, .nils, .nils, .nils]),some (.box [.int p.kind, .int p.table, .osl 3 5 0 p.exprs.length, .osl 4 1 0 p.cols.length, .nils]),some (.arr 5 (FB p.exprs i)),some (.arr 1 (aI p.cols))] }
def AQ5 (p:Pn) (i:Nat):AS :=
 { env:=[(0, .i (.agg [.int p.kind, .int p.table, .isl (Ex.aA p.exprs), .isl (aI p.cols), .isl (Pn.aA p.kids)])),(1, .own 0 0),(2, .own 1 0),(3, .own 2 0),(4, .int p.exprs.length),(5, .int i),(12, .bool false),(29,jk i (.bool true))],
   st:=[some (.box [.int p.kind, .int p.table, .i (.isl (Ex.aA p.exprs)), .i (.isl (aI p.cols)), .i (.isl (Pn.aA p.kids))]),some (.box [.int 0, .int 0, .nils, .nils, .nils]),some (.box [.int p.kind, .int p.table, .osl 3 5 0 p.exprs.length, .osl 4 1 0 p.cols.length, .nils]),some (.arr 5 (FB p.exprs p.exprs.length)),some (.arr 1 (aI p.cols))] }
theorem U5 {p:Pn} (hp:p.thin) (he:p.exprs≠[]) (hk:p.kids=[])
 (ih:∀ a∈p.kids,aH C0 20 [.i (.agg a.cells)] []=some (.i (.agg a.shp.cells),[])) :
 aH C0 20 [.i (.agg p.cells)] []=some (.i (.agg p.shp.cells),[]):=by
 have hc:=lN p hp;obtain⟨t1,t2,t3,t4,-⟩:=(Pn.dV _).1 hp;have hel:p.exprs.length≠0:=fun h=>he (zZ.1 h)
 simp[pcX,pcS,aQ hel,aJ hel,he,hk,Pn.aA]at hc;rw[aF rfl Tryd.func20 rfl rfl,Pn.fC p];rw[Pn.aB p]at hc ⊢;simp only[Pn.cells];simp only[hk,Pn.aA]at hc ⊢;simp[hc];rw[aU (AO5 p) p.exprs.length (by simp[AO5,pK,hk,Pn.aA])]
 ·rw[aD];simp only[AO5,gY];simp[hk,Pn.aA];rw[aU (AQ5 p) p.kids.length (by simp[AQ5,pJ,gY,hk,Pn.aA])]
  ·rw[aD];simp only[AQ5,uB,gY];have z1:(Ex.aA (p.exprs.map Ex.shp)).take p.exprs.length=Ex.aA (p.exprs.map Ex.shp):=zY (by simp);have z2:(Pn.aA (p.kids.map Pn.shp)).take p.kids.length=Pn.aA (p.kids.map Pn.shp):=zY (by simp);have z3:(aI p.cols).take p.cols.length=aI p.cols:=zY (by simp);simp[← Ex.fE,← Pn.fE]at z1 z2 ⊢;simp[z1,z2,z3,he,hk,Pn.aA,Pn.KJ]
  ·intro i hi;rw[hk]at hi;simp at hi
 ·intro i hi;have h3:=zX hi;have hm:=zT h3;have hset:=JQ h3;have hnt:=JR h3;generalize p.exprs[i]=a at h3 hm hset hnt;have hkk:=LM a (t2 a hm);have w2:IntKind.i64.wrap ((i:Int)+1)=i+1:=wrO;rw[Ex.aB a]at hkk hnt;rw[Ex.aB a.shp]at hkk hset;simp[AO5,hi,hkk,w2,hset,hnt]
def AQ3 (p:Pn) (i:Nat):AS :=
 { env:=[(0, .i (.agg [.int p.kind, .int p.table, .isl (Ex.aA p.exprs), .isl (aI p.cols), .isl (Pn.aA p.kids)])),(1, .own 0 0),(2, .own 1 0),(3, .own 2 0),(4, .int i),(5, .junk),(12,jk i (.bool true)),(29, .junk)],
   st:=[some (.box [.int p.kind, .int p.table, .i (.isl (Ex.aA p.exprs)), .i (.isl (aI p.cols)), .i (.isl (Pn.aA p.kids))]),some (.box [.int 0, .int 0, .nils, .nils, .nils]),some (.box [.int p.kind, .int p.table, .nils, .osl 3 1 0 p.cols.length, .osl 4 5 0 p.kids.length]),some (.arr 1 (aI p.cols)),some (.arr 5 (Pn.aA p.kids))] }
def AO7 (p:Pn) (i:Nat):AS :=
 { env:=[(0, .i (.agg [.int p.kind, .int p.table, .isl (Ex.aA p.exprs), .isl (aI p.cols), .isl (Pn.aA p.kids)])),(1, .own 0 0),(2, .own 1 0),(3, .own 2 0),(4, .int p.exprs.length),(5, .int i),(12, .bool false),(29,jk i (.bool true))],
   st:=[some (.box [.int p.kind, .int p.table, .i (.isl (Ex.aA p.exprs)), .i (.isl (aI p.cols)), .i (.isl (Pn.aA p.kids))]),some (.box [.int 0, .int 0, .nils, .nils, .nils]),some (.box [.int p.kind, .int p.table, .nils, .osl 3 1 0 p.cols.length, .osl 4 5 0 p.kids.length]),some (.arr 1 (aI p.cols)),some (.arr 5 (KN p.kids i))] }
theorem U6 {p:Pn} (hp:p.thin) (he:p.exprs=[]) (hk:p.kids≠[])
 (ih:∀ a∈p.kids,aH C0 20 [.i (.agg a.cells)] []=some (.i (.agg a.shp.cells),[])) :
 aH C0 20 [.i (.agg p.cells)] []=some (.i (.agg p.shp.cells),[]):=by
 have hc:=lN p hp;obtain⟨t1,t2,t3,t4,-⟩:=(Pn.dV _).1 hp;have hkl:p.kids.length≠0:=fun h=>hk (zZ.1 h)
 simp[pcX,pcS,aQ hkl,aJ hkl,he,Ex.aA,hk]at hc;rw[aF rfl Tryd.func20 rfl rfl,Pn.fC p];rw[Pn.aB p]at hc ⊢;simp only[Pn.cells];simp only[he,Ex.aA]at hc ⊢;simp[hc];rw[aU (AQ3 p) p.exprs.length (by simp[AQ3,pK,he,Ex.aA])]
 ·rw[aD];simp only[AQ3,gY];simp[he,Ex.aA];rw[aU (AO7 p) p.kids.length (by simp[AO7,pJ,gY,he,Ex.aA])]
  ·rw[aD];simp only[AO7,uB,gY];have z1:(Ex.aA (p.exprs.map Ex.shp)).take p.exprs.length=Ex.aA (p.exprs.map Ex.shp):=zY (by simp);have z2:(Pn.aA (p.kids.map Pn.shp)).take p.kids.length=Pn.aA (p.kids.map Pn.shp):=zY (by simp);have z3:(aI p.cols).take p.cols.length=aI p.cols:=zY (by simp);simp[← Ex.fE,← Pn.fE]at z1 z2 ⊢;simp[z1,z2,z3,he,hk,Ex.aA,Ex.KJ]
  ·intro i hi;have h3:=zX hi;have hm:=zT h3;have hset:=JP h3;have hnt:=RH h3;generalize p.kids[i]=a at h3 hm hset hnt;have hkk:=ih a hm;have w2:IntKind.i64.wrap ((i:Int)+1)=i+1:=wrO;rw[Pn.aB a]at hkk hnt;rw[Pn.aB a.shp]at hkk hset;simp[AO7,hi,hkk,w2,hset,hnt]
 ·intro i hi;rw[he]at hi;simp at hi
def AQ4 (p:Pn) (i:Nat):AS :=
 { env:=[(0, .i (.agg [.int p.kind, .int p.table, .isl (Ex.aA p.exprs), .isl (aI p.cols), .isl (Pn.aA p.kids)])),(1, .own 0 0),(2, .own 1 0),(3, .own 2 0),(4, .int i),(5, .junk),(12,jk i (.bool true)),(29, .junk)],
   st:=[some (.box [.int p.kind, .int p.table, .i (.isl (Ex.aA p.exprs)), .i (.isl (aI p.cols)), .i (.isl (Pn.aA p.kids))]),some (.box [.int 0, .int 0, .nils, .nils, .nils]),some (.box [.int p.kind, .int p.table, .nils, .osl 3 1 0 p.cols.length, .nils]),some (.arr 1 (aI p.cols))] }
def AQ6 (p:Pn) (i:Nat):AS :=
 { env:=[(0, .i (.agg [.int p.kind, .int p.table, .isl (Ex.aA p.exprs), .isl (aI p.cols), .isl (Pn.aA p.kids)])),(1, .own 0 0),(2, .own 1 0),(3, .own 2 0),(4, .int p.exprs.length),(5, .int i),(12, .bool false),(29,jk i (.bool true))],
   st:=[some (.box [.int p.kind, .int p.table, .i (.isl (Ex.aA p.exprs)), .i (.isl (aI p.cols)), .i (.isl (Pn.aA p.kids))]),some (.box [.int 0, .int 0, .nils, .nils, .nils]),some (.box [.int p.kind, .int p.table, .nils, .osl 3 1 0 p.cols.length, .nils]),some (.arr 1 (aI p.cols))] }
theorem U7 {p:Pn} (hp:p.thin) (he:p.exprs=[]) (hk:p.kids=[])
 (ih:∀ a∈p.kids,aH C0 20 [.i (.agg a.cells)] []=some (.i (.agg a.shp.cells),[])) :
 aH C0 20 [.i (.agg p.cells)] []=some (.i (.agg p.shp.cells),[]):=by
 have hc:=lN p hp;obtain⟨t1,t2,t3,t4,-⟩:=(Pn.dV _).1 hp;simp[pcX,pcS,he,Ex.aA,hk,Pn.aA]at hc;rw[aF rfl Tryd.func20 rfl rfl,Pn.fC p];rw[Pn.aB p]at hc ⊢;simp only[Pn.cells];simp only[he,Ex.aA]at hc ⊢;simp only[hk,Pn.aA]at hc ⊢;simp[hc];rw[aU (AQ4 p) p.exprs.length (by simp[AQ4,pK,he,hk,Ex.aA,Pn.aA])]
 ·rw[aD];simp only[AQ4,gY];simp[he,hk,Ex.aA,Pn.aA];rw[aU (AQ6 p) p.kids.length (by simp[AQ6,pJ,gY,he,hk,Ex.aA,Pn.aA])]
  ·rw[aD];simp only[AQ6,uB,gY];have z1:(Ex.aA (p.exprs.map Ex.shp)).take p.exprs.length=Ex.aA (p.exprs.map Ex.shp):=zY (by simp);have z2:(Pn.aA (p.kids.map Pn.shp)).take p.kids.length=Pn.aA (p.kids.map Pn.shp):=zY (by simp);have z3:(aI p.cols).take p.cols.length=aI p.cols:=zY (by simp);simp[← Ex.fE,← Pn.fE]at z1 z2 ⊢;simp[z1,z2,z3,he,hk,Ex.aA,Ex.KJ,Pn.aA,Pn.KJ]
  ·intro i hi;rw[hk]at hi;simp at hi
 ·intro i hi;rw[he]at hi;simp at hi
theorem U3:∀ p:Pn,p.thin→aH C0 20 [.i (.agg p.cells)] []=some (.i (.agg p.shp.cells),[]):=by
 intro p
 induction p using Pn.ind with
 | h k t es cs ks ih =>
  intro ht;have ih2:∀ a∈(Pn.mk k t es cs ks).kids,aH C0 20 [.i (.agg a.cells)] []=some (.i (.agg a.shp.cells),[]):=fun a ha=>ih a ha (((Pn.dV _).1 ht).2.2.2.2 a ha)
  by_cases he:(Pn.mk k t es cs ks).exprs=[]
  ·by_cases hk:(Pn.mk k t es cs ks).kids=[]
   ·exact U7 ht he hk ih2
   ·exact U6 ht he hk ih2
  ·by_cases hk:(Pn.mk k t es cs ks).kids=[]
   ·exact U5 ht he hk ih2
   ·exact U4 ht he hk ih2
end Go.Proofs.YtmcjmafajkeecaaDoor.P
namespace Go.Av
def Val.cmp (a b:Val):Int:=if a.null=true then(if b.null=true then 0 else -1)else if b.null=true then 1 else if a.n<b.n then -1 else if b.n<a.n then 1 else 0
def R3:List Val→List Val→Int
 | [],[]=>0
 | [],_::_=>-1
 | _::_,[]=>1
 | a::l,b::m=>if Val.cmp a b=0 then R3 l m else Val.cmp a b
def AGB (a b:List Val):Bool:=decide (R3 a b≤0)
def AS9 (l:List (List Val)) (r:List Val):List (List Val):=l.takeWhile (fun x=>AGB x r)++r::l.dropWhile (fun x=>AGB x r)
def AOD (l:List (List Val)):List (List Val):=l.foldl AS9 []
def AOE (l:List (List Val)):List (List IV):=l.map fun r=>[.isl (AJX r)]
structure Tbl where
 w:Int
 rows:List (List Val)
def Tbl.cells (t:Tbl):List IV:=[.int t.w, .isl (AOE t.rows)]
def tab (w:Int) (rows:List (List Val)):Tbl:=if 400<rows.length then⟨w,[]⟩else⟨w,AOD rows⟩
def chainB:List (List Val)→Bool
 | a::b::l=>AGB a b && chainB (b::l)
 | _=>true
def rowOk (w:Int) (r:List Val):Bool:=decide ((r.length:Int)=w) && r.all Val.ok
def Tbl.ok (t:Tbl):Bool:=cB t.w && (decide (t.rows.length≤400) && (t.rows.all (rowOk t.w) && chainB t.rows))
def isT (e:Ex) (r:List Val):Bool:=decide ((e.ev r).tr=2)
def AL9 (n:Int):List Val:=List.replicate n.toNat ⟨true,0⟩
def ALW (e:Ex) (rs:List (List Val)) (r:List Val):List (List Val):=(rs.map (r ++ ·)).filter (isT e)
def joinL (e:Ex) (outer:Bool) (w:Int) (rs:List (List Val)) (r:List Val):List (List Val) :=
 if(outer && (ALW e rs r).isEmpty)=true then [r++AL9 w]else ALW e rs r
def ALV (e:Ex) (outer:Bool) (a b:Tbl):List (List Val):=a.rows.flatMap (joinL e outer b.w b.rows)
def dd:List Val→List (List Val)→List (List Val)
 | _,[]=>[]
 | p,a::l=>if R3 p a=0 then dd a l else a::dd a l
def AM7:List (List Val)→List (List Val)
 | []=>[]
 | a::l=>a::dd a l
def AOJ (cs:List Int) (r:List Val):List Val:=cs.map fun c=>(r[c.toNat]?).getD Val.zero
def bump (key:List Val):List (List Val×Nat)→List (List Val×Nat)
 | []=>[(key,1)]
 | g::l=>if R3 g.1 key=0 then(g.1,g.2+1)::l else g::bump key l
def groups (cs:List Int) (rows:List (List Val)):List (List Val×Nat):=rows.foldl (fun acc r=>bump (AOJ cs r) acc) []
def AL8 (g:List Val×Nat):List Val:=g.1++[⟨false,(g.2:Int)⟩]
def NH (cs:List Int) (rows:List (List Val)):List (List Val):=(groups cs rows).map AL8
def AG0:Tbl:=⟨0,[]⟩
def exO (es:List Ex):Ex:=(es[0]?).getD (.mk 0 0 Val.zero [])
def evK (db:List Tbl) (k t:Int) (es:List Ex) (cs:List Int) (a b:Tbl):Tbl :=
 if k=1 then tab ((db[t.toNat]?).getD AG0).w ((db[t.toNat]?).getD AG0).rows
 else if k=2 then tab a.w (a.rows.filter (isT (exO es)))
 else if k=3 then tab es.length (a.rows.map fun r=>es.map (Ex.ev r))
 else if k=4∨k=5 then tab (a.w+b.w) (ALV (exO es) (decide (k=5)) a b)
 else if k=6 then tab a.w (a.rows++b.rows)
 else if k=7 then tab a.w (AM7 a.rows)
 else tab ((cs.length:Int)+1) (NH cs a.rows)
mutual
def Pn.evP (db:List Tbl):Pn→Tbl
 | .mk k t es cs ks=>evK db k t es cs (((Pn.APA db ks)[0]?).getD AG0) (((Pn.APA db ks)[1]?).getD AG0)
def Pn.APA (db:List Tbl):List Pn→List Tbl
 | []=>[]
 | p::ps=>Pn.evP db p::Pn.APA db ps
end
theorem IP {w:Int}:∀ {cs:List Int} (m:Int),((cs.zip (m::cs)).all fun x=>decide (x.2<x.1∧x.1<w))=true→(∀ c∈cs,m<c∧c<w)
 | [],m,_,c,hc=>by simp at hc
 | a::cs,m,h,c,hc=>by
  simp only[List.zip_cons_cons,List.all_cons,zU,zL]at h
  rcases zQ.1 hc with rfl|hc
  ·exact h.1
  ·have:=IP (w:=w) a h.2 c hc;omega
theorem WI {w:Int} {cs:List Int} (h:nH w cs=true):∀ c∈cs,0≤c∧c<w:=by
 intro c hc;have:=IP (w:=w) (-1) h c hc;omega
@[simp] theorem Ex.ZR (k c:Int) (v:Val) (l:List Ex):(Ex.mk k c v l).kind=k:=rfl
@[simp] theorem Ex.APV (k c:Int) (v:Val) (l:List Ex):(Ex.mk k c v l).col=c:=rfl
@[simp] theorem Ex.AJY (k c:Int) (v:Val) (l:List Ex):(Ex.mk k c v l).val=v:=rfl
@[simp] theorem Ex.ZT (k c:Int) (v:Val) (l:List Ex):(Ex.mk k c v l).kids=l:=rfl
theorem qO {n:Int} (h0:0≤n) (h:n<10):(dgI n).length=1:=by rw[qA h0 h];rfl
theorem ALD (k:Int):(nmE k).length≤4:=by
 unfold nmE;repeat' split
 all_goals simp
theorem ALC (k:Int):(nmP k).length≤8:=by
 unfold nmP;repeat' split
 all_goals simp
theorem Ex.AOA {w:Int} (hw:w≤6):∀ (n:Nat) (e:Ex),e.vB w n=true→e.shp.tx∧(txE e.shp).length+8≤10*2 ^ n:=by
 intro n
 induction n with
 | zero =>
  intro e h;simp only[Ex.vB,zU,zL]at h;obtain⟨h1,h2,h3⟩:=h
  rcases Ex.nA w e with hf|⟨-,hc|hc|hc⟩
  ·rw[hf]at h3;cases h3
  ·obtain⟨c1,c2,c3,c4,c5,c6⟩:=hc;have hk:e.kids=[]:=zZ.1 (by omega);rw[Ex.fC,if_neg (by omega),hk];refine⟨(Ex.kP _).2 (.inl ⟨by simpa using c1,by simpa using c2,by simp;omega⟩),?_⟩;rw[BQ,if_pos (by simpa using c1)];have:=qO (n:=e.col) c2 (by omega);simp[this]
  ·obtain⟨c1,-⟩:=hc;rw[Ex.fC,if_pos c1];refine⟨(Ex.kP _).2 (.inr (.inl ⟨rfl,rfl⟩)),?_⟩;rw[BQ,if_neg (by simp),if_pos (by simp)];have:=qO (n:=0) (by omega) (by omega);simp[txV,this]
  ·exfalso;obtain⟨c1,c2,-⟩:=hc;unfold bQ at h1 h2;rw[if_neg (by omega)]at h1 h2;split at h2
   ·omega
   ·split at h2
    ·omega
    ·rename_i q1 q2;rw[if_neg q1,if_neg q2]at h1;omega
 | succ n ih =>
  intro e h;have hp:1≤2 ^ n:=xX;simp only[Ex.vB,zU,zL]at h;obtain⟨h1,h3,h4⟩:=h
  rcases Ex.nA w e with hf|⟨-,hc|hc|hc⟩
  ·rw[hf]at h3;cases h3
  ·obtain⟨c1,c2,c3,c4,c5,c6⟩:=hc;have hk:e.kids=[]:=zZ.1 (by omega);rw[Ex.fC,if_neg (by omega),hk];refine⟨(Ex.kP _).2 (.inl ⟨by simpa using c1,by simpa using c2,by simp;omega⟩),?_⟩;rw[BQ,if_pos (by simpa using c1)];have:=qO (n:=e.col) c2 (by omega);simp[this];omega
  ·obtain⟨c1,-⟩:=hc;rw[Ex.fC,if_pos c1];refine⟨(Ex.kP _).2 (.inr (.inl ⟨rfl,rfl⟩)),?_⟩;rw[BQ,if_neg (by simp),if_pos (by simp)];have:=qO (n:=0) (by omega) (by omega);simp[txV,this];omega
  ·obtain⟨c1,c2,-⟩:=hc
   have hk:3≤e.kind∧e.kind≤11∧e.kids.length≤2:=by
    unfold bQ at h1;rw[if_neg (by omega)]at h1;split at h1
    ·omega
    ·split at h1<;>omega
   have hall:∀ a∈e.kids,a.shp.tx∧(txE a.shp).length+8≤10*2 ^ n:=fun a ha=>ih a (zJ.1 h4 a ha)
   rw[Ex.fC,if_neg (by omega)];refine⟨(Ex.kP _).2 (.inr (.inr ⟨by simpa using hk.1,by simpa using hk.2.1,?_⟩)),?_⟩
   ·intro a ha;simp at ha;obtain⟨b,hb,rfl⟩:=ha;exact(hall b hb).1
   ·rw[BQ,if_neg (by simpa using c1),if_neg (by simpa using c2)];have hn:=ALD e.kind
    have hL:∀ l:List Ex,(∀ a∈l,(txE a.shp).length+8≤10*2 ^ n)→(oW (l.map Ex.shp)).length+7*l.length≤l.length*(10*2 ^ n):=by
     intro l
     induction l with
     | nil=>intro _;simp[oW]
     | cons a l ihl =>
      intro ha;have q1:=ha a (by simp);have q2:=ihl fun b hb=>ha b (by simp[hb])
      simp only[yP,oW,zS,zR,Nat.add_mul];omega
    have hq:=hL e.kids fun a ha=>(hall a ha).2
    simp only[Ex.ZR,Ex.ZT,zS,zR,zI];rw[xC];have hkl:e.kids.length=0∨e.kids.length=1∨e.kids.length=2:=by omega
    rcases hkl with h0|h0|h0<;>rw[h0]at hq<;>omega
theorem Ex.AOB {w:Int} {e:Ex} (h:e.ok w=true):e.shp.tx∧(txE e.shp).length≤2552:=by
 unfold Ex.ok at h;simp only[zU]at h;have hw:w≤6:=by have:=h.1;simp[cB]at this;omega
 obtain⟨h1,h2⟩:=Ex.AOA hw 8 e h.2;exact⟨h1,by omega⟩
theorem KT {p:Pn} {a b:Int} (hd:p.headOk=true) (ha:a≤6) (h:bP p.kind p.exprs p.cols a b≠0):(∀ e∈p.exprs,e.shp.tx∧(txE e.shp).length≤2552)∧p.cols.length≤5∧∀ c∈p.cols,0≤c∧c<10:=by
 unfold Pn.headOk at hd;simp only[zU,xU,zL]at hd;obtain⟨d1,d2,d3,d4⟩:=hd;have hno:p.exprs.length=0→∀ e∈p.exprs,e.shp.tx∧(txE e.shp).length≤2552:=fun h0 e he=>by rw[zZ.1 h0]at he;cases he
 have hcn:p.kind≠8→p.cols.length≤5∧∀ c∈p.cols,0≤c∧c<10:=fun h8=>by
  rcases d4 with d|d
  ·exact absurd d h8
  ·rw[d];simp
 have hal:∀ w:Int,p.exprs.all (Ex.ok w)=true→∀ e∈p.exprs,e.shp.tx∧(txE e.shp).length≤2552:=fun w hw e he=>Ex.AOB (zJ.1 hw e he)
 unfold bP at h;split at h
 ·split at h
  ·rename_i h1 h2;exact⟨hal _ h2.2,hcn (by omega)⟩
  ·exact absurd rfl h
 ·split at h
  ·rename_i h1 h2;refine⟨hno ?_,hcn (by omega)⟩;rw[if_neg (by omega)]at d2;unfold dN at d2;rw[if_neg (by omega)]at d2;omega
  ·split at h
   ·rename_i h1 h2 h3;split at h
    ·rename_i h4;refine⟨hno ?_,by omega,fun c hc=>?_⟩
     ·rw[if_neg (by omega)]at d2;unfold dN at d2;rw[if_neg (by omega)]at d2;omega
     ·have:=WI h4.2 c hc;omega
    ·exact absurd rfl h
   ·rename_i h8;split at h
    ·split at h
     ·rename_i h9;exact⟨hal _ h9,hcn (by omega)⟩
     ·exact absurd rfl h
    ·split at h
     ·rename_i h9;exact⟨hal _ h9,hcn (by omega)⟩
     ·exact absurd rfl h
theorem AEA:∀ l:List Int,(∀ c∈l,0≤c∧c<10)→(txC l).length=3*l.length
 | [],_=>rfl
 | c::l,h=>by
  have h1:=qO (h c (by simp)).1 (h c (by simp)).2;have h2:=AEA l fun a ha=>h a (by simp[ha])
  simp only[txC,zS,zR];omega
theorem Y2:∀ l:List Ex,(∀ e∈l,(txE e.shp).length≤2552)→(oW (l.map Ex.shp)).length≤2553*l.length
 | [],_=>by simp[oW]
 | a::l,h=>by
  have h1:=h a (by simp);have h2:=Y2 l fun b hb=>h b (by simp[hb])
  simp only[yP,oW,zS,zR];omega
theorem Y1 {B:Nat}:∀ l:List Pn,(∀ a∈l,(txP a.shp).length≤B)→(F9 (l.map Pn.shp)).length≤l.length*(B+1)
 | [],_=>by simp[F9]
 | a::l,h=>by
  have h1:=h a (by simp);have h2:=Y1 l fun b hb=>h b (by simp[hb])
  have e1:(l.length+1)*(B+1)=l.length*(B+1)+(B+1):=Nat.succ_mul _ _;simp only[yP,F9,zS,zR];rw[e1];omega
theorem Pn.AO9 {ws:List Int} (hw:KM ws=true) (hr:∀ w∈ws,0≤w∧w≤6):∀ (p:Pn) (n:Nat),p.wd ws n≠0→p.shp.tx∧(txP p.shp).length+15400≤15500*2 ^ n:=by
 intro p
 induction p using Pn.ind with
 | h k t es cs ks ih =>
  intro n h;have hp:1≤2 ^ n:=xX;generalize hpp:Pn.mk k t es cs ks=p at *
  have hks:ks=p.kids:=by rw[← hpp];rfl
  subst hks;rw[Pn.sZ]at h;split at h
  case isFalse=>exact absurd rfl h
  rename_i hc;obtain⟨hd,hk0⟩:=hc;have he6:=Pn.kG hd;have hk2:=Pn.sI hd;have hd':=hd;unfold Pn.headOk at hd';simp only[zU,xU,zL]at hd';obtain⟨d1,d2,d3,d4⟩:=hd';have hnp:=ALC p.kind;rw[Pn.fC];by_cases h1:p.kind=1
  ·rw[if_pos h1]at h;split at h
   case isFalse=>exact absurd rfl h
   rename_i h0
   have hex:p.exprs=[]:=by
    rw[h1,if_neg (by omega)]at d2;exact zZ.1 (by unfold dN at d2;rw[if_neg (by omega)]at d2;omega)
   have hkd:p.kids=[]:=by
    rw[h1]at d1;exact zZ.1 (by unfold gX at d1;rw[if_pos rfl]at d1;omega)
   have hcl:p.cols=[]:=by
    rcases d4 with d|d
    ·omega
    ·exact d
   have hlt:p.table<10:=by
    have hl4:ws.length≤4:=by simp[KM]at hw;omega
    rcases zB3 p.table.toNat ws.length with hq|hq
    ·omega
    ·rw[List.getElem?_eq_none hq]at h;exact absurd rfl h
   rw[hex,hkd,hcl];refine⟨(Pn.kP _).2 ⟨by simp;omega,by simp;intro _;exact⟨h0,hlt⟩,by simp,by simp,by simp⟩,?_⟩;rw[L8];have:=qO h0 hlt;simp[h1,this,txC,oW,F9];simp[nmP];omega
  ·rw[if_neg h1]at h;split at h
   case isFalse=>exact absurd rfl h
   rename_i hall;rw[zJ]at hall
   have hkk:p.kids≠[]:=by
    intro hn;rw[hn]at d1;unfold gX at d1;rw[if_neg h1]at d1;split at d1
    ·simp at d1
    ·split at d1
     ·simp at d1
     ·simp at d1
   obtain⟨m,rfl⟩:∃ m,n=m+1:=by
    rcases hk0 with hk0|hk0
    ·exact absurd hk0 hkk
    ·exact⟨n-1,by omega⟩
   have hIH:∀ a∈p.kids,a.shp.tx∧(txP a.shp).length+15400≤15500*2 ^ m:=fun a ha=>by
    have:=hall a ha;simp only[zL,Nat.add_sub_cancel]at this;exact ih a ha m this
   have ha6:((p.kids[0]?.map (Pn.wd ws (m+1-1))).getD 0)≤6:=by
    cases hz:p.kids[0]? with
    | none=>simp
    | some a=>simp only[zA3,Option.getD_some];exact(Pn.kR hr a _).2
   obtain⟨w1,w2,w3⟩:=KT hd ha6 h
   have hkk1:1≤p.kind∧p.kind≤8:=by
    unfold gX at d1;rw[if_neg h1]at d1;split at d1
    ·omega
    ·split at d1<;>omega
   refine⟨(Pn.kP _).2 ⟨by simpa using hkk1,fun hq=>absurd (by simpa using hq) h1,by simpa using w3,?_,?_⟩,?_⟩
   ·intro e he;simp at he;obtain⟨b,hb,rfl⟩:=he;exact(w1 b hb).1
   ·intro a ha;simp at ha;obtain⟨b,hb,rfl⟩:=ha;exact(hIH b hb).1
   ·rw[L8,if_neg (show ¬ Pn.kind (Pn.mk p.kind p.table (p.exprs.map Ex.shp) p.cols (p.kids.map Pn.shp))=1 from h1)];have q1:=AEA p.cols w3;have q2:=Y2 p.exprs fun e he=>(w1 e he).2
    have hq:=Y1 p.kids (B:=15500*2 ^ m-15400) fun a ha=>by have:=(hIH a ha).2;omega
    have hp2:1≤2 ^ m:=xX
    have hkl:p.kids.length=1∨p.kids.length=2:=by
     have:p.kids.length≠0:=fun h=>hkk (zZ.1 h)
     omega
    simp only[Pn.eT,Pn.jB,Pn.cK,Pn.fA,Pn.jF,zS,zR,zI];rw[xC]
    rcases hkl with h0|h0<;>rw[h0]at hq<;>omega
theorem Pn.QS {ws:List Int} {p:Pn} (h:p.width ws≠0):p.shp.tx∧(txP p.shp).length<9000000:=by
 unfold Pn.width at h;split at h
 ·rename_i hw
  have hr:∀ w∈ws,0≤w∧w≤6:=by
   intro w hm;have h':=hw;simp only[KM,zU]at h';have:=zJ.1 h'.2 w hm;simp[cB]at this;omega
  obtain⟨h1,h2⟩:=Pn.AO9 hw hr p 8 h;exact⟨h1,by omega⟩
 ·exact absurd rfl h
def QI (p:Pn) (ws:List Int):List UInt8:=if p.width ws=0 then []else txP p.shp
end Go.Av
namespace Go.Proofs.YtmcjmafajkeecaaDoor.P
open Go Go.Av
set_option maxRecDepth 4000
set_option maxHeartbeats 4000000
theorem wG {p:Pn} {ws:List Int} (hp:p.thin) (hl:ws.length<9223372036854775808):aH C0 6 [.i (.agg p.cells), .i (.isl (aI ws))] []=some (.i (.lit (.string ⟨(QI p ws).toArray⟩)),[]):=by
 have c1:=TM p (Pn.J8 p hp) ws hl;have c2:=U3 p hp;rw[aF rfl Tryd.func6 rfl rfl];by_cases h:p.width ws=0
 ·rw[Pn.aB p]at *
  simp[c1,h,QI]
 ·obtain⟨t1,t2⟩:=Pn.QS h;have c3:=AC9 p.shp t1 t2;rw[Pn.aB p]at *
  rw[Pn.aB p.shp]at *
  simp[c1,h,c2,c3,QI]
end Go.Proofs.YtmcjmafajkeecaaDoor.P
namespace Go.Av
theorem Ex.AC7 {e:Ex} (hk:e.kids=[]) (h2:e.kind≠2) (hv:e.val=⟨false,0⟩):e.shp=e:=by
 obtain⟨k,c,v,ks⟩:=e;simp only[Ex.ZR,Ex.AJY,Ex.ZT]at hk h2 hv;rw[Ex.fC];simp[h2,hv,hk]
theorem Ex.YI {e:Ex} (h2:e.kind≠2) (hv:e.val=⟨false,0⟩):e.shp=.mk e.kind e.col e.val (e.kids.map Ex.shp):=by
 rw[Ex.fC,if_neg h2,hv]
end Go.Av
namespace Go.Proofs.YtmcjmafajkeecaaDoor.P
open Go Go.Av
set_option maxRecDepth 4000
set_option maxHeartbeats 4000000
theorem AD5:aH C0 30 [.int 0] []=some (.i (.agg [.bool false, .int 0]),[]):=by
 rw[aF rfl Tryd.func30 rfl rfl];simp
theorem AAI {e:Ex} (h:e.kind=2):aH C0 28 [.i (.iref e.cells)] []=some (.i (.agg (Ex.mk 2 0 ⟨false,0⟩ []).cells),[]):=by
 rw[aF rfl Tryd.func28 rfl rfl];have hc:=NG ⟨false,0⟩;have hn:=AD5;rw[Ex.aB e];simp at hc;simp[h,hc,hn]
theorem AI6 {e:Ex} (h:e.kind≠2) (hs:e.size<1000000000):aH C0 28 [.i (.iref e.cells)] []=some (.i (.agg e.cells),[]):=by
 rw[aF rfl Tryd.func28 rfl rfl];have hc:=AAE hs;rw[Ex.aB]at hc ⊢;simp[h,hc]
end Go.Proofs.YtmcjmafajkeecaaDoor.P
namespace Go.Proofs.YtmcjmafajkeecaaDoor
open Go Go.Av
set_option maxRecDepth 4000
noncomputable def C1:Ctx:={ P:=Tryd.prog,G:=GS,ownArgs:=dU,keepRes:=keepR,eqT:=wU,prim:=fun _=>none }
@[simp] theorem AdA:C1.P=Tryd.prog:=(rfl)
@[simp] theorem AdB (f):C1.G f=GS f:=(rfl)
@[simp] theorem Ad7 (f):C1.ownArgs f=dU f:=(rfl)
@[simp] theorem Ad8 (f):C1.keepRes f=keepR f:=(rfl)
@[simp] theorem Ad9 (f):C1.eqT f=wU f:=(rfl)
@[simp] theorem Ad6:C1.tree=false:=(rfl)
theorem AAB:aH C1 48 [.i (.isl [])] []=some (.nils,[]):=by
 rw[aF rfl Tryd.func48 rfl rfl];simp
theorem SX {ks:List Ex} (h:ks≠[]) (hl:ks.length<1000000000):aH C1 48 [.i (.isl (Ex.aA ks))] []=some (.osl 0 5 0 ks.length,[some (.arr 5 (Ex.aA ks))]):=by
 rw[aF rfl Tryd.func48 rfl rfl];have h1:56*(ks.length:Int)≤281474976710656:=by omega
 simp[h,h1];unfold over;simp
theorem gD:SoundOk C1:=iJ (C:=C1) ft nt eqS mo (YV fun _=>rfl)
def ptr (p:Nat×Nat):IV:=.lit (.pointer (some ⟨p.1,p.2,none⟩))
def zc:List AV:=[.int 0, .int 0, .bool false, .int 0, .nils]
def AIP (p:Nat×Nat):AS:={ env:=[(0, .i (ptr p))],st:=[] }
def AQ2 (e:Ex) (p:Nat×Nat):AS:={ env:=[(0, .i (ptr p)),(2, .own 0 0),(3, .own 1 0),(4, .junk),(5, .junk),(6, .junk),(13, .junk),(37, .junk),(38, .junk),(39, .junk)],st:=[some (.box zc),some (.box (kQ e.cells))] }
def SL (b3:Nat) (todo X:KL):AS :=
 { env:=[(0, .junk),(2, .own 0 0),(3, .i (ptr (b3,0))),(4, .osl 1 1 0 todo.length),(5, .junk),(6, .junk),(13, .junk),(37, .junk),(38, .junk),(39, .junk)],st:=[some (.box zc),some (.arr 1 ((todo++X).map fun k=>[ptr k.1]))] }
theorem CV:∀ (l:KL),∀ c∈(l.map fun k=>[ptr k.1]).flatten,∃ v,c=.lit v
 | [],c,h=>by simp at h
 | k::l,c,h=>by
  simp only[yP,zF,zV,xW]at h
  rcases h with rfl|h
  ·exact⟨_,rfl⟩
  ·exact CV l c h
def PP (b3:Nat) (b o n:Nat) (x:Ex) (ES:List (List IV)) (env:Nat→AV) (st:Store):Prop :=
 env 2=.own 0 0∧env 3=.i (ptr (b3,0))∧env 4=.osl 1 1 0 n∧env 5=.i (ptr (b,o))∧env 32=.i (ptr (b,o+4))∧st 0=some (.box zc)∧st 1=some (.arr 1 ES) ∧
  ((env 30=.nils∧x.kids=[])∨∃ id,env 30=.osl id 5 0 x.kids.length∧x.kids≠[]∧st id=some (.arr 5 (Ex.aA x.kids))∧2≤id)
theorem XK:IntKind.i64.wrap 1=1:=wrO
def RW (init:KL) (b' i:Nat):List (List IV):=(init.map fun k=>[ptr k.1])++(List.range i).map fun j=>[ptr (b',j*5)]
theorem OG (init:KL) (b' i:Nat):(RW init b' i).length=init.length+i:=by simp[RW]
theorem F8 (init:KL) (b' i:Nat):RW init b' i++[[ptr (b',i*5)]]=RW init b' (i+1):=by simp[RW,zB2]
theorem mX (b:Nat):∀ (o:Nat) (l:List Ex),(bH b o l).map (fun k=>[ptr k.1])=(List.range l.length).map fun j=>[ptr (b,o+j*5)]
 | _,[]=>by simp[bH]
 | o,a::l=>by
  simp only[bH,yP,mX b (o+5) l,zS,zA9,List.map_map];simp only[List.cons.injEq,Nat.zero_mul,yE,true_and];apply zA2;intro j _;simp only[Function.comp,Nat.succ_eq_add_one];rw[show o+5+j*5=o+(j+1)*5 by omega]
theorem mY (b:Nat):∀ (o:Nat) (l:List Ex),(bH b o l).length=l.length
 | _,[]=>rfl
 | o,a::l=>by simp[bH,mY b (o+5) l]
theorem mW (b:Nat):∀ (o:Nat) (l:List Ex),((bH b o l).map fun k=>k.2.size).sum=Ex.aX l
 | _,[]=>rfl
 | o,a::l=>by simp[bH,Ex.aX,mW b (o+5) l]
def YS (b3 b' cap:Nat) (x:Ex) (init:KL) (ES:List (List IV)) (i:Nat):AS :=
 { env:=[(0, .junk),(2, .own 0 0),(3, .i (ptr (b3,0))),(4,if i=0 then .osl 1 1 0 init.length else .osl 2 1 0 (init.length+i)),(5, .i (.iref [.int x.kind, .int x.col, .bool x.val.null, .int x.val.n, .lit (.slice (some ⟨b',0,none⟩) x.kids.length cap)])),(6,jk i (.int (i-1))),(13, .junk),(37, .int x.kids.length),(38, .int i),(39,jk i (.bool true))],
   st:=some (.box zc)::if i=0 then [some (.arr 1 ES)]else [none,some (.arr 1 (RW init b' i))] }
set_option maxHeartbeats 1000000
theorem NV {e:Ex} (he:e.size<1000000000) {wi:World} {mi:Mem} {b o:Nat} (hi:Inv wi mi (fun _=>none) (aV []))
 (hrun:∀ w',wi.heap.size≤w'.heap.size→(∀ f,f<wi.heap.size→w'.heap[f]?=wi.heap[f]?)→∃ y,(Instr.loadAt 45 (.pointer (some ⟨b,o,none⟩))).run C1.P w'=.ok y w'∧IRep mi (.agg e.cells) y) :
 Calls Tryd.prog 31 #[.pointer (some ⟨b,o,none⟩)] wi (bR wi mi (fun _=>none) (.i (.agg e.cells)) []):=by
 refine calls_of_wp (fn:=Tryd.f31) Tryd.func31 rfl ?_
 have g0:GG wi mi 52 (fun id=>id<(AIP (b,o)).st.length) [] (aW (AIP (b,o)).env) (aV (AIP (b,o)).st) { tmps:=[Value.pointer (some ⟨b,o,none⟩)].toArray++Array.replicate (52-1) undef,defers:=[] } wi:=by
  refine⟨⟨mi,fun _=>none,hi,?_, .refl _ _ _,fun id h=>absurd rfl h,fun k hk=>by simp at hk⟩,by simp,rfl⟩;intro t;have:=pX (m:=mi) (φ:=fun _=>none) (52-1) (show RepL mi (fun _=>none) [.i (ptr (b,o))] [.pointer (some ⟨b,o,none⟩)]from .cons (.i (.lit _)) .nil) t
  cases t with
  | zero=>simpa [AIP,aW,AR]using this
  | succ t=>simp only[AIP,aW];simp;exact .junk _
 refine wp_seq (wp_mono (GG.iA gD (G:=GS 31) (S:=AIP (b,o)) (e:=.normal) (S':={ env:=[(0, .i (ptr (b,o))),(2, .own 0 0),(3, .junk),(4, .junk),(5, .junk),(6, .junk),(13, .junk),(37, .junk),(38, .junk),(39, .junk)],st:=[some (.box zc)] }) (by kernel_rfl) (by simp[AIP,zc,ptr]) g0) ?_);rintro _ a1 w1 ⟨rfl,g1⟩
 refine wp_seq (GG.AGH gD (os1:=[_,_]) (os2:=[_,_]) (G:=GS 31) (S:={ env:=[(0, .i (ptr (b,o))),(2, .own 0 0),(3, .junk),(4, .junk),(5, .junk),(6, .junk),(13, .junk),(37, .junk),(38, .junk),(39, .junk)],st:=[some (.box zc)] }) (S':=AQ2 e (b,o)) rfl (by
  have h:∀ ops:Array Oper,ops.all (iT 52)=true→∀ o∈ops,iT 52 o=true:=fun ops h o ho=>yG.1 h o ho
  exact h _ (by kernel_rfl)) g1 (by decide) hrun ?_ ?_)
 ·rw[Ex.aB];simp[AQ2,zc,ptr,Ex.aB]
 intro a2 w2 g2
 obtain⟨b3,g3⟩:=g2.pub (u:=3) (id:=1) (e:=e) (st':=aV [some (.box zc)]) (ok':=fun id=>id<1) rfl rfl (by
  intro i blk h
  cases i with
  | zero=>simp[aV]at h;subst h;exact⟨by omega,rfl,by simp[fQ,zc]⟩
  | succ i=>simp[aV]at h) (by
  intro i h
  cases i with
  | zero=>omega
  | succ i=>simp[aV]at h)
 have g3:=g3 (aW [(2, .own 0 0),(3, .i (ptr (b3,0)))]) (by
  intro t;simp only[aW];by_cases h2:t=2
  ·subst h2;exact .inr (.inr ⟨rfl,by simp[AQ2,aW,iX,aV]⟩)
  ·by_cases h3:t=3
   ·subst h3;exact .inr (.inl ⟨rfl,rfl⟩)
   ·simp[h2,h3])
 refine wp_seq (wp_mono (GG.iA gD (G:=GS 31) (S:={ env:=[(2, .own 0 0),(3, .i (ptr (b3,0)))],st:=[some (.box zc)] }) (e:=.normal) (S':=SL b3 [((b3,0),e)] []) (by kernel_rfl) (by simp[SL,ptr,zc]) g3) ?_);rintro _ a3 w3 ⟨rfl,g4⟩;refine wp_seq (wp_block ?_);refine BJ (fun n a w=>∃ todo X K:KL,(∀ k∈todo,k∈K)∧((b3,0),e)∈K∧(todo.map fun k=>k.2.size).sum=n∧n<1000000000∧GG wi mi 52 (fun id=>id<(SL b3 todo X).st.length) K (aW (SL b3 todo X).env) (aV (SL b3 todo X).st) a w) ?_ (n:=e.size) ⟨[((b3,0),e)],[],[((b3,0),e)],fun k hk=>hk,by simp,by simp,he,g4⟩;rintro n a w ⟨todo,X,K,hsub,hb3,hsum,hn,g⟩
 rcases List.eq_nil_or_concat todo with rfl|⟨init,k,rfl⟩
 ·refine wp_mono (GG.iA gD (G:=GS 31) (S:=SL b3 [] X) (e:=.exit 0) (S':={ env:=[(0, .junk),(2, .own 0 0),(3, .i (ptr (b3,0))),(4, .osl 1 1 0 0),(5, .junk),(6, .junk),(13, .bool false),(37, .junk),(38, .junk),(39, .junk)],st:=[some (.box zc),some (.arr 1 (X.map fun k=>[ptr k.1]))] }) (by kernel_rfl) (by simp[SL,ptr,zc]) g) ?_;rintro _ a5 w5 ⟨rfl,g5⟩;simp only[jH,Exit.then,Exit.inBlock,if_true]
  have g6:=(g5.see (u:=3) (b:=b3) (o:=0) rfl hb3).envTo (env':=aW [(2, .own 0 0),(3, .i (.iref e.cells))]) (by
   intro t;simp only[aW,upd];by_cases h2:t=2
   ·subst h2;simp
   ·by_cases h3:t=3
    ·subst h3;simp
    ·simp[h2,h3])
  refine wp_mono (GG.iA gD (G:=GS 31) (S:={ env:=[(2, .own 0 0),(3, .i (.iref e.cells))],st:=[some (.box zc),some (.arr 1 (X.map fun k=>[ptr k.1]))] }) (e:=.ret) (S':={ env:=[(0, .junk),(2, .own 0 0),(3, .i (.iref e.cells)),(4, .junk),(5, .junk),(6, .junk),(13, .junk),(37, .junk),(38, .junk),(39, .junk)],st:=[some (.box (kQ e.cells)),some (.arr 1 (X.map fun k=>[ptr k.1]))] }) (by kernel_rfl) (by simp[zc]) g6) ?_;rintro _ a6 w6 ⟨rfl,g7⟩;obtain⟨⟨m,φ,q1,q2,q3,q4,q5⟩,q6,q7⟩:=g7
  obtain⟨v,k1,k2⟩:=kH (C:=C1) (fn:=Tryd.f31) (keep:=false) (na:=0) (S:={ env:=[(0, .junk),(2, .own 0 0),(3, .i (.iref e.cells)),(4, .junk),(5, .junk),(6, .junk),(13, .junk),(37, .junk),(38, .junk),(39, .junk)],st:=[some (.box (kQ e.cells)),some (.arr 1 (X.map fun k=>[ptr k.1]))] }) (r:=.i (.agg e.cells)) (stl':=[]) (fun id h=>absurd rfl h) ⟨⟨⟨m,φ,q1,q2,q3,q4, .nil _ _ _⟩,q6,q7⟩,zA6 _⟩ (by
   show finish C1 false [ResultVar.cell 2 45] 0 _=_
   simp)
  exact⟨q7,v,k1,k2⟩
 ·clear g0 g4 g3 g1 g2;obtain⟨⟨b,o⟩,x⟩:=k
  have hlen:∀ l:KL,l.length≤(l.map fun k=>k.2.size).sum:=by
   intro l
   induction l with
   | nil=>simp
   | cons a l ih=>have:=Ex.nS a.2;simp;omega
  have hil:=hlen init;simp at hsum;have hxk:((b,o),x)∈K:=hsub _ (by simp);have hxs:=Ex.size_eq x;have hkl:=Ex.eF x.kids;have hne:¬ ((init.length:Int)+1≤0):=by omega
  have hpos:(0:Int)<(init.length:Int)+1:=by omega
  have w1:IntKind.i64.wrap (init.length:Int)=init.length:=wrO;generalize hES:((init++[((b,o),x)]++X).map fun k=>[ptr k.1])=ES
  have hnth:gW ES init.length=some [ptr (b,o)]:=by
   rw[gM,← hES];simp
  have hlit:∀ c∈ES.flatten,∃ v,c=.lit v:=by rw[← hES];exact CV _
  have hlt:(init.length:Int)<(init.length:Int)+1:=by omega
  have hlt2:(init.length:Int)≤(init.length:Int)+1:=by omega
  refine wp_seq (wp_mono (GG.iA gD (G:=GS 31) (S:=SL b3 (init++[((b,o),x)]) X) (e:=.normal) (S':={ env:=[(0, .junk),(2, .own 0 0),(3, .i (ptr (b3,0))),(4, .osl 1 1 0 (init.length+1)),(5, .junk),(6, .junk),(13, .bool true),(37, .junk),(38, .junk),(39, .junk)],st:=[some (.box zc),some (.arr 1 ES)] }) (by kernel_rfl) (by simp only[SL,hES];simp[ptr,zc,hpos]) (by simpa using g)) ?_);rintro _ a5 w5 ⟨rfl,g5⟩;clear g;refine wp_block ?_;refine wp_seq (wp_mono (GG.iA gD (G:=GS 31) (S:={ env:=[(0, .junk),(2, .own 0 0),(3, .i (ptr (b3,0))),(4, .osl 1 1 0 (init.length+1)),(5, .junk),(6, .junk),(13, .bool true),(37, .junk),(38, .junk),(39, .junk)],st:=[some (.box zc),some (.arr 1 ES)] }) (e:=.normal) (S':={ env:=[(0, .junk),(2, .own 0 0),(3, .i (ptr (b3,0))),(4, .osl 1 1 0 (init.length+1)),(5,(.i (ptr (b,o)))),(6, .junk),(13, .bool true),(37, .junk),(38, .junk),(39, .junk)],st:=[some (.box zc),some (.arr 1 ES)] }) (by kernel_rfl) (by simp only[ptr]at hnth;simp[ptr,zc,hnth,w1,hlt]) g5) ?_);rintro _ a6 w6 ⟨rfl,g6⟩;clear g5;refine wp_seq (wp_mono (GG.iA gD (G:=GS 31) (S:={ env:=[(0, .junk),(2, .own 0 0),(3, .i (ptr (b3,0))),(4, .osl 1 1 0 (init.length+1)),(5,(.i (ptr (b,o)))),(6, .junk),(13, .bool true),(37, .junk),(38, .junk),(39, .junk)],st:=[some (.box zc),some (.arr 1 ES)] }) (e:=.normal) (S':={ env:=[(0, .junk),(2, .own 0 0),(3, .i (ptr (b3,0))),(4, .osl 1 1 0 init.length),(5,(.i (ptr (b,o)))),(6, .junk),(13, .bool true),(37, .junk),(38, .junk),(39, .junk)],st:=[some (.box zc),some (.arr 1 ES)] }) (by kernel_rfl) (by simp[ptr,zc,w1,hlt2]) g6) ?_);rintro _ a7 w7 ⟨rfl,g7⟩;clear g6
  refine wp_seq (GG.region gD (os1:=[_,_]) (os2:=[_,_,_,_,_,_]) (u:=26) (PP:=PP b3 b o init.length x ES) rfl (by
   have h:∀ ops:Array Oper,ops.all (iT 52)=true→∀ o∈ops,iT 52 o=true:=fun ops h o ho=>yG.1 h o ho
   exact h _ (by kernel_rfl)) g7 hxk ?_ ?_)
  ·rw[Ex.aB];by_cases hx:x.kids=[]
   ·simp[ptr,zc,hx,PP,Ex.aA,AAB]
   ·simp[ptr,zc,PP,SX hx (by omega),hx]
  ·rintro env st a8 w8 ⟨p2,p3,p4,p5,p32,q0,q1,p30⟩ g8;clear g7
   obtain⟨w9,b',ao,cap,e1,e2,hrun,hG⟩:=GG.turn (C:=C1) (ok':=fun id=>id<2) (st':=aV [some (.box zc),some (.arr 1 ES)]) (u:=30) (t:=29) g8 (by simp) hi.mem hxk rfl (by
    rcases p30 with ⟨h1,h2⟩|⟨id,h1,h2,h3,h4⟩
    ·refine .inl ⟨h1,h2,?_⟩;intro i blk h
     rcases i with _|_|i
     ·simp[aV]at h;subst h;exact q0
     ·simp[aV]at h;subst h;exact q1
     ·simp[aV]at h
    ·refine .inr ⟨id,h1,h2,h3,?_⟩;intro i blk h
     rcases i with _|_|i
     ·simp[aV]at h;subst h;exact⟨by omega,q0⟩
     ·simp[aV]at h;subst h;exact⟨by omega,q1⟩
     ·simp[aV]at h) (by
    intro i blk h
    rcases i with _|_|i
    ·simp[aV]at h;subst h;simp[fQ,zc]
    ·simp[aV]at h;subst h;exact hlit
    ·simp[aV]at h) (by
    intro i h
    rcases i with _|_|i
    ·omega
    ·omega
    ·simp[aV]at h)
   have ev5:=g8.VB (t:=5) p5;have ev32:=g8.VB (t:=32) p32
   refine G5 (C:=C1) (w':=w9) rfl (by
    show(Instr.storeAt 29 (a8.tmps.getD 32 undef) (a8.tmps.getD 30 undef)).run C1.P w8=_
    rw[ev32];exact hrun) ?_
   have g9:=hG (aW [(2, .own 0 0),(3, .i (ptr (b3,0))),(4, .osl 1 1 0 init.length),(5,(.i (.iref [.int x.kind, .int x.col, .bool x.val.null, .int x.val.n, .lit (.slice ao x.kids.length cap)])))]) (by
    intro t;simp only[aW];by_cases h2:t=2
    ·subst h2;exact .inr (.inr ⟨by simp[p2],by rw[p2];simp[iX,aV]⟩)
    by_cases h3:t=3
    ·subst h3;exact .inr (.inr ⟨by simp[p3],by rw[p3];simp[iX,ptr]⟩)
    by_cases h4:t=4
    ·subst h4;exact .inr (.inr ⟨by simp[p4],by rw[p4];simp[iX,aV]⟩)
    by_cases h5:t=5
    ·subst h5;exact .inr (.inl ⟨ev5,by simp⟩)
    ·simp[h2,h3,h4,h5])
   clear hG g8;show Code.wp _ _ _ _ _;refine wp_seq (wp_mono (GG.iA gD (G:=GS 31) (S:={ env:=[(2, .own 0 0),(3, .i (ptr (b3,0))),(4, .osl 1 1 0 init.length),(5,(.i (.iref [.int x.kind, .int x.col, .bool x.val.null, .int x.val.n, .lit (.slice ao x.kids.length cap)])))],st:=[some (.box zc),some (.arr 1 ES)] }) (e:=.normal) (S':={ env:=[(0, .junk),(2, .own 0 0),(3, .i (ptr (b3,0))),(4, .osl 1 1 0 init.length),(5,(.i (.iref [.int x.kind, .int x.col, .bool x.val.null, .int x.val.n, .lit (.slice ao x.kids.length cap)]))),(6, .junk),(13, .junk),(37, .int x.kids.length),(38, .int 0),(39, .junk)],st:=[some (.box zc),some (.arr 1 ES)] }) (by kernel_rfl) (by simp[ptr,zc]) g9) ?_);rintro _ a10 w10 ⟨rfl,g10⟩;clear g9;by_cases hx:x.kids=[]
   ·refine wp_mono (GG.iA gD (G:=GS 31) (S:={ env:=[(0, .junk),(2, .own 0 0),(3, .i (ptr (b3,0))),(4, .osl 1 1 0 init.length),(5,(.i (.iref [.int x.kind, .int x.col, .bool x.val.null, .int x.val.n, .lit (.slice ao x.kids.length cap)]))),(6, .junk),(13, .junk),(37, .int x.kids.length),(38, .int 0),(39, .junk)],st:=[some (.box zc),some (.arr 1 ES)] }) (e:=.normal) (S':={ env:=[(0, .junk),(2, .own 0 0),(3, .i (ptr (b3,0))),(4, .osl 1 1 0 init.length),(5,(.i (.iref [.int x.kind, .int x.col, .bool x.val.null, .int x.val.n, .lit (.slice ao x.kids.length cap)]))),(6, .junk),(13, .junk),(37, .int x.kids.length),(38, .int 0),(39, .bool false)],st:=[some (.box zc),some (.arr 1 ES)] }) (by kernel_rfl) (by
     simp only[hx,zI];simp;rw[aD]
     simp[ptr,zc]) g10) ?_
    rintro _ a11 w11 ⟨rfl,g11⟩;simp only[jH,Exit.then,Exit.inBlock];refine⟨n-1,by omega,init,((b,o),x)::X,K++bH b' 0 x.kids,fun k hk=>yN _ (hsub k (by simp[hk])),yN _ hb3,?_,by omega,?_⟩
    ·rw[hx]at hxs;simp[Ex.aX]at hxs;omega
    ·have hES2:((init++((b,o),x)::X).map fun k=>[ptr k.1])=ES:=by rw[← hES];simp
     simp only[SL,hES2]
     exact g11.envTo (by
      intro t;simp only[aW];by_cases h2:t=2
      ·subst h2;simp
      by_cases h3:t=3
      ·subst h3;simp
      by_cases h4:t=4
      ·subst h4;simp
      ·simp[h2,h3,h4])
   ·obtain rfl:=e2 hx;have hET:ES.take init.length=RW init b' 0:=by rw[← hES];simp[RW]
    have hEL:init.length≤ES.length:=by rw[← hES];simp
    have hlim:∀ i,i≤x.kids.length→(init.length+i+1)*8≤140737488355328:=fun i hi=>by omega
    have hk0:x.kids.length≠0:=fun h=>hx (zZ.1 h)
    refine wp_mono (GG.iA gD (G:=GS 31) (S:={ env:=[(0, .junk),(2, .own 0 0),(3, .i (ptr (b3,0))),(4, .osl 1 1 0 init.length),(5,(.i (.iref [.int x.kind, .int x.col, .bool x.val.null, .int x.val.n, .lit (.slice (some ⟨b',0,none⟩) x.kids.length cap)]))),(6, .junk),(13, .junk),(37, .int x.kids.length),(38, .int 0),(39, .junk)],st:=[some (.box zc),some (.arr 1 ES)] }) (e:=.normal) (S':={ env:=[(0, .junk),(2, .own 0 0),(3, .i (ptr (b3,0))),(4, .osl 2 1 0 (init.length+x.kids.length)),(5,(.i (.iref [.int x.kind, .int x.col, .bool x.val.null, .int x.val.n, .lit (.slice (some ⟨b',0,none⟩) x.kids.length cap)]))),(6, .int (x.kids.length-1)),(13, .junk),(37, .int x.kids.length),(38, .int x.kids.length),(39, .bool false)],st:=[some (.box zc),none,some (.arr 1 (RW init b' x.kids.length))] }) (by kernel_rfl) (by
     simp;rw[aU (YS b3 b' cap x init ES) x.kids.length (by simp[YS])]
     ·rw[aD];simp[YS,hk0,fG hk0,zc,ptr]
     ·intro i hi;have w2:IntKind.i64.wrap ((i:Int)+1)=i+1:=wrO;have hi0:(i:Int)<x.kids.length:=by omega
      by_cases h0:i=0
      ·subst h0;have hl:(init.length+1)*8≤140737488355328:=by omega
       have hR:RW init b' 0++[[.lit (.pointer (some ⟨b',0,none⟩))]]=RW init b' 1:=by simpa [ptr]using F8 init b' 0
       simp[YS,zc,ptr,XK,hi,hET,hEL,hl,hR]
      ·have hl:=hlim i (by omega);have hT:(RW init b' i).take (init.length+i)=RW init b' i:=zY (by rw[OG];omega);have hR:RW init b' i++[[.lit (.pointer (some ⟨b',i*5,none⟩))]]=RW init b' (i+1):=by simpa [ptr]using F8 init b' i
       simp[YS,h0,fG h0,zc,ptr,w2,hi,hT,OG,hl,hR,← Nat.add_assoc]) g10) ?_
    rintro _ a11 w11 ⟨rfl,g11⟩;simp only[jH,Exit.then,Exit.inBlock];refine⟨n-1,by omega,init++bH b' 0 x.kids,[],K++bH b' 0 x.kids,?_,yN _ hb3,?_,by omega,?_⟩
    ·intro k hk
     rcases zV.1 hk with h|h
     ·exact yN _ (hsub k (by simp[h]))
     ·exact xA _ h
    ·rw[yF,List.sum_append,mW];omega
    ·have g12:=g11.settle [2,3,4]
     have hR:List.map (fun k:(Nat×Nat)×Ex=>[ptr k.1]) (init++bH b' 0 x.kids++[])=RW init b' x.kids.length:=by
      rw[yY,yF,mX];simp[RW]
     have hl:(init++bH b' 0 x.kids).length=init.length+x.kids.length:=by rw[zR,mY]
     simp only[SL,hR,hl]
     have hs:Av.settle [2,3,4] 0 (aW [(0, .junk),(2, .own 0 0),(3, .i (ptr (b3,0))),(4, .osl 2 1 0 (init.length+x.kids.length)),(5, .i (.iref [.int x.kind, .int x.col, .bool x.val.null, .int x.val.n, .lit (.slice (some ⟨b',0,none⟩) x.kids.length cap)])),(6, .int (x.kids.length-1)),(13, .junk),(37, .int x.kids.length),(38, .int x.kids.length),(39, .bool false)]) (aV [some (.box zc),none,some (.arr 1 (RW init b' x.kids.length))])={ env:=[(2, .own 0 0),(3, .i (ptr (b3,0))),(4, .osl 1 1 0 (init.length+x.kids.length))],st:=[some (.box zc),some (.arr 1 (RW init b' x.kids.length))] }:=by
      simp[zc,ptr]
     rw[hs]at g12
     exact g12.envTo (by
      intro t;simp only[aW];by_cases h2:t=2
      ·subst h2;simp
      by_cases h3:t=3
      ·subst h3;simp
      by_cases h4:t=4
      ·subst h4;simp
      ·simp[h2,h3,h4])
theorem RP {w:World} {m:Mem} {φ:Pl} {st:Store} {t:TypeId} {a v:AV} {x:Value} (hi:Inv w m φ st) (hr:Rep m φ a x) (h:DJ C1 t a st=some v):∃ y,(Instr.loadAt t x).run C1.P w=.ok y w∧Rep m φ v y:=by
 obtain⟨ad,y,k1,k2,k3⟩:=rZ hi hr h;exact⟨y,by subst k1;simpa [Instr.loadAt,Instr.sureAddr]using k2,k3⟩
theorem AD4 {w:World} {m:Mem} (h:lW w m):Inv w m (fun _=>none) (aV []):=⟨h,fun id blk e=>(by simp[aV]at e),fun i j b b' n n' b1 b2 f e=>(by simp[aV]at e),fun _ _ _ _ e=>(by cases e)⟩
theorem wW {e:Ex} (he:e.size<1000000000) {wi:World} {mi:Mem} {φ:Pl} {vs:List Value} (hi:Inv wi mi φ (aV [])) (hr:RepL mi φ [.i (.iref e.cells)] vs) (h0:∀ id,φ id≠none→id<0) :
 Calls Tryd.prog 31 vs.toArray wi (bR wi mi φ (.i (.agg e.cells)) []):=by
 obtain rfl:φ=fun _=>none:=by
  funext id
  cases h:φ id with
  | none=>rfl
  | some p=>exact absurd (h0 id (by rw[h];simp)) (xH _)
 cases hr with
 | cons h1 h2 =>
  cases h2
  have hp:=h1
  cases h1 with
  | i h1=>cases h1 with
   | iref ha =>
    refine NV he hi fun w' hs hw=>?_
    obtain⟨y,k1,k2⟩:=RP (t:=45) (v:=.i (.agg e.cells)) (hi.later hs hw) hp (by rw[Ex.aB];simp)
    cases k2 with
    | i k2=>exact⟨y,k1,k2⟩
theorem WF {e:Ex} (he:e.size<1000000000) {w:World} {m:Mem} {φ:Pl} {vs:List Value} {es:List (List IV)} {j:Nat} (hes:es[j]?=some e.cells) (hi:Inv w m φ (aV [some (.arr 5 es)])) (hr:RepL m φ [.ownE 0 5 j 0] vs) (h0:∀ id,φ id≠none→id<1) :
 Calls Tryd.prog 31 vs.toArray w (bR w m φ (.i (.agg e.cells)) [some (.arr 5 es)]):=by
 cases hr with
 | cons h1 h2 =>
  cases h2
  have hp:=h1
  cases h1 with
  | ownE hφ =>
   refine(NV he (AD4 hi.mem) fun w' hs hw=>?_).mono ?_
   ·obtain⟨y,k1,k2⟩:=RP (t:=45) (v:=.i (.agg e.cells)) (hi.later hs hw) hp (by
     have h5:=hes;rw[← gM]at h5
     rw[Ex.aB]at h5 ⊢;simp[h5])
    cases k2 with
    | i k2=>exact⟨y,k1,k2⟩
   ·rintro en w' ⟨v,m',φ',rfl,j1,j2,j3,j4⟩;have free0:∀ b,fJ (fun _=>none) b:=fun b id r n e=>by cases e
    have hsame:∀ f,f<w.heap.size→w'.heap[f]?=w.heap[f]?:=fun f hf=>j3.block f hf (free0 f)
    refine⟨v,m',φ,rfl,?_,⟨j2.mem,fun id blk hb=>?_,hi.inj,fun id b n f e ho=>yZ (hi.low id b n f e ho) j3.size⟩,⟨j3.size,j3.os,j3.tape,j3.output,fun b hb' _=>hsame b hb',j3.mle,fun b hb' _ o=>j3.mnew b hb' (free0 b) o, .refl _,fun _ _ _ _ e ho=>.inr (fJ.not e ho)⟩,h0⟩
    ·cases j1 with
     | i j1=>exact .i j1
    ·obtain⟨b,n,k1,k2,k3⟩:=hi.live id blk hb;exact⟨b,n,k1,⟨k2.1,fun f hf=>yZ (k2.2 f hf) j3.size⟩,k3.mono k2.1 (fun f hf=>hsame f (k2.2 f hf)) j3.mle (.refl _) fun f hf o=>j3.mnew f (k2.2 f hf) (free0 f) o⟩
end Go.Proofs.YtmcjmafajkeecaaDoor
namespace Go.Av.V
open Go.Av
def RL (w:World) (b n:Nat):Prop:=∃ (vs:List Value) (T:TypeId),w.heap[b]?=some (.cells vs.toArray T (0,0))∧n≤vs.length∧∀ v∈vs,v.oneCell'=true
theorem RL.lt {w:World} {b n:Nat} (h:RL w b n):b<w.heap.size:=by
 obtain⟨vs,T,e,_⟩:=h;exact(zG.1 e).1
abbrev Nd:=Ex×Option (Nat×Nat)
structure PF (B:Nat) (w:World) (m:Mem) (φ:Pl) (b o:Nat) (y:Nd):Prop where
 new:B≤b
 row:∃ (vs:List Value) (T:TypeId),w.heap[b]?=some (.cells vs.toArray T (0,0))
 free:fJ φ b
 cel:IAt m b o y.1.cells
 lit:∀ b' cap,y.2=some (b',cap)→m b (o+4)=some (.slice (some ⟨b',0,none⟩) y.1.kids.length cap)∧B≤b'∧fJ φ b'∧RL w b' (5*cap)
abbrev KL:=List ((Nat×Nat)×Nd)
theorem PF.lt {B:Nat} {w:World} {m:Mem} {φ:Pl} {b o:Nat} {x:Nd} (h:PF B w m φ b o x):b<w.heap.size:=by
 obtain⟨vs,T,e⟩:=h.row;exact(zG.1 e).1
theorem PF.adv {B:Nat} {w w':World} {m m':Mem} {φ φ':Pl} {b o:Nat} {x:Nd} (h:PF B w m φ b o x) (k:Adv w m φ w' m' φ'):PF B w' m' φ' b o x:=by
 refine⟨h.new,?_,k.range h.lt h.free,h.cel.mono k.mle,fun b' cap e=>?_⟩
 ·rw[k.block b h.lt h.free];exact h.row
 ·obtain⟨h1,h2,h3,h4⟩:=h.lit b' cap e;refine⟨k.mle _ _ _ h1,h2,k.range h4.lt h3,?_⟩;obtain⟨vs,T,e1,e2⟩:=h4;exact⟨vs,T,by rw[k.block b' (zG.1 e1).1 h3];exact e1,e2⟩
structure GG (wi:World) (mi:Mem) (nt:Nat) (ok:Nat→Prop) (K:KL) (env:Nat→AV) (st:Store) (a:Act) (w:World):Prop where
 out:∃ m φ,Inv w m φ st∧(∀ t,Rep m φ (env t) (a.tmps.getD t undef))∧Adv wi mi (fun _=>none) w m φ∧(∀ id,φ id≠none→ok id)∧∀ k∈K,PF wi.heap.size w m φ k.1.1 k.1.2 k.2
 size:nt≤a.tmps.size
 defers:a.defers=[]
section
variable {C:Ctx} {wi:World} {mi:Mem} {nt:Nat}
theorem GG.ofA {ok ok':Nat→Prop} {K:KL} {env env':Nat→AV} {st st':Store} {a a':Act} {w w':World} {m:Mem} {φ:Pl} (h3:Adv wi mi (fun _=>none) w m φ) (h5:∀ k∈K,PF wi.heap.size w m φ k.1.1 k.1.2 k.2) (h:ARel [] w m φ nt ok' env' st' a' w'):GG wi mi nt ok' K env' st' a' w':=by
 obtain⟨⟨m',φ',k1,k2,k3,k4,_⟩,k5,k6⟩:=h;exact⟨⟨m',φ',k1,k2,h3.trans k3,k4,fun k hk=>(h5 k hk).adv k3⟩,k5,k6⟩
theorem GG.code (hC:CtxOk C) {call:dB} (hcall:CallOk C call) (hdraw:OH C call) {G:List Nat} {n:Nat} {c:Code} {S S':AS} {e:AExit} {a:Act} {w:World} {K:KL} (hc:codeOk nt c=true) (hx:exec C call G S.st.length n c S=some (e,S')) (h:GG wi mi nt (fun id=>id<S.st.length) K (aW S.env) (aV S.st) a w) (hnr:bI c=true:=by rfl) :
 c.wp C.P (fun e' a' w'=>e'=jH e∧GG wi mi nt (fun id=>id<S'.st.length) K (aW S'.env) (aV S'.st) a' w') a w:=by
 obtain⟨⟨m,φ,h1,h2,h3,h4,h5⟩,h6,h7⟩:=h;refine wpIn_wide.1 (wpIn_mono (bU (ρ:=none) hC hcall hdraw h4 n c S S' e [] a w hc (.inl rfl) hx ⟨⟨⟨m,φ,h1,h2, .refl _ _ _,h4, .nil _ _ _⟩,h6,h7⟩,zO _⟩) ?_);rintro e' a' w' ⟨rfl,ds,k,kd⟩;have kd:=kd hnr;subst kd;exact⟨rfl, .ofA (ok:=fun _=>True) (env:=fun _=>.junk) (st:=st0) (a:=a) h3 h5 k.1⟩
where st0:Store:=fun _=>none
theorem GG.ops (hC:CtxOk C) {call:dB} (hcall:CallOk C call) {ops:Array Oper} {Q:Exit→Act→World→Prop} {base:Nat} {js:List Nat} {K:KL} (hs:∀ o∈ops,iT nt o=true) {os:List Oper} {i:Nat} {R R':RS} {a:Act} {w:World} (hl:∀ j,j<os.length→os[j]?=ops[i+j]?) (hx:dF C call ops.toList false base os i R=some R')
 (h:GG wi mi nt (H9 base fun j=>j<i) K R.env R.st a w) (hQ:∀ a' w',GG wi mi nt (H9 base fun j=>j<i+os.length) K R'.env R'.st a' w'→wpOpsIn (FR none) 0 C.P ops Q js a' w'):wpOpsIn (FR none) 0 C.P ops Q (List.range' i os.length++js) a w:=by
 obtain⟨⟨m,φ,h1,h2,h3,h4,h5⟩,h6,h7⟩:=h;exact jD hC hcall hs os i R R' a w hl hx ⟨⟨m,φ,h1,h2, .refl _ _ _,h4, .nil _ _ _⟩,h6,h7⟩ fun a' w' k=>hQ a' w' (.ofA (ok:=fun _=>True) (env:=fun _=>.junk) (st:=fun _=>none) (a:=a) h3 h5 k)
theorem GG.settle {ok:Nat→Prop} {K:KL} {env:Nat→AV} {st:Store} {a:Act} {w:World} (G:List Nat) (h:GG wi mi nt ok K env st a w) :
 GG wi mi nt (fun id=>id<(settle G 0 env st).st.length) K (aW (settle G 0 env st).env) (aV (settle G 0 env st).st) a w:=by
 obtain⟨⟨m,φ,hi,henv,hadv,hok,hK⟩,hsz,hdf⟩:=h;unfold Av.settle rQ;generalize hids:gP st 0 (uH env G)=ids;have hd:ids.Nodup:=by rw[← hids];exact fM _ _ _
 have hfree:∀ b,fJ φ b→fJ (eG ids φ) b:=by
  intro b hb id r n e;unfold eG at e
  cases hx:ids[id]? with
  | none=>rw[hx]at e;cases e
  | some j=>rw[hx]at e;exact hb j r n e
 refine⟨⟨m,eG ids φ,hi.keep hd,?_,hadv.keep (fun id h=>absurd rfl h) (fun j hj=>absurd hj (xH j)),?_,fun k hk=>⟨(hK k hk).new,(hK k hk).row,hfree _ (hK k hk).free,(hK k hk).cel,fun b' cap e=>by
  obtain⟨h1,h2,h3,h4⟩:=(hK k hk).lit b' cap e
  exact⟨h1,h2,hfree _ h3,h4⟩⟩⟩,hsz,hdf⟩
 ·intro t
  have key:∀ G:List Nat,Rep m (eG ids φ) (aW (kM (gI ids) env G) t) (a.tmps.getD t undef):=by
   intro G
   induction G with
   | nil=>exact .junk _
   | cons u G ih =>
    simp only[kM,aW];by_cases e:t=u
    ·subst e;simp only[if_true];exact(henv t).ren (kF ids φ)
    ·simp only[e,if_false];exact ih
  exact key G
 ·intro id hne;simp only[fT];unfold eG at hne
  cases hx:ids[id]? with
  | none=>rw[hx]at hne;exact absurd rfl hne
  | some i=>exact(zW.1 hx).1
theorem GG.see {ok:Nat→Prop} {K:KL} {env:Nat→AV} {st:Store} {a:Act} {w:World} {u b o:Nat} {x:Nd} (h:GG wi mi nt ok K env st a w) (hu:env u=.i (.lit (.pointer (some ⟨b,o,none⟩)))) (hk:((b,o),x)∈K):GG wi mi nt ok K (upd env u (.i (.iref x.1.cells))) st a w:=by
 obtain⟨⟨m,φ,hi,henv,hadv,hok,hK⟩,hsz,hdf⟩:=h;refine⟨⟨m,φ,hi,fun t=>?_,hadv,hok,hK⟩,hsz,hdf⟩;simp only[upd];split
 ·rename_i e;subst e;have:=henv t;rw[hu]at this;rw[this.bX];exact .i (.iref (hK _ hk).cel)
 ·exact henv t
theorem GG.envTo {ok:Nat→Prop} {K:KL} {env env':Nat→AV} {st:Store} {a:Act} {w:World} (h:GG wi mi nt ok K env st a w) (he:∀ t,env' t=.junk∨env' t=env t):GG wi mi nt ok K env' st a w:=by
 obtain⟨⟨m,φ,hi,henv,hadv,hok,hK⟩,hsz,hdf⟩:=h;refine⟨⟨m,φ,hi,fun t=>?_,hadv,hok,hK⟩,hsz,hdf⟩
 rcases he t with e|e
 ·rw[e];exact .junk _
 ·rw[e];exact henv t
theorem GG.ok' {ok ok':Nat→Prop} {K:KL} {env:Nat→AV} {st:Store} {a:Act} {w:World} (h:GG wi mi nt ok K env st a w) (he:∀ id,ok id→ok' id):GG wi mi nt ok' K env st a w:=by
 obtain⟨⟨m,φ,hi,henv,hadv,hok,hK⟩,hsz,hdf⟩:=h;exact⟨⟨m,φ,hi,henv,hadv,fun id h=>he id (hok id h),hK⟩,hsz,hdf⟩
end
section
variable {C:Ctx} {wi:World} {mi:Mem}
theorem uR {w:World} {m:Mem} {φ:Pl} {st:Store} {K:KL} {b o:Nat} {y:Nd} {x:Ex} (hyx:y.1=x) {v:Value} {t:TypeId} (ht:iD C.P t=some 1) (hi:Inv w m φ st) (hst:AE5 st) (hadv:Adv wi mi (fun _=>none) w m φ) (hmi:lW wi mi)
 (hK:∀ k∈K,PF wi.heap.size w m φ k.1.1 k.1.2 k.2) (hk:((b,o),y)∈K) (hnl:∀ k∈K,k.1=(b,o)→k.2.2=none) (hv:IRep m (.isl (Ex.aA x.kids)) v) :
 ∃ w' m',(Instr.storeAt t (.pointer (some ⟨b,o+4,none⟩)) v).run C.P w=.ok () w'∧Inv w' m' φ st∧Adv wi mi (fun _=>none) w' m' φ∧(∀ k∈K,PF wi.heap.size w' m' φ k.1.1 k.1.2 k.2) ∧
   IAt m' b o [.int x.kind, .int x.col, .bool x.val.null, .int x.val.n, .lit v]∧(∀ c n,RL w c n→RL w' c n):=by
 have hp:=hK _ hk;subst hyx;obtain⟨u,hx⟩:=vI hp.cel;obtain⟨vs,T,hrow⟩:=hp.row;have hone:=pO hv
 have hcells:v.cells.toList=[v]:=by
  rcases jP hv with ⟨_,ao,cap,rfl⟩|⟨_,b',off,k',cap,rfl,_⟩<;>rfl
 have hcsz:v.cells.size=1:=by rw[← Array.length_toList,hcells];rfl
 have hlen:o+4<vs.length:=by
  have:=hi.mem _ _ _ hx.c4;simp only[World.cell?,hrow,xL]at this;have h2:vs.toArray[o+4]?=some u:=by simpa using this
  have:=(zG.1 h2).1;simpa using this
 have hrun:=iO (P:=C.P) (t:=t) (v:=v) (off:=o+4) (by rw[hcsz];exact ht) hrow (by omega) (by rw[hcells];simpa using hone);rw[hcells,hcsz]at hrun;generalize hvs':vs.take (o+4)++[v]++vs.drop (o+4+1)=vs' at hrun;have hheap:(w.setRow b vs'.toArray).heap[b]?=some (.cells vs'.toArray T (0,0)):=setRow_heap w b _ _ T (0,0) hrow;have hother:∀ k,k≠b→(w.setRow b vs'.toArray).heap[k]?=w.heap[k]?:=fun k hk=>setRow_other w b k _ hk
 have hget:∀ j,vs'[j]?=if j=o+4 then some v else vs[j]?:=by
  intro j;subst hvs'
  have hs:vs.take (o+4)++[v]++vs.drop (o+4+1)=vs.set (o+4) v:=by
   rw[xE];simp[hlen]
  rw[hs,List.getElem?_set];by_cases e:o+4=j
  ·subst e;simp[hlen]
  ·simp[e,Ne.symm e]
 have hall:(∀ u∈vs,u.oneCell'=true)→∀ u∈vs',u.oneCell'=true:=by
  intro h u hu;obtain⟨j,hj⟩:=List.getElem?_of_mem hu;rw[hget]at hj;split at hj
  ·injection hj with hj;subst hj;exact hone
  ·exact h u (zT hj)
 refine⟨w.setRow b vs'.toArray,turn m b (o+4) v,?_,?_,?_,?_,?_,?_⟩
 ·simp only[Instr.storeAt,Instr.sureAddr,Sem.run_bind,Sem.run_pure,Result.andThen_ok];exact hrun
 ·refine⟨?_,?_,hi.inj,fun i b n f e ho=>by simpa [World.setRow]using hi.low i b n f e ho⟩
  ·intro b1 o1 q hq;unfold turn at hq;by_cases e1:b1=b
   ·subst e1;simp only[World.cell?,hheap,xL]
    have:vs'.toArray[o1]?=some q:=by
     rw[List.getElem?_toArray,hget];split at hq
     ·rename_i e;rw[if_pos e.2];exact hq
     ·rename_i e;have e2:o1≠o+4:=fun h=>e ⟨rfl,h⟩
      rw[if_neg e2];have:=hi.mem _ _ _ hq;simp only[World.cell?,hrow,xL]at this;simpa using this
    simpa using this
   ·rw[if_neg (fun h=>e1 h.1)]at hq;have:=hi.mem _ _ _ hq;simp only[World.cell?]at this ⊢;rw[hother b1 e1];exact this
  ·intro id blk hb;obtain⟨b2,n2,h1,h2,h3⟩:=hi.live id blk hb;have hne:b2≠b:=fun e=>hp.free id b2 n2 h1 (by rw[← e];exact h2.1)
   refine⟨b2,n2,h1,⟨h2.1,fun f hf=>by simpa [World.setRow]using h2.2 f hf⟩,h3.OI (hst id blk hb) (hother b2 hne) fun o' ho'=>?_⟩;unfold turn;rw[if_neg (fun h=>hne h.1)];exact ho'
 ·refine⟨by simpa [World.setRow]using hadv.size,hadv.os,⟨hadv.tape.tape,hadv.tape.fwd⟩,hadv.output,?_,?_,?_,hadv.ple,hadv.pnew⟩
  ·intro k hk hn;rw[hother k (by have h3:wi.heap.size≤b:=hp.new;omega)];exact hadv.block k hk hn
  ·intro b1 o1 q hq;have h1:=hadv.mle _ _ _ hq;unfold turn;rw[if_neg ?_];· exact h1
   rintro⟨rfl,_⟩;have h2:=hmi _ _ _ hq;have h3:wi.heap.size≤b1:=hp.new;simp only[World.cell?]at h2
   cases h4:wi.heap[b1]? with
   | none=>rw[h4]at h2;cases h2
   | some z=>have:=(zG.1 h4).1;omega
  ·intro k hk hn o';have h3:wi.heap.size≤b:=hp.new;unfold turn;rw[if_neg (fun h=>by have:=h.1;omega)];exact hadv.mnew k hk hn o'
 ·intro k hk;have h:=hK k hk;have hvl:vs'.length=vs.length:=by subst hvs';simp;omega
  refine⟨h.new,?_,h.free,Y3 hx hv _ _ _ h.cel,fun b' cap e=>?_⟩
  ·by_cases e:k.1.1=b
   ·rw[e];exact⟨vs',T,hheap⟩
   ·rw[hother _ e];exact h.row
  ·obtain⟨h1,h2,h3,h4⟩:=h.lit b' cap e;refine⟨?_,h2,h3,?_⟩
   ·unfold turn;rw[if_neg]
    ·exact h1
    ·rintro⟨e1,e2⟩;have:=hnl k hk (by rw[← e1,show o=k.1.2 by omega]);rw[this]at e;cases e
   ·obtain⟨vs2,T2,e1,e2,e3⟩:=h4;by_cases eb:b'=b
    ·subst eb;rw[hrow]at e1;injection e1 with e1;injection e1 with e1 _;have:vs=vs2:=by simpa using congrArg Array.toList e1
     subst this;exact⟨vs',T,hheap,by omega,hall e3⟩
    ·exact⟨vs2,T2,by rw[hother _ eb];exact e1,e2,e3⟩
 ·have low:∀ i,i<4→∀ q,m b (o+i)=some q→turn m b (o+4) v b (o+i)=some q:=by
   intro i hi q hq;unfold turn;rw[if_neg (by rintro⟨_,h⟩;omega)];exact hq
  refine .cons (by simpa using low 0 (by omega) _ (by simpa using hx.c0)) (.lit _) rfl (.cons (low 1 (by omega) _ hx.c1) (.lit _) rfl (.cons (low 2 (by omega) _ hx.c2) (.lit _) rfl (.cons (low 3 (by omega) _ hx.c3) (.lit _) rfl (.cons ?_ (.lit _) hone (.nil _ _)))));unfold turn;rw[if_pos ⟨rfl,rfl⟩]
 ·rintro c n ⟨vs2,T2,e1,e2,e3⟩;have hvl:vs'.length=vs.length:=by subst hvs';simp;omega
  by_cases eb:c=b
  ·subst eb;rw[hrow]at e1;injection e1 with e1;injection e1 with e1 _;have:vs=vs2:=by simpa using congrArg Array.toList e1
   subst this;exact⟨vs',T,hheap,by omega,hall e3⟩
  ·exact⟨vs2,T2,by rw[hother _ eb];exact e1,e2,e3⟩
end
def bH (b:Nat):Nat→List Ex→KL
 | _,[]=>[]
 | o,x::l=>((b,o),(x,none))::bH b (o+5) l
theorem qL {b:Nat}:∀ {o:Nat} {l:List Ex} {i:Nat} {x:Ex},l[i]?=some x→((b,o+5*i),(x,none))∈bH b o l
 | _,[],_,_,h=>by simp at h
 | o,a::l,0,x,h=>by simp at h;subst h;simp[bH]
 | o,a::l,i+1,x,h=>by
  have:=qL (b:=b) (o:=o+5) (l:=l) (i:=i) (x:=x) (by simpa using h);simp only[bH,zQ];exact .inr (by rw[show o+5*(i+1)=o+5+5*i by omega];exact this)
theorem mZ {m:Mem} {b:Nat}:∀ {o k:Nat} {l:List Ex},IElems m b o k (Ex.aA l)→∀ p∈bH b o l,p.1.1=b∧p.2.2=none∧IAt m p.1.1 p.1.2 p.2.1.cells
 | _,_,[],_,p,hp=>by simp[bH]at hp
 | o,k,a::l,h,p,hp=>by
  obtain⟨rfl,h1,h2⟩:=lM h;simp only[bH,zQ]at hp
  rcases hp with rfl|hp
  ·exact⟨rfl,rfl,h1⟩
  ·exact mZ h2 p hp
section
variable {C:Ctx} {wi:World} {mi:Mem}
theorem JW {w:World} {m:Mem} {φ:Pl} {st st':Store} {K:KL} {id:Nat} {v:Value} {ks:List Ex} (hks:ks≠[]) (hi:Inv w m φ st) (hr:Rep m φ (.osl id 5 0 ks.length) v) (hid:st id=some (.arr 5 (Ex.aA ks))) (hadv:Adv wi mi (fun _=>none) w m φ)
 (hK:∀ k∈K,PF wi.heap.size w m φ k.1.1 k.1.2 k.2) (hst:∀ i blk,st' i=some blk→i≠id∧st i=some blk∧fQ blk) :
 ∃ b' cap m1 φ2,v=.slice (some ⟨b',0,none⟩) ks.length cap∧Inv w m1 φ2 st'∧Adv wi mi (fun _=>none) w m1 φ2∧(∀ k∈K++bH b' 0 ks,PF wi.heap.size w m1 φ2 k.1.1 k.1.2 k.2)∧IRep m1 (.isl (Ex.aA ks)) v ∧
   (∀ i,st' i≠none→φ2 i=φ i)∧(∀ i,φ2 i≠none→st' i≠none) ∧
   (wi.heap.size≤b'∧fJ φ2 b'∧RL w b' (5*cap))∧(∀ f,fJ φ f→f≠b'):=by
 have hlen:0<ks.length:=y9.2 hks
 have hfr:oV st (.osl id 5 0 ks.length)=some (.isl (Ex.aA ks),upd st id (some (.frz 5 (Ex.aA ks)))):=by
  simp[oV,frz,uE,qY,hid,tst,window,bnd,iF,zY]
 obtain⟨m1,k1,k2,k3⟩:=gZ hi hr hfr
 cases hr with
 | @osl _ _ _ _ cap b' n' ao eφ hlc hcap ha1 ha2 =>
  have hao:=ha1 (by omega);subst hao;obtain⟨hb,hok⟩:=bS hi eφ hid
  have hrl:RL w b' (5*cap):=by
   cases hok with|arr h1 h2 _ _ _ _ _ _ h9=>exact⟨_,_,h1,by rw[h2];simpa using hcap,h9⟩
  have hrow:∃ (vs:List Value) (T:TypeId),w.heap[b']?=some (.cells vs.toArray T (0,0)):=by
   obtain⟨vs,T,e,_⟩:=hrl;exact⟨vs,T,e⟩
  have hnew:wi.heap.size≤b':=by
   rcases hadv.pnew id b' n' b' eφ hb.1 with h|h
   ·exact h
   ·exact absurd (fun id b n e=>by cases e) h
  have dec:∀ i,st' i=none∨st' i≠none:=fun i=>by cases st' i<;>simp
  let φ2:Pl:=fun i=>match st' i with
   | some _=>φ i
   | none=>none
  have hφ2:∀ i,st' i≠none→φ2 i=φ i:=fun i h=>by
   show(match st' i with|some _=>φ i|none=>none)=φ i
   cases e:st' i with
   | none=>exact absurd e h
   | some _=>rfl
  have hφ2n:∀ i,φ2 i≠none→st' i≠none:=fun i h e=>h (by
   show(match st' i with|some _=>φ i|none=>none)=none
   rw[e])
  have hsub:∀ i p,φ2 i=some p→φ i=some p∧st' i≠none:=fun i p h=>by
   have h1:=hφ2n i (by rw[h];simp);exact⟨by rw[← hφ2 i h1];exact h,h1⟩
  have hA1:=hadv.trans k3
  have hfree2:fJ φ2 b':=by
   intro i r n e ho;obtain⟨h1,h2⟩:=hsub _ _ e
   cases hb2:st' i with
   | none=>exact h2 hb2
   | some blk =>
    obtain⟨q1,q2,_⟩:=hst i blk hb2;exact q1 (hi.inj i id r b' n n' blk _ b' q2 hid h1 eφ ho hb.1)
  refine⟨b',cap,m1,φ2,by simp,?_,?_,?_,k1,hφ2,hφ2n,⟨hnew,hfree2,hrl⟩,fun f hf e=>hf id b' n' eφ (e ▸ hb.1)⟩
  ·refine⟨k2.mem,?_,?_,fun i b n f e ho=>k2.low i b n f (hsub _ _ e).1 ho⟩
   ·intro i blk hb';obtain⟨h1,h2,h3⟩:=hst i blk hb';have h4:upd st id (some (.frz 5 (Ex.aA ks))) i=some blk:=by simp[upd,h1,h2]
    obtain⟨b,n,q1,q2,q3⟩:=k2.live i blk h4;exact⟨b,n,by rw[hφ2 i (by rw[hb'];simp)];exact q1,q2,q3.OI h3 rfl fun o h=>h⟩
   ·intro i j b bx n n2 b1 b2 f h1 h2 h3 h4 o1 o2;obtain⟨q1,q2,_⟩:=hst i b1 h1;obtain⟨r1,r2,_⟩:=hst j b2 h2;exact hi.inj i j b bx n n2 b1 b2 f q2 r2 (hsub _ _ h3).1 (hsub _ _ h4).1 o1 o2
  ·refine⟨hA1.size,hA1.os,hA1.tape,hA1.output,hA1.block,hA1.mle,hA1.mnew,(fun _ _ _ h=>by cases h),?_⟩;intro i b n f h2 ho;exact hA1.pnew i b n f (hsub _ _ h2).1 ho
  ·intro k hk
   rcases zV.1 hk with hk|hk
   ·have h:=hK k hk
    exact⟨h.new,h.row,fun i r n e=>h.free i r n (hsub _ _ e).1,h.cel.mono k3.mle,fun b2 c2 e=>by
     obtain⟨h1,h2,h3,h4⟩:=h.lit b2 c2 e
     exact⟨k3.mle _ _ _ h1,h2,fun i r n e=>h3 i r n (hsub _ _ e).1,h4⟩⟩
   ·have hel:IElems m1 b' 0 5 (Ex.aA ks):=by
     rcases jP k1 with ⟨e1,_⟩|⟨_,b2,off,k',cap',hv,hel,_⟩
     ·exact absurd (by cases ks with|nil=>rfl|cons a l=>simp[Ex.aA]at e1) hks
     ·injection hv with q1 _ _;injection q1 with q1;injection q1 with q1 q2;subst q1;subst q2
      cases ks with
      | nil=>exact absurd rfl hks
      | cons a l=>obtain⟨rfl,_⟩:=lM hel;exact hel
    obtain⟨e1,e3,e2⟩:=mZ hel k hk;exact⟨by rw[e1];exact hnew,by rw[e1];exact hrow,by rw[e1];exact hfree2,e2,fun b2 c2 e=>by rw[e3]at e;cases e⟩
end
section
variable {C:Ctx} {wi:World} {mi:Mem} {nt:Nat}
theorem GG.iA (hS:SoundOk C) {G:List Nat} {c:Code} {S S':AS} {e:AExit} {a:Act} {w:World} {K:KL} (hc:codeOk nt c=true) (hx:eQ C G S.st.length c S=some (e,S')) (h:GG wi mi nt (fun id=>id<S.st.length) K (aW S.env) (aV S.st) a w) (hnr:bI c=true:=by rfl) :
 c.wp C.P (fun e' a' w'=>e'=jH e∧GG wi mi nt (fun id=>id<S'.st.length) K (aW S'.env) (aV S'.st) a' w') a w:=by
 obtain⟨n,hn⟩:=(dI _).1 hx;exact GG.code hS.ctx (aZ hS) (hS.draw _ (aZ hS)) hc hn h hnr
theorem K4 {w:World} {m m1:Mem} {φ:Pl} {st st1 st':Store} {K:KL} {id b':Nat} {n':Ext} {blk0:Blk} (hi:Inv w m φ st) (k2:Inv w m1 φ st1) (hA1:Adv wi mi (fun _=>none) w m1 φ) (hle:MLe m m1) (eφ:φ id=some (b',n')) (hid:st id=some blk0)
 (hK:∀ k∈K,PF wi.heap.size w m φ k.1.1 k.1.2 k.2) (hst:∀ i blk,st' i=some blk→i≠id∧st i=some blk∧st1 i=some blk∧fQ blk) :
 ∃ φ2,Inv w m1 φ2 st'∧Adv wi mi (fun _=>none) w m1 φ2∧(∀ k∈K,PF wi.heap.size w m1 φ2 k.1.1 k.1.2 k.2)∧fJ φ2 b'∧(∀ i,st' i≠none→φ2 i=φ i)∧(∀ i,φ2 i≠none→st' i≠none):=by
 let φ2:Pl:=fun i=>match st' i with
  | some _=>φ i
  | none=>none
 have hφ2:∀ i,st' i≠none→φ2 i=φ i:=fun i h=>by
  show(match st' i with|some _=>φ i|none=>none)=φ i
  cases e:st' i with
  | none=>exact absurd e h
  | some _=>rfl
 have hφ2n:∀ i,φ2 i≠none→st' i≠none:=fun i h e=>h (by
  show(match st' i with|some _=>φ i|none=>none)=none
  rw[e])
 have hsub:∀ i p,φ2 i=some p→φ i=some p∧st' i≠none:=fun i p h=>by
  have h1:=hφ2n i (by rw[h];simp);exact⟨by rw[← hφ2 i h1];exact h,h1⟩
 refine⟨φ2,⟨k2.mem,?_,?_,fun i b n f e ho=>k2.low i b n f (hsub _ _ e).1 ho⟩,?_,?_,?_,hφ2,hφ2n⟩
 ·intro i blk hb';obtain⟨h1,h2,h4,h3⟩:=hst i blk hb';obtain⟨b,n,q1,q2,q3⟩:=k2.live i blk h4;exact⟨b,n,by rw[hφ2 i (by rw[hb'];simp)];exact q1,q2,q3.OI h3 rfl fun o h=>h⟩
 ·intro i j b bx n n2 b1 b2 f h1 h2 h3 h4 o1 o2;obtain⟨q1,q2,_⟩:=hst i b1 h1;obtain⟨r1,r2,_⟩:=hst j b2 h2;exact hi.inj i j b bx n n2 b1 b2 f q2 r2 (hsub _ _ h3).1 (hsub _ _ h4).1 o1 o2
 ·refine⟨hA1.size,hA1.os,hA1.tape,hA1.output,hA1.block,hA1.mle,hA1.mnew,(fun _ _ _ h=>by cases h),?_⟩;intro i b n f h2 ho;exact hA1.pnew i b n f (hsub _ _ h2).1 ho
 ·intro k hk;have h:=hK k hk
  exact⟨h.new,h.row,fun i r n e=>h.free i r n (hsub _ _ e).1,h.cel.mono hle,fun b2 c2 e=>by
   obtain⟨h1,h2,h3,h4⟩:=h.lit b2 c2 e
   exact⟨hle _ _ _ h1,h2,fun i r n e=>h3 i r n (hsub _ _ e).1,h4⟩⟩
 ·intro i r n e ho;obtain⟨h1,h2⟩:=hsub _ _ e
  cases hb2:st' i with
  | none=>exact h2 hb2
  | some blk =>
   obtain⟨q1,q2,_⟩:=hst i blk hb2;exact q1 (hi.inj i id r b' n n' blk _ b' q2 hid h1 eφ ho (bS hi eφ hid).1.1)
theorem GG.pub {ok ok':Nat→Prop} {K:KL} {env:Nat→AV} {st st':Store} {a:Act} {w:World} {u id:Nat} {e:Ex} (h:GG wi mi nt ok K env st a w) (hu:env u=.own id 0) (hid:st id=some (.box (kQ e.cells)))
 (hst:∀ i blk,st' i=some blk→i≠id∧st i=some blk∧fQ blk) (hok:∀ i,st' i≠none→ok' i) :
 ∃ b',(∀ env',(∀ t,env' t=.junk∨(t=u∧env' t=.i (.lit (.pointer (some ⟨b',0,none⟩))))∨(env' t=env t∧iX st' (env t)))→GG wi mi nt ok' (K++[((b',0),(e,none))]) env' st' a w):=by
 obtain⟨⟨m,φ,hi,henv,hadv,_,hK⟩,hsz,hdf⟩:=h;have hr:=henv u;rw[hu]at hr
 have hfr:oV st (.own id 0)=some (.iref e.cells,upd st id (some (.fbox e.cells))):=by
  have h1:∀ (l:List IV) (n:Nat),AO st (n+l.length+1) (kQ l)=some (l,[]):=by
   intro l
   induction l with
   | nil=>intro n;simp[kQ,AO]
   | cons c l ih=>intro n;simp only[kQ,zS];rw[show n+(l.length+1)+1=(n+l.length+1)+1 by omega];simp[AO,frz,bnd,ih n]
  have h2:AO st 18 (kQ e.cells)=some (e.cells,[]):=by
   have:=h1 e.cells 12;rw[Ex.cO]at this;exact this
  have h3:vG st 19 id 0 (some (.box (kQ e.cells)))=some (.iref e.cells,[(id, .fbox e.cells)]):=by
   show bnd (AO st 18 (kQ e.cells)) (fun p=>tst (decide (0≤p.1.length)) (some (IV.iref (dropE 0 p.1),(id,Blk.fbox p.1)::p.2)))=_;rw[h2];simp[dropE]
  have h4:frz st 20 (.own id 0)=some (.iref e.cells,[(id, .fbox e.cells)]):=by
   show vG st 19 id 0 (st id)=_;rw[hid];exact h3
  show bnd (frz st 20 (.own id 0)) (fun p=>some (p.1,iF st p.2))=_;rw[h4];rfl
 obtain⟨m1,k1,k2,k3⟩:=gZ hi hr hfr
 cases hr':a.tmps.getD u undef with
 | pointer p =>
  rw[hr']at hr k1
  cases hr with
  | @own _ _ b' n' eφ =>
   obtain⟨hb,hbok⟩:=bS hi eφ hid
   have hrow:∃ (vs:List Value) (T:TypeId),w.heap[b']?=some (.cells vs.toArray T (0,0)):=by
    cases hbok with|box h1=>exact⟨_,_,h1⟩
   have hnew:wi.heap.size≤b':=by
    rcases hadv.pnew id b' n' b' eφ hb.1 with h|h
    ·exact h
    ·exact absurd (fun id b n e=>by cases e) h
   obtain⟨φ2,g1,g2,g3,g4,g5,g6⟩:=K4 (wi:=wi) (mi:=mi) (K:=K) hi k2 (hadv.trans k3) k3.mle eφ hid hK (st':=st') fun i blk hb'=>by
    obtain⟨q1,q2,q3⟩:=hst i blk hb';exact⟨q1,q2,by simp[upd,q1,q2],q3⟩
   refine⟨b',fun env' he=>⟨⟨m1,φ2,g1,fun t=>?_,g2,fun i hi'=>hok i (g6 i hi'),?_⟩,hsz,hdf⟩⟩
   ·rcases he t with h|⟨rfl,h⟩|⟨h,hs⟩
    ·rw[h];exact .junk _
    ·rw[h,hr'];exact .i (.lit _)
    ·rw[h];exact hs.rep g5 (henv t)
   ·intro k hk
    rcases zV.1 hk with hk|hk
    ·exact g3 k hk
    ·simp only[xW]at hk;subst hk;refine⟨hnew,hrow,g4,?_,fun b2 c2 e=>by cases e⟩
     cases k1 with|iref hat=>exact hat
 | _=>rw[hr']at hr;cases hr
def XG (b o:Nat) (x:Ex) (b' cap:Nat):KL:=if x.kids=[]then []else((b,o),(x,some (b',cap)))::bH b' 0 x.kids
theorem GG.turn {ok ok':Nat→Prop} {K:KL} {env:Nat→AV} {st st':Store} {a:Act} {w:World} {u b o:Nat} {x:Ex} {t:TypeId} {r:AV} (h:GG wi mi nt ok K env st a w) (ht:iD C.P t=some 1) (hmi:lW wi mi) (hk:((b,o),(x,none))∈K) (hnl:∀ k∈K,k.1=(b,o)→k.2.2=none) (hu:env u=r)
 (hr:(r=.nils∧x.kids=[]∧∀ i blk,st' i=some blk→st i=some blk)∨∃ id,r=.osl id 5 0 x.kids.length∧x.kids≠[]∧st id=some (.arr 5 (Ex.aA x.kids))∧∀ i blk,st' i=some blk→i≠id∧st i=some blk)
 (hlit:AE5 st') (hok:∀ i,st' i≠none→ok' i) :
 ∃ w' b' ao cap,a.tmps.getD u undef=.slice ao x.kids.length cap∧(x.kids≠[]→ao=some ⟨b',0,none⟩)∧(Instr.storeAt t (.pointer (some ⟨b,o+4,none⟩)) (a.tmps.getD u undef)).run C.P w=.ok () w' ∧
   (∀ env',(∀ t,env' t=.junk∨(a.tmps.getD t undef=.pointer (some ⟨b,o,none⟩)∧env' t=.i (.iref [.int x.kind, .int x.col, .bool x.val.null, .int x.val.n, .lit (.slice ao x.kids.length cap)]))∨(env' t=env t∧iX st' (env t))) →
    GG wi mi nt ok' (K++XG b o x b' cap) env' st' a w')∧(x.kids≠[]→∀ k∈K,k.1.1≠b'∧∀ b2 c2,k.2.2=some (b2,c2)→b2≠b'):=by
 obtain⟨⟨m,φ,hi,henv,hadv,_,hK⟩,hsz,hdf⟩:=h;have hru:=henv u;rw[hu]at hru
 have main:∃ (b':Nat) (ao:Option Addr) (cap:Nat) (m1:Mem) (φ2:Pl),a.tmps.getD u undef=.slice ao x.kids.length cap∧(x.kids≠[]→ao=some ⟨b',0,none⟩)∧Inv w m1 φ2 st'∧Adv wi mi (fun _=>none) w m1 φ2∧(∀ k∈K++bH b' 0 x.kids,PF wi.heap.size w m1 φ2 k.1.1 k.1.2 k.2) ∧
  IRep m1 (.isl (Ex.aA x.kids)) (a.tmps.getD u undef)∧(∀ i,st' i≠none→φ2 i=φ i)∧(∀ i,φ2 i≠none→st' i≠none) ∧
  (x.kids≠[]→(wi.heap.size≤b'∧fJ φ2 b'∧RL w b' (5*cap))∧(∀ f,fJ φ f→f≠b')):=by
  rcases hr with ⟨rfl,hx,hst⟩|⟨id,rfl,hx,hid,hst⟩
  ·generalize hv:a.tmps.getD u undef=v at hru
   cases hru
   let φ2:Pl:=fun i=>match st' i with
    | some _=>φ i
    | none=>none
   have hφ2:∀ i,st' i≠none→φ2 i=φ i:=fun i h=>by
    show(match st' i with|some _=>φ i|none=>none)=φ i
    cases e:st' i with
    | none=>exact absurd e h
    | some _=>rfl
   have hφ2n:∀ i,φ2 i≠none→st' i≠none:=fun i h e=>h (by
    show(match st' i with|some _=>φ i|none=>none)=none
    rw[e])
   have hsub:∀ i p,φ2 i=some p→φ i=some p:=fun i p h=>by
    have h1:=hφ2n i (by rw[h];simp);rw[← hφ2 i h1];exact h
   refine⟨0,none,0,m,φ2,by rw[hx];rfl,fun h=>absurd hx h,⟨hi.mem,?_,?_,fun i b n f e ho=>hi.low i b n f (hsub _ _ e) ho⟩,?_,?_,?_,hφ2,hφ2n,fun h=>absurd hx h⟩
   ·intro i blk hb';obtain⟨b,n,q1,q2,q3⟩:=hi.live i blk (hst i blk hb');exact⟨b,n,by rw[hφ2 i (by rw[hb'];simp)];exact q1,q2,q3.OI (hlit i blk hb') rfl fun o h=>h⟩
   ·intro i j b bx n n2 b1 b2 f h1 h2 h3 h4 o1 o2;exact hi.inj i j b bx n n2 b1 b2 f (hst i b1 h1) (hst j b2 h2) (hsub _ _ h3) (hsub _ _ h4) o1 o2
   ·refine⟨hadv.size,hadv.os,hadv.tape,hadv.output,hadv.block,hadv.mle,hadv.mnew,(fun _ _ _ h=>by cases h),?_⟩;intro i b n f h2 ho;exact hadv.pnew i b n f (hsub _ _ h2) ho
   ·intro k hk;rw[hx]at hk;simp only[bH,yY]at hk;have h:=hK k hk
    exact⟨h.new,h.row,fun i r n e=>h.free i r n (hsub _ _ e),h.cel,fun b2 c2 e=>by
     obtain⟨h1,h2,h3,h4⟩:=h.lit b2 c2 e
     exact⟨h1,h2,fun i r n e=>h3 i r n (hsub _ _ e),h4⟩⟩
   ·rw[hx];simp only[Ex.aA];exact .isl0 _ _ fun _=>rfl
  ·obtain⟨b',cap,m1,φ2,e1,g1,g2,g3,g4,g5,g6,g7,g8⟩:=JW (wi:=wi) (mi:=mi) (K:=K) hx hi hru hid hadv hK (st':=st') fun i blk hb'=>⟨(hst i blk hb').1,(hst i blk hb').2,hlit i blk hb'⟩
   exact⟨b',_,cap,m1,φ2,e1,fun _=>rfl,g1,g2,g3,g4,g5,g6,fun _=>⟨g7,g8⟩⟩
 obtain⟨b',ao,cap,m1,φ2,e1,e2,g1,g2,g3,g4,g5,g6,g7⟩:=main
 have hkn:∀ (o':Nat) (l:List Ex),∀ k∈bH b' o' l,k.2.2=none:=by
  intro o' l
  induction l generalizing o' with
  | nil=>simp[bH]
  | cons a l ih =>
   intro k hk';simp only[bH,zQ]at hk'
   rcases hk' with rfl|hk'
   ·rfl
   ·exact ih _ k hk'
 obtain⟨w',m',k1,k2,k3,k4,k5,k6⟩:=uR (C:=C) (wi:=wi) (mi:=mi) (x:=x) (y:=(x,none)) rfl ht g1 hlit g2 hmi g3 (yN _ hk) (fun k hk' e=>by
  rcases zV.1 hk' with h|h
  ·exact hnl k h e
  ·exact hkn _ _ k h) g4
 have hcell:m' b (o+4)=some (a.tmps.getD u undef):=by
  obtain⟨_,_,_,_,k5⟩:=k5.inv;obtain⟨_,_,_,_,k5⟩:=k5.inv;obtain⟨_,_,_,_,k5⟩:=k5.inv;obtain⟨_,_,_,_,k5⟩:=k5.inv;obtain⟨v5,q1,q2,_,_⟩:=k5.inv;rw[lI q2]at q1;exact q1
 refine⟨w',b',ao,cap,e1,e2,k1,fun env' he=>⟨⟨m',φ2,k2,fun t=>?_,k3,fun i hi'=>hok i (g6 i hi'),?_⟩,hsz,hdf⟩,fun hx k hk'=>?_⟩
 ·rcases he t with h|⟨h1,h⟩|⟨h,hs⟩
  ·rw[h];exact .junk _
  ·rw[h,h1,← e1];exact .i (.iref k5)
  ·rw[h];exact hs.rep g5 (henv t)
 ·intro k hk'
  rcases zV.1 hk' with h|h
  ·exact k4 k (yN _ h)
  ·unfold XG at h;split at h
   ·cases h
   ·rename_i hx
    rcases zQ.1 h with rfl|h
    ·have hp:=k4 ((b,o),(x,none)) (yN _ hk);refine⟨hp.new,hp.row,hp.free,hp.cel,fun b2 c2 e=>?_⟩;injection e with e;injection e with e3 e4;subst e3;subst e4;obtain⟨⟨q1,q2,q3⟩,_⟩:=g7 hx;refine⟨?_,q1,q2,k6 _ _ q3⟩;have:=e2 hx;subst this;rw[hcell,e1]
    ·exact k4 k (xA _ h)
 ·obtain⟨_,q4⟩:=g7 hx;have h:=hK k hk';exact⟨q4 _ h.free,fun b2 c2 e=>q4 _ (h.lit b2 c2 e).2.2.1⟩
end
section
variable {C:Ctx} {wi:World} {mi:Mem} {nt:Nat}
theorem GG.VB {ok:Nat→Prop} {K:KL} {env:Nat→AV} {st:Store} {a:Act} {w:World} {t:Nat} {v:Value} (h:GG wi mi nt ok K env st a w) (ht:env t=.i (.lit v)):a.tmps.getD t undef=v:=by
 obtain⟨⟨m,φ,hi,henv,_⟩,_⟩:=h;have:=henv t;rw[ht]at this;exact this.bX
theorem GG.region (hS:SoundOk C) {id:Nat} {ops:Array Oper} {os1 os2:List Oper} {o:Oper} {K:KL} {S:AS} {a:Act} {w:World} {u b' o':Nat} {x:Ex} {y:Option (Nat×Nat)} {Q:Exit→Act→World→Prop} {PP:(Nat→AV)→Store→Prop} (hops:ops.toList=os1++(os2++[o])) (hs:∀ o∈ops,iT nt o=true)
 (g:GG wi mi nt (fun id=>id<S.st.length) K (aW S.env) (aV S.st) a w) (hk:((b',o'),(x,y))∈K)
 (h:∃ R1,dF C (aH C) ops.toList false S.st.length os1 0 { env:=aW S.env,st:=aV S.st,log:=[] }=some R1∧R1.env u=.i (.lit (.pointer (some ⟨b',o',none⟩))) ∧
  ∃ R2,dF C (aH C) ops.toList false S.st.length os2 os1.length { env:=upd R1.env u (.i (.iref x.cells)),st:=R1.st,log:=R1.log }=some R2∧PP R2.env R2.st)
 (hfin:∀ env st a' w',PP env st→GG wi mi nt (fun _=>True) K env st a' w'→wpOpIn (FR none) 0 C.P ops Q (os1.length+os2.length) (fun a w=>wpOpsIn (FR none) 0 C.P ops Q [] a w) a' w'):(Code.region id ops false).wp C.P Q a w:=by
 obtain⟨R1,h1,h2,R2,h3,h4⟩:=h;refine uP ?_;have hsz:ops.size=os1.length+(os2.length+1):=by rw[← Array.length_toList,hops];simp
 have hget:∀ j,ops[j]?=(os1++(os2++[o]))[j]?:=fun j=>by rw[← hops,xI]
 rw[x9,hsz,show List.range' 0 (os1.length+(os2.length+1))=List.range' 0 os1.length++(List.range' os1.length os2.length++[os1.length+os2.length])by
  rw[← List.range'_append_1,← List.range'_append_1];simp]
 have hcall:=aZ hS;refine GG.ops hS.ctx hcall hs (R:={ env:=aW S.env,st:=aV S.st,log:=[] }) (base:=S.st.length) (i:=0) (fun j hj=>?_) h1 (g.ok' fun id h=>.inl h) fun a1 w1 g1=>?_
 ·rw[hget,zM,yV hj]
 ·have g2:=g1.see (u:=u) h2 hk;rw[zM]at g2;refine GG.ops hS.ctx hcall hs (R:={ env:=upd R1.env u (.i (.iref x.cells)),st:=R1.st,log:=R1.log }) (base:=S.st.length) (fun j hj=>?_) h3 g2 fun a2 w2 g3=>?_
  ·rw[hget,zA (by omega),xQ,yV hj]
  ·rw[wpOpsIn_cons];exact hfin _ _ a2 w2 h4 (g3.ok' fun _ _=>trivial)
end
def Hand (todo K:KL) (p:Nat×Nat) (x:Ex):Prop:=(p,(x,none))∈K∧(x.kids=[]∨(∃ b' c,(p,(x,some (b',c)))∈K)∨(p,(x,none))∈todo)
structure WL (root:Nat×Nat) (e:Ex) (todo K:KL):Prop where
 rk:∃ rk:Nat→Nat,∀ b o x b' c,((b,o),(x,some (b',c)))∈K→rk b<rk b'
 uniq:∀ p q x y b' c c',(p,(x,some (b',c)))∈K→(q,(y,some (b',c')))∈K→p=q
 kids:∀ p x b' c,(p,(x,some (b',c)))∈K→∀ (j:Nat) kid,x.kids[j]?=some kid→Hand todo K (b',5*j) kid
 hroot:Hand todo K root e
 sub:∀ k∈todo,k∈K∧k.2.2=none
 nodup:(todo.map (·.1)).Nodup
 nolit:∀ k∈todo,∀ k'∈K,k'.1=k.1→k'.2.2=none
theorem gN {b:Nat}:∀ (o:Nat) (l:List Ex),∀ k∈bH b o l,k.2.2=none∧k.1.1=b∧o≤k.1.2
 | _,[]=>by simp[bH]
 | o,a::l=>by
  intro k hk;simp only[bH,zQ]at hk
  rcases hk with rfl|hk
  ·exact⟨rfl,rfl,zO _⟩
  ·obtain⟨h1,h2,h3⟩:=gN (o+5) l k hk;exact⟨h1,h2,by omega⟩
theorem wP {b:Nat}:∀ (o:Nat) (l:List Ex),((bH b o l).map (·.1)).Nodup
 | _,[]=>by simp[bH]
 | o,a::l=>by
  simp only[bH,yP,z8];refine⟨fun h=>?_,wP (o+5) l⟩;obtain⟨k,hk,e⟩:=y7.1 h;have:=(gN (o+5) l k hk).2.2;rw[e]at this;simp at this;omega
theorem JO {b o:Nat} {x:Ex} {b' cap:Nat} {k:(Nat×Nat)×Nd} (h:k∈XG b o x b' cap):x.kids≠[]∧(k=((b,o),(x,some (b',cap)))∨k∈bH b' 0 x.kids):=by
 unfold XG at h;split at h
 ·cases h
 ·rename_i hx;exact⟨hx,zQ.1 h⟩
theorem MQ {b o:Nat} {x:Ex} {b' cap:Nat} {k:(Nat×Nat)×Nd} (h:k∈bH b' 0 x.kids):k∈XG b o x b' cap:=by
 unfold XG;split
 ·rename_i hx;rw[hx]at h;simp[bH]at h
 ·exact x8 _ h
theorem WL.start (b3:Nat) (e:Ex):WL (b3,0) e [((b3,0),(e,none))] [((b3,0),(e,none))]:=by
 refine⟨⟨fun _=>0,?_⟩,?_,?_,⟨by simp, .inr (.inr (by simp))⟩,by simp,by simp,?_⟩
 ·intro b o x b' c h;simp at h
 ·intro p q x y b' c c' h;simp at h
 ·intro p x b' c h;simp at h
 ·intro k hk k' hk' _;simp at hk';rw[hk']
theorem WL.step {root:Nat×Nat} {e x:Ex} {init K:KL} {b o b' cap:Nat} (h:WL root e (init++[((b,o),(x,none))]) K) (hf:x.kids≠[]→∀ k∈K,k.1.1≠b'∧∀ b2 c2,k.2.2=some (b2,c2)→b2≠b') :
 WL root e (init++bH b' 0 x.kids) (K++XG b o x b' cap):=by
 have hcur:((b,o),(x,none))∈K:=(h.sub _ (by simp)).1
 have litIn:∀ {p:Nat×Nat} {y:Ex} {f c:Nat},(p,(y,some (f,c)))∈K++XG b o x b' cap→(p,(y,some (f,c)))∈K∨(x.kids≠[]∧p=(b,o)∧y=x∧f=b'∧c=cap):=by
  intro p y f c hm
  rcases zV.1 hm with hm|hm
  ·exact .inl hm
  ·obtain⟨hx,hm⟩:=JO hm
   rcases hm with hm|hm
   ·injection hm with e1 e2;injection e2 with e2 e3;injection e3 with e3;injection e3 with e3 e4;exact .inr ⟨hx,e1,e2,e3,e4⟩
   ·have:=(gN 0 _ _ hm).1;cases this
 have up:∀ {p:Nat×Nat} {y:Ex},Hand (init++[((b,o),(x,none))]) K p y→Hand (init++bH b' 0 x.kids) (K++XG b o x b' cap) p y:=by
  rintro p y ⟨h1,h2⟩;refine⟨List.mem_append_left _ h1,?_⟩
  rcases h2 with h2|⟨f,c,h2⟩|h2
  ·exact .inl h2
  ·exact .inr (.inl ⟨f,c,yN _ h2⟩)
  ·rcases zV.1 h2 with h2|h2
   ·exact .inr (.inr (yN _ h2))
   ·simp only[xW,Prod.mk.injEq,and_true]at h2;obtain⟨rfl,rfl⟩:=h2;by_cases hx:y.kids=[]
    ·exact .inl hx
    ·exact .inr (.inl ⟨b',cap,xA _ (by unfold XG;rw[if_neg hx];simp)⟩)
 have hnd:=h.nodup;rw[yF,zN]at hnd;refine⟨?_,?_,?_,up h.hroot,?_,?_,?_⟩
 ·obtain⟨rk,hr⟩:=h.rk;refine⟨fun f=>if x.kids≠[]∧f=b' then rk b+1 else rk f,?_⟩;intro b1 o1 y f c hm
  rcases litIn hm with hm|⟨hx,e1,rfl,rfl,rfl⟩
  ·have hlt:=hr _ _ _ _ _ hm;have n1:¬ (x.kids≠[]∧b1=b'):=fun hh=>(hf hh.1 _ hm).1 hh.2
   have n2:¬ (x.kids≠[]∧f=b'):=fun hh=>(hf hh.1 _ hm).2 _ _ rfl hh.2
   simp only[if_neg n1,if_neg n2];exact hlt
  ·injection e1 with e1 e2;subst e1;subst e2;have n1:¬ (y.kids≠[]∧b1=f):=fun hh=>(hf hh.1 _ hcur).1 hh.2
   show(if y.kids≠[]∧b1=f then rk b1+1 else rk b1)<(if y.kids≠[]∧f=f then rk b1+1 else rk f);rw[if_neg n1,if_pos ⟨hx,rfl⟩];omega
 ·intro p q y z f c c' h1 h2
  rcases litIn h1 with g1|⟨hx,a1,a2,a3,a4⟩
  ·rcases litIn h2 with g2|⟨hx,a1,a2,a3,a4⟩
   ·exact h.uniq _ _ _ _ _ _ _ g1 g2
   ·exact absurd a3 ((hf hx _ g1).2 _ _ rfl)
  ·rcases litIn h2 with g2|⟨_,c1,_,_,_⟩
   ·exact absurd a3 ((hf hx _ g2).2 _ _ rfl)
   ·rw[a1,c1]
 ·intro p y f c hm j kid hk
  rcases litIn hm with hm|⟨hx,rfl,rfl,rfl,rfl⟩
  ·exact up (h.kids p y f c hm j kid hk)
  ·have hkm:=qL (b:=f) (o:=0) hk;rw[zM]at hkm;exact⟨List.mem_append_right _ (MQ hkm), .inr (.inr (xA _ hkm))⟩
 ·intro k hk
  rcases zV.1 hk with hk|hk
  ·obtain⟨h1,h2⟩:=h.sub k (by simp[hk]);exact⟨List.mem_append_left _ h1,h2⟩
  ·exact⟨List.mem_append_right _ (MQ hk),(gN 0 _ _ hk).1⟩
 ·rw[yF,zN];refine⟨hnd.1,wP 0 _,fun p hp q hq e=>?_⟩;subst e;obtain⟨k1,h1,e1⟩:=y7.1 hp;obtain⟨k2,h2,e2⟩:=y7.1 hq;have hx:x.kids≠[]:=fun hx=>by rw[hx]at h2;simp[bH]at h2
  have:=(hf hx k1 (h.sub k1 (by simp[h1])).1).1;rw[e1,← e2,(gN 0 _ _ h2).2.1]at this;exact this rfl
 ·intro k hk k' hk' e1
  rcases zV.1 hk with hk|hk
  ·rcases zV.1 hk' with hk'|hk'
   ·exact h.nolit k (by simp[hk]) k' hk' e1
   ·obtain⟨hx,hm⟩:=JO hk'
    rcases hm with rfl|hm
    ·exact absurd e1.symm (hnd.2.2 k.1 (y7.2 ⟨k,hk,rfl⟩) (b,o) (by simp))
    ·exact(gN 0 _ _ hm).1
  ·have hx:x.kids≠[]:=fun hx=>by rw[hx]at hk;simp[bH]at hk
   have hkb:=(gN 0 _ _ hk).2.1
   rcases zV.1 hk' with hk'|hk'
   ·exact absurd (by rw[e1,hkb]) (hf hx k' hk').1
   ·obtain⟨_,hm⟩:=JO hk'
    rcases hm with rfl|hm
    ·refine absurd ?_ (hf hx _ hcur).1;have:=congrArg Prod.fst e1;rw[hkb]at this;exact this
    ·exact(gN 0 _ _ hm).1
inductive Und (K:KL) (p:Nat×Nat):Nat→Prop
 | base {x:Ex} {f c:Nat}:(p,(x,some (f,c)))∈K→Und K p f
 | step {b o:Nat} {x:Ex} {f c:Nat}:((b,o),(x,some (f,c)))∈K→Und K p b→Und K p f
section
variable {root:Nat×Nat} {e:Ex} {todo K:KL}
theorem WL.XY (h:WL root e todo K) {rk:Nat→Nat} (hr:∀ b o x b' c,((b,o),(x,some (b',c)))∈K→rk b<rk b') {p:Nat×Nat} {f:Nat} (hu:Und K p f):rk p.1<rk f:=by
 induction hu with
 | base hm=>exact hr _ p.2 _ _ _ hm
 | step hm _ ih=>exact Nat.lt_trans ih (hr _ _ _ _ _ hm)
theorem WL.sib (h:WL root e todo K) {p q:Nat×Nat} {f:Nat} (hp:Und K p f):Und K q f→p.1=q.1→p=q:=by
 obtain⟨rk,hr⟩:=h.rk
 induction hp with
 | base hm =>
  intro hq e1
  cases hq with
  | base hm2=>exact h.uniq _ _ _ _ _ _ _ hm hm2
  | step hm2 hq2 =>
   have:=h.uniq _ _ _ _ _ _ _ hm hm2;have lt:=h.XY hr hq2;rw[← e1,this]at lt;exact absurd lt (yC _)
 | step hm hp2 ih =>
  intro hq e1
  cases hq with
  | base hm2 =>
   have:=h.uniq _ _ _ _ _ _ _ hm hm2;have lt:=h.XY hr hp2;rw[e1,← this]at lt;exact absurd lt (yC _)
  | step hm2 hq2 =>
   have:=h.uniq _ _ _ _ _ _ _ hm hm2;injection this with e2 e3;subst e2;exact ih hq2 e1
theorem ABX {p:Nat×Nat} {x:Ex} {b' c j f:Nat} (hm:(p,(x,some (b',c)))∈K) (hu:Und K (b',j) f):Und K p f:=by
 induction hu with
 | base h2=>exact .step h2 (.base hm)
 | step h2 _ ih=>exact .step h2 ih
end
theorem RX (k c:Int) (v:Val) (l:List Ex):(Ex.mk k c v l).kids=l:=rfl
theorem AGA {w:World} {a:Ex} {u:Value} {F:List Nat} (h:TCells w [.isl (Ex.aA a.kids)] [u] F):TCells w a.cells [.int .i64 a.kind, .int .i64 a.col, .bool a.val.null, .int .i64 a.val.n,u] F:=by
 rw[Ex.aB];exact .lit rfl (.lit rfl (.lit rfl (.lit rfl h)))
theorem CG {w:World} {b:Nat} {us:List Value} {o:Nat} {v:Value} (hr:rowOf w b us) (h:w.cell? ⟨b,o,none⟩=some v):us[o]?=some v:=by
 obtain⟨T,e,_⟩:=hr;rw[bT e]at h;exact h
theorem ARU {us:List Value} {o:Nat} {v0 v1 v2 v3 v4:Value} (h0:us[o]?=some v0) (h1:us[o+1]?=some v1) (h2:us[o+2]?=some v2) (h3:us[o+3]?=some v3) (h4:us[o+4]?=some v4):us.drop o=[v0,v1,v2,v3,v4]++us.drop (o+5):=by
 have g:∀ {o:Nat} {v:Value},us[o]?=some v→us.drop o=v::us.drop (o+1):=by
  intro o v h;obtain⟨hl,rfl⟩:=zW.1 h;exact yJ hl
 rw[g h0,g h1,g h2,g h3,g h4];rfl
section
variable {root:Nat×Nat} {e:Ex} {K:KL} {B:Nat} {w:World} {m:Mem} {φ:Pl}
theorem WL.tree (h:WL root e [] K) (hK:∀ k∈K,PF B w m φ k.1.1 k.1.2 k.2) (hm:lW w m):∀ (x:Ex) (p:Nat×Nat),Hand [] K p x →
 ∃ v F,ExAt m p.1 p.2 x v∧TCells w [.isl (Ex.aA x.kids)] [v] F∧F.Nodup∧∀ f∈F,Und K p f∧B≤f∧fJ φ f:=by
 intro x
 induction x using Ex.ind with
 | h kd cl vl ks ih =>
  intro p hp;obtain⟨hp1,hp2⟩:=hp;have pf:=hK _ hp1;obtain⟨v,hx⟩:=vI pf.cel;refine⟨v,?_⟩;simp only[RX]at hp2 ⊢;have hkids:=hx.kids;rw[RX]at hkids;by_cases hks:ks=[]
  ·subst hks;simp only[Ex.aA]at hkids ⊢;refine⟨[],hx,?_,by simp,by simp⟩
   cases hkids with
   | isl0 ao cap hc=>exact .isl0 hc .nil
   | isl hn=>exact absurd rfl hn
  ·obtain⟨b',cap,hl⟩:∃ b' c,(p,(Ex.mk kd cl vl ks,some (b',c)))∈K:=by
    rcases hp2 with h1|h1|h1
    ·exact absurd h1 hks
    ·exact h1
    ·cases h1
   obtain⟨l1,l2,l3,us,T,l4,l5,l6⟩:=(hK _ hl).lit b' cap rfl
   have hv:v=.slice (some ⟨b',0,none⟩) ks.length cap:=by
    have:=hx.c4;rw[l1]at this;injection this with this;exact this.symm
   subst hv
   have hrow:rowOf w b' us:=⟨T,l4,l6⟩
   have hlen:(Ex.aA ks).length=ks.length:=by simp
   have hne:Ex.aA ks≠[]:=fun hh=>by rw[hh]at hlen;simp at hlen;exact hks (zZ.1 hlen.symm)
   have hcap:ks.length≤cap:=by
    rcases jP hkids with ⟨h1,_⟩|⟨_,b2,off,k2,cap2,h1,_,h2⟩
    ·exact absurd h1 hne
    ·injection h1 with _ _ h3;subst h3;rw[hlen]at h2;exact h2
   have list:∀ (l:List Ex) (j:Nat),(∀ a∈l,a∈ks)→(∀ i kid,l[i]?=some kid→Hand [] K (b',5*(j+i)) kid)→∃ F,TCells w (Ex.aA l).flatten ((us.drop (5*j)).take (5*l.length)) F∧F.Nodup∧∀ f∈F,(∃ i,Und K (b',5*(j+i)) f)∧B≤f∧fJ φ f:=by
    intro l
    induction l with
    | nil=>intro j _ _;exact⟨[],by simpa [Ex.aA]using TCells.nil,by simp,by simp⟩
    | cons a l ihl =>
     intro j hin hh;have h0:=hh 0 a rfl;obtain⟨va,Fa,ha,ta,na,ua⟩:=ih a (hin a (by simp)) (b',5*(j+0)) h0;simp only[yE]at ha ua
     obtain⟨Fl,tl,nl,ul⟩:=ihl (j+1) (fun x hx=>hin x (by simp[hx])) (fun i kid hi=>by
      have:=hh (i+1) kid (by simpa using hi)
      rwa [show j+(i+1)=j+1+i by omega]at this)
     have hr5:=ARU (CG hrow (hm _ _ _ ha.c0)) (CG hrow (hm _ _ _ ha.c1)) (CG hrow (hm _ _ _ ha.c2)) (CG hrow (hm _ _ _ ha.c3)) (CG hrow (hm _ _ _ ha.c4));refine⟨Fa++Fl,?_,?_,?_⟩
     ·rw[hr5,zS,show 5*(l.length+1)=5+5*l.length by omega];rw[yH,zY (by simp)];simp only[Ex.aA,zF];have t2:=AGA ta;have e1:5+5*l.length-[Value.int .i64 a.kind, .int .i64 a.col, .bool a.val.null, .int .i64 a.val.n,va].length=5*l.length:=by simp
      rw[e1,show 5*j+5=5*(j+1)by omega];exact t2.append tl
     ·rw[zN];refine⟨na,nl,fun f hf g hg e1=>?_⟩;subst e1;obtain⟨i,hi⟩:=(ul f hg).1;have:=h.sib (ua f hf).1 hi rfl;injection this with _ this;omega
     ·intro f hf
      rcases zV.1 hf with hf|hf
      ·exact⟨⟨0,(ua f hf).1⟩,(ua f hf).2⟩
      ·obtain⟨⟨i,hi⟩,q⟩:=ul f hf;exact⟨⟨1+i,by rwa [show j+(1+i)=j+1+i by omega]⟩,q⟩
   obtain⟨F,t1,n1,u1⟩:=list ks 0 (fun _ h=>h) (fun i kid hi=>by
    have:=h.kids p _ b' cap hl i kid hi
    rwa [zM])
   simp only[Nat.mul_zero,List.drop_zero]at t1
   have hkw:∀ r∈Ex.aA ks,r.length=5:=by
    have wid:∀ (l:List Ex),∀ r∈Ex.aA l,r.length=5:=by
     intro l
     induction l with
     | nil=>simp[Ex.aA]
     | cons a l ihl =>
      intro r hr;simp only[Ex.aA,zQ]at hr
      rcases hr with rfl|hr
      ·rw[Ex.aB];rfl
      ·exact ihl r hr
    exact wid ks
   refine⟨b'::F,hx,?_,?_,?_⟩
   ·have:=TCells.isl (w:=w) (b:=b') (k:=5) (cap:=cap) (us:=us) (G:=F) hne hrow (by omega) hkw l5 (by omega) (by rw[hlen];exact t1) .nil;rw[hlen]at this;simpa using this
   ·rw[z8];refine⟨fun hf=>?_,n1⟩;obtain⟨⟨i,hi⟩,_⟩:=u1 b' hf;obtain⟨rk,hr⟩:=h.rk;exact absurd (h.XY hr hi) (yC _)
   ·intro f hf
    rcases zQ.1 hf with rfl|hf
    ·exact⟨.base hl,l2,l3⟩
    ·obtain⟨⟨i,hi⟩,q⟩:=u1 f hf;exact⟨ABX hl hi,q⟩
end
end Go.Av.V

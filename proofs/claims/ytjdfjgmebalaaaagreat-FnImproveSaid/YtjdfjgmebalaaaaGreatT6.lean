/- Part 6 of what the proof rests on: the executor and what it is worth, and the program's functions as it runs them. No condition. -/
import Derived.Test.YtjdfjgmebalaaaaGreatT5
set_option linter.unusedVariables false
set_option linter.unusedSimpArgs false
namespace Go.Proofs.YtjdfjgmebalaaaaGreat.P
open Go Go.Av
set_option maxRecDepth 4000
set_option maxHeartbeats 8000000
theorem AEI {l:List UInt8} {ws:List Int} {k:Nat} {d j:Nat} {p u t:Int} (hd:d<100) (ht:aH C0 127 [.own 0 0, .int k] [Rd l p]=some (.int t,[Rd l (p+1)])) (hv:aH C0 127 [.own 0 0, .int 6] [Rd l (p+1)]=some (.int 0,[Rd l (p+1+1)])) :
 aH CP 182 [.own 0 0, .int ((d+1:Nat):Int)] (PSt l ws k j u p)=some (.i (.agg (Pn.scan t).cells),PSt l ws k j u (p+1+1)):=by
 have wn:¬ ((d:Int)+1=0):=by omega
 rw[aD rfl Tryz.func182 rfl rfl];simp[PSt,ht,hv,KQ,wn]
theorem RB {l:List UInt8} (hl:l.length≤2000) {ws:List Int} (hw:∀ w∈ws,0≤w∧w≤6) (hwl:ws.length<1000000) {k:Nat} (hk0:0<k) (hkl:k≤ws.length) {d j c c2:Nat} (hd:d<100) (hjb:j<1000) (ih:nE l ws k d j c) (hoth:∀ i:Nat,i<j→∀ y:Nat,y≤1→nE l ws k y i c2):nE l ws k (d+1) j (c+c2+500):=by
 intro p u h0 h1 hu0 hu1;obtain⟨t,ht,-,-⟩:=bC l p k h0 (by omega) hl;obtain⟨v,hv,-,-⟩:=bC l (p+1) 6 (by omega) (by omega) hl;by_cases v0:v=0
 ·subst v0;exact⟨.scan t,p+1+1,u,j,AEI hd ht hv,Th.scan (Pn.FO t) _ _,by omega,by omega,by omega,by omega,by omega⟩
 obtain⟨K,p1,u1,j1,hkid,hK,a1,a2,a3,a4,a5⟩:=ih (p+1+1) u (by omega) (by omega) hu0 hu1;have hW:=gL hw hwl hk0 hkl K hK.1;have hWr:=Pn.iD (ws:=ws.take k) (fun w hm=>hw w (zL hm)) K 8;generalize K.wd (ws.take k) 8=W at hW hWr;obtain⟨kk,hkk,hkk1,-⟩:=bC l p1 10 (by omega) (by omega) hl;obtain⟨kk0,kk9⟩:=hkk1 (by omega)
 suffices H:∃ (P:Pn) (p' u':Int) (j':Nat),aH CP 182 [.own 0 0, .int ((d+1:Nat):Int)] (PSt l ws k j u p)=some (.i (.agg P.cells),PSt l ws k j' u' p')∧Th P j j' u u'∧p1≤p'∧p'≤p1+400+c2∧j'≤j1∧0≤u'∧u'≤1 by
  obtain⟨P,p',u',j',b1,b2,b3,b4,b5,b6,b7⟩:=H;exact⟨P,p',u',j',b1,b2,by omega,by omega,by omega,b6,b7⟩
 have hb:p1+400+c2<300000000:=by omega
 have hp1:0≤p1:=by omega
 have H:PlH _ _ _ _ _ _ _ _ _ _ _ _ _ _ _ _:=⟨hd,hb,hp1,a4,a5,hWr.1,hWr.2,hK,ht,hv,v0,hkid,hW,hkk⟩
 by_cases q0:kk=0
 ·exact RJ hl H q0
 by_cases q1:kk=1
 ·exact RI hl H q1
 by_cases q2:kk=2
 ·exact RH hl H q2
 by_cases q3:kk=3
 ·exact AAW hl H q3
 by_cases q4:kk=4
 ·exact AAV hl H q4
 by_cases q5:kk=5
 ·by_cases hj:j1=0
  ·exact RG hl H hj q5
  by_cases hw4:W≤4
  ·exact AAY hl hw hwl hk0 hkl H hj (by omega) hw4 (fun y hy=>hoth (j1-1) (by omega) y hy) q5
  ·exact AAT hl H hj hw4 q5
 by_cases q6:kk=6
 ·by_cases hj:j1=0
  ·exact RF hl H hj q6
  by_cases hw4:W≤4
  ·exact AAX hl hw hwl hk0 hkl H hj (by omega) hw4 (fun y hy=>hoth (j1-1) (by omega) y hy) q6
  ·exact AAS hl H hj hw4 q6
 by_cases q7:kk=7
 ·by_cases hu:0<u1
  ·exact AAU hl H hu q7
  ·exact RD hl H hu q7
 by_cases q8:kk=8
 ·exact NL hl H q8
 have q9:kk=9:=by omega
 by_cases hw1:1<W
 ·exact VJ hl H hw1 q9
 ·exact VK hl H hw1 q9
theorem nE.le {l:List UInt8} {ws:List Int} {k:Nat} {d j c c':Nat} (h:nE l ws k d j c) (hc:c≤c'):nE l ws k d j c':=by
 intro p u h0 h1 hu0 hu1;obtain⟨P,p',u',j',b1,b2,b3,b4,b5,b6,b7⟩:=h p u h0 (by omega) hu0 hu1;exact⟨P,p',u',j',b1,b2,b3,by omega,b5,b6,b7⟩
theorem G9 {l:List UInt8} (hl:l.length≤2000) {ws:List Int} (hw:∀ w∈ws,0≤w∧w≤6) (hwl:ws.length<1000000) {k:Nat} (hk0:0<k) (hkl:k≤ws.length):∀ d:Nat,d<50→nE l ws k d 0 (500*d+1)
 | 0,_=>(RA hl 0).le (by omega)
 | d+1,h=>(RB hl hw hwl hk0 hkl (c2:=0) (by omega) (by omega) (G9 hl hw hwl hk0 hkl d (by omega)) (fun i hi=>by omega)).le (by omega)
theorem XY {l:List UInt8} (hl:l.length≤2000) {ws:List Int} (hw:∀ w∈ws,0≤w∧w≤6) (hwl:ws.length<1000000) {k:Nat} (hk0:0<k) (hkl:k≤ws.length):∀ d:Nat,d<50→nE l ws k d 1 (2000*d+1)
 | 0,_=>(RA hl 1).le (by omega)
 | d + 1,h=>(RB hl hw hwl hk0 hkl (c2:=501) (by omega) (by omega) (XY hl hw hwl hk0 hkl d (by omega)) (fun i hi y hy=>by
     obtain rfl:i=0:=by omega
     exact(G9 hl hw hwl hk0 hkl y (by omega)).le (by omega))).le (by omega)
theorem AFT {e:Ex} {p:Pn} (he:e.size≤120) (hp:p.thin):(bP e p).thin:=bR (by omega) hp
def bl (n:Nat):Nat:=if n=0 then 0 else 1
def rX (b:Nat) (P:Pn):AV:=.agg [.int P.kind, .int P.table,gro b 5 P.exprs.length,gro (b+bl P.exprs.length) 1 P.cols.length,gro (b+bl P.exprs.length+bl P.cols.length) 5 P.kids.length]
def rS (P:Pn):StL:=TG 5 (Ex.aB P.exprs) P.exprs.length++(TG 1 (aG P.cols) P.cols.length++TG 5 (Pn.aB P.kids) P.kids.length)
@[simp] theorem AWO (a:List AV) (st:StL):aH CQ 182 a st=aH CP 182 a st:=by rw[aP (p:=aH CP 182) rfl]
@[simp] theorem AOS (a:List AV) (st:StL):aH CQ 167 a st=rO C0 true 167 a st:=by rw[aP (p:=rO C0 true 167) rfl]
@[simp] theorem ALN (a:List AV) (st:StL):aH CQ 104 a st=aH CP 104 a st:=by rw[aP (p:=SF (aH C0) 104) rfl,aP (p:=SF (aH C0) 104) rfl]
@[simp] theorem AOT (a:List AV) (st:StL):aH CQ 62 a st=aH CP 62 a st:=by rw[aP (p:=AJE (aH C0) 62) rfl,aP (p:=AJE (aH C0) 62) rfl]
@[simp] theorem AWP (a:List AV) (st:StL):aH CQ 127 a st=aH C0 127 a st:=by rw[aP (p:=aH C0 127) rfl]
@[simp] theorem AXO (a:List AV) (st:StL):aH CQ 128 a st=aH C0 128 a st:=by rw[aP (p:=aH C0 128) rfl]
@[simp] theorem AWR (a:List AV) (st:StL):aH CQ 183 a st=aH C0 183 a st:=by rw[aP (p:=aH C0 183) rfl]
@[simp] theorem AWQ (a:List AV) (st:StL):aH CQ 184 a st=aH C0 184 a st:=by rw[aP (p:=aH C0 184) rfl]
theorem dM (e:Ex) (p:Pn):rO C0 true 167 [.i (.agg e.cells), .i (.agg p.cells)] []=some (.agg [.int 2, .int 0, .osl 0 5 0 1, .nils, .osl 1 5 0 1],[some (.arr 5 [e.cells]),some (.arr 5 [p.cells])]):=by
 rw[dP Tryz.func167 rfl rfl,Ex.aA,Pn.aA];simp
def UL (l:List UInt8) (ws:List Int) (k d j c:Nat):Prop:=∀ p u:Int,0≤p→p+c<300000000→0≤u→u≤1→∃ (P:Pn) (p' u':Int) (j':Nat),
    rO CQ true 182 [.own 0 0, .int d] (PSt l ws k j u p)=some (rX 3 P,PSt l ws k j' u' p'++rS P)∧Th P j j' u u'∧p≤p'∧p'≤p+c∧j'≤j∧0≤u'∧u'≤1∧P.exprs.length≤2∧P.cols.length≤1
theorem ADT {l:List UInt8} {ws:List Int} {k:Nat} {d j:Nat} {p u t:Int} (hd:d<100) (ht:aH C0 127 [.own 0 0, .int k] [Rd l p]=some (.int t,[Rd l (p+1)])) (hv:aH C0 127 [.own 0 0, .int 6] [Rd l (p+1)]=some (.int 0,[Rd l (p+1+1)])) :
 rO CQ true 182 [.own 0 0, .int ((d+1:Nat):Int)] (PSt l ws k j u p)=some (rX 3 (Pn.scan t),PSt l ws k j u (p+1+1)++rS (Pn.scan t)):=by
 have wn:¬ ((d:Int)+1=0):=by omega
 rw[dP Tryz.func182 rfl rfl];simp[PSt,ht,hv,wn,rX,rS,bl,Pn.scan]
abbrev RtC (l:List UInt8) (ws:List Int) (k d j c2:Nat) (p u p1:Int) (j1:Nat):Prop:=∃ (P:Pn) (p' u':Int) (j':Nat),rO CQ true 182 [.own 0 0, .int ((d+1:Nat):Int)] (PSt l ws k j u p)=some (rX 3 P,PSt l ws k j' u' p'++rS P)∧Th P j j' u u'∧p1≤p'∧p'≤p1+400+c2∧j'≤j1∧0≤u'∧u'≤1∧P.exprs.length≤2∧P.cols.length≤1
theorem QZ {l:List UInt8} (hl:l.length≤2000) {ws:List Int} {k:Nat} {d j c2:Nat} {p u t v W kk p1 u1:Int} {j1:Nat} {K:Pn} (H:PlH l ws k d j c2 p u t v W kk p1 u1 j1 K) (hq:kk=0):RtC l ws k d j c2 p u p1 j1:=by
 obtain⟨hd,h1,hp1,hu0,hu1,hW0,hW6,hKB,ht,hv,v0,hkid,hW,hkk⟩:=H;have we:IntKind.i64.wrap (d:Int)=d:=wrO;have hK:=hKB.1;have wn:¬ ((d:Int)+1=0):=by omega
 simp only[PSt]at hkid;rw[Pn.aA K]at hkid hW;obtain⟨e,p2,he,a1,a2,a3⟩:=aN l hl W (p1+1) (by omega) (by omega);have hf:=dM e K;rw[Pn.aA K,Ex.aA e]at hf;rw[Ex.aA e]at he;refine⟨bP e K,p2,u1,j1,?_,Th.one (bR (by omega) hK) hKB,by omega,by omega,by omega,by omega,by omega,by simp[bP,Pn.scan],by simp[bP,Pn.scan]⟩;rw[dP Tryz.func182 rfl rfl];simp[PSt,ht,hv,v0,we,hkid,hW,hkk,wn,hq,rX,rS,bl,he,hf,bP,Ex.aB,aG,Pn.aB,Pn.aA K,Ex.aA e]
theorem QY {l:List UInt8} (hl:l.length≤2000) {ws:List Int} {k:Nat} {d j c2:Nat} {p u t v W kk p1 u1:Int} {j1:Nat} {K:Pn} (H:PlH l ws k d j c2 p u t v W kk p1 u1 j1 K) (hq:kk=1):RtC l ws k d j c2 p u p1 j1:=by
 obtain⟨hd,h1,hp1,hu0,hu1,hW0,hW6,hKB,ht,hv,v0,hkid,hW,hkk⟩:=H;have we:IntKind.i64.wrap (d:Int)=d:=wrO;have hK:=hKB.1;have wn:¬ ((d:Int)+1=0):=by omega
 simp only[PSt]at hkid;rw[Pn.aA K]at hkid hW;obtain⟨e,p2,he,a1,a2,a3⟩:=aN l hl W (p1+1) (by omega) (by omega);have hf:=dM e K;rw[Pn.aA K,Ex.aA e]at hf;rw[Ex.aA e]at he;refine⟨bP e K,p2,u1,j1,?_,Th.one (bR (by omega) hK) hKB,by omega,by omega,by omega,by omega,by omega,by simp[bP,Pn.scan],by simp[bP,Pn.scan]⟩;rw[dP Tryz.func182 rfl rfl];simp[PSt,ht,hv,v0,we,hkid,hW,hkk,wn,hq,rX,rS,bl,he,hf,bP,Ex.aB,aG,Pn.aB,Pn.aA K,Ex.aA e]
theorem QW {l:List UInt8} (hl:l.length≤2000) {ws:List Int} {k:Nat} {d j c2:Nat} {p u t v W kk p1 u1:Int} {j1:Nat} {K:Pn} (H:PlH l ws k d j c2 p u t v W kk p1 u1 j1 K) (hq:kk=2):RtC l ws k d j c2 p u p1 j1:=by
 obtain⟨hd,h1,hp1,hu0,hu1,hW0,hW6,hKB,ht,hv,v0,hkid,hW,hkk⟩:=H;have we:IntKind.i64.wrap (d:Int)=d:=wrO;have hK:=hKB.1;have wn:¬ ((d:Int)+1=0):=by omega
 simp only[PSt]at hkid;rw[Pn.aA K]at hkid hW;obtain⟨e,p2,he,a1,a2,a3⟩:=aN l hl W (p1+1) (by omega) (by omega);have hf:=dM e K;rw[Pn.aA K,Ex.aA e]at hf;rw[Ex.aA e]at he;refine⟨bP e K,p2,u1,j1,?_,Th.one (bR (by omega) hK) hKB,by omega,by omega,by omega,by omega,by omega,by simp[bP,Pn.scan],by simp[bP,Pn.scan]⟩;rw[dP Tryz.func182 rfl rfl];simp[PSt,ht,hv,v0,we,hkid,hW,hkk,wn,hq,rX,rS,bl,he,hf,bP,Ex.aB,aG,Pn.aB,Pn.aA K,Ex.aA e]
theorem NE {l:List UInt8} (hl:l.length≤2000) {ws:List Int} {k:Nat} {d j c2:Nat} {p u t v W kk p1 u1:Int} {j1:Nat} {K:Pn} (H:PlH l ws k d j c2 p u t v W kk p1 u1 j1 K) (hq:kk=8):RtC l ws k d j c2 p u p1 j1:=by
 obtain⟨hd,h1,hp1,hu0,hu1,hW0,hW6,hKB,ht,hv,v0,hkid,hW,hkk⟩:=H;have we:IntKind.i64.wrap (d:Int)=d:=wrO;have hK:=hKB.1;have wn:¬ ((d:Int)+1=0):=by omega
 simp only[PSt]at hkid;rw[Pn.aA K]at hkid hW;refine⟨.mk 7 0 [] [] [K],p1+1,u1,j1,?_,Th.one (by simp[Pn.thin,Pn.fT,hK]) hKB,by omega,by omega,by omega,by omega,by omega,by simp[bP,Pn.scan],by simp[bP,Pn.scan]⟩;rw[dP Tryz.func182 rfl rfl];simp[PSt,ht,hv,v0,we,hkid,hW,hkk,wn,hq,rX,rS,bl,Pn.cells,Ex.aB,aG,Pn.aB,Pn.aA K]
theorem QV {l:List UInt8} (hl:l.length≤2000) {ws:List Int} {k:Nat} {d j c2:Nat} {p u t v W kk p1 u1:Int} {j1:Nat} {K:Pn} (H:PlH l ws k d j c2 p u t v W kk p1 u1 j1 K) (hj:j1=0) (hq:kk=5):RtC l ws k d j c2 p u p1 j1:=by
 obtain⟨hd,h1,hp1,hu0,hu1,hW0,hW6,hKB,ht,hv,v0,hkid,hW,hkk⟩:=H;have we:IntKind.i64.wrap (d:Int)=d:=wrO;have hK:=hKB.1;have wn:¬ ((d:Int)+1=0):=by omega
 simp only[PSt]at hkid;rw[Pn.aA K]at hkid hW;obtain⟨e,p2,he,a1,a2,a3⟩:=aN l hl W (p1+1) (by omega) (by omega);have hf:=dM e K;rw[Pn.aA K,Ex.aA e]at hf;rw[Ex.aA e]at he;refine⟨bP e K,p2,u1,j1,?_,Th.one (bR (by omega) hK) hKB,by omega,by omega,by omega,by omega,by omega,by simp[bP,Pn.scan],by simp[bP,Pn.scan]⟩;rw[dP Tryz.func182 rfl rfl];simp[PSt,ht,hv,v0,we,hkid,hW,hkk,wn,hq,rX,rS,bl,he,hf,bP,Ex.aB,aG,Pn.aB,Pn.aA K,Ex.aA e,hj]
theorem AAG {l:List UInt8} (hl:l.length≤2000) {ws:List Int} {k:Nat} {d j c2:Nat} {p u t v W kk p1 u1:Int} {j1:Nat} {K:Pn} (H:PlH l ws k d j c2 p u t v W kk p1 u1 j1 K) (hj:j1≠0) (hw4:¬ W≤4) (hq:kk=5):RtC l ws k d j c2 p u p1 j1:=by
 obtain⟨hd,h1,hp1,hu0,hu1,hW0,hW6,hKB,ht,hv,v0,hkid,hW,hkk⟩:=H;have we:IntKind.i64.wrap (d:Int)=d:=wrO;have hK:=hKB.1;have wn:¬ ((d:Int)+1=0):=by omega
 simp only[PSt]at hkid;rw[Pn.aA K]at hkid hW;have hj':0<j1:=by omega
 obtain⟨e,p2,he,a1,a2,a3⟩:=aN l hl W (p1+1) (by omega) (by omega);have hf:=dM e K;rw[Pn.aA K,Ex.aA e]at hf;rw[Ex.aA e]at he;refine⟨bP e K,p2,u1,j1,?_,Th.one (bR (by omega) hK) hKB,by omega,by omega,by omega,by omega,by omega,by simp[bP,Pn.scan],by simp[bP,Pn.scan]⟩;rw[dP Tryz.func182 rfl rfl];simp[PSt,ht,hv,v0,we,hkid,hW,hkk,wn,hq,rX,rS,bl,he,hf,bP,Ex.aB,aG,Pn.aB,Pn.aA K,Ex.aA e,hj',hj,hw4]
theorem QU {l:List UInt8} (hl:l.length≤2000) {ws:List Int} {k:Nat} {d j c2:Nat} {p u t v W kk p1 u1:Int} {j1:Nat} {K:Pn} (H:PlH l ws k d j c2 p u t v W kk p1 u1 j1 K) (hj:j1=0) (hq:kk=6):RtC l ws k d j c2 p u p1 j1:=by
 obtain⟨hd,h1,hp1,hu0,hu1,hW0,hW6,hKB,ht,hv,v0,hkid,hW,hkk⟩:=H;have we:IntKind.i64.wrap (d:Int)=d:=wrO;have hK:=hKB.1;have wn:¬ ((d:Int)+1=0):=by omega
 simp only[PSt]at hkid;rw[Pn.aA K]at hkid hW;obtain⟨e,p2,he,a1,a2,a3⟩:=aN l hl W (p1+1) (by omega) (by omega);have hf:=dM e K;rw[Pn.aA K,Ex.aA e]at hf;rw[Ex.aA e]at he;refine⟨bP e K,p2,u1,j1,?_,Th.one (bR (by omega) hK) hKB,by omega,by omega,by omega,by omega,by omega,by simp[bP,Pn.scan],by simp[bP,Pn.scan]⟩;rw[dP Tryz.func182 rfl rfl];simp[PSt,ht,hv,v0,we,hkid,hW,hkk,wn,hq,rX,rS,bl,he,hf,bP,Ex.aB,aG,Pn.aB,Pn.aA K,Ex.aA e,hj]
theorem AAF {l:List UInt8} (hl:l.length≤2000) {ws:List Int} {k:Nat} {d j c2:Nat} {p u t v W kk p1 u1:Int} {j1:Nat} {K:Pn} (H:PlH l ws k d j c2 p u t v W kk p1 u1 j1 K) (hj:j1≠0) (hw4:¬ W≤4) (hq:kk=6):RtC l ws k d j c2 p u p1 j1:=by
 obtain⟨hd,h1,hp1,hu0,hu1,hW0,hW6,hKB,ht,hv,v0,hkid,hW,hkk⟩:=H;have we:IntKind.i64.wrap (d:Int)=d:=wrO;have hK:=hKB.1;have wn:¬ ((d:Int)+1=0):=by omega
 simp only[PSt]at hkid;rw[Pn.aA K]at hkid hW;have hj':0<j1:=by omega
 obtain⟨e,p2,he,a1,a2,a3⟩:=aN l hl W (p1+1) (by omega) (by omega);have hf:=dM e K;rw[Pn.aA K,Ex.aA e]at hf;rw[Ex.aA e]at he;refine⟨bP e K,p2,u1,j1,?_,Th.one (bR (by omega) hK) hKB,by omega,by omega,by omega,by omega,by omega,by simp[bP,Pn.scan],by simp[bP,Pn.scan]⟩;rw[dP Tryz.func182 rfl rfl];simp[PSt,ht,hv,v0,we,hkid,hW,hkk,wn,hq,rX,rS,bl,he,hf,bP,Ex.aB,aG,Pn.aB,Pn.aA K,Ex.aA e,hj',hj,hw4]
theorem QT {l:List UInt8} (hl:l.length≤2000) {ws:List Int} {k:Nat} {d j c2:Nat} {p u t v W kk p1 u1:Int} {j1:Nat} {K:Pn} (H:PlH l ws k d j c2 p u t v W kk p1 u1 j1 K) (hu:¬ 0<u1) (hq:kk=7):RtC l ws k d j c2 p u p1 j1:=by
 obtain⟨hd,h1,hp1,hu0,hu1,hW0,hW6,hKB,ht,hv,v0,hkid,hW,hkk⟩:=H;have we:IntKind.i64.wrap (d:Int)=d:=wrO;have hK:=hKB.1;have wn:¬ ((d:Int)+1=0):=by omega
 simp only[PSt]at hkid;rw[Pn.aA K]at hkid hW;obtain⟨e,p2,he,a1,a2,a3⟩:=aN l hl W (p1+1) (by omega) (by omega);have hf:=dM e K;rw[Pn.aA K,Ex.aA e]at hf;rw[Ex.aA e]at he;refine⟨bP e K,p2,u1,j1,?_,Th.one (bR (by omega) hK) hKB,by omega,by omega,by omega,by omega,by omega,by simp[bP,Pn.scan],by simp[bP,Pn.scan]⟩;rw[dP Tryz.func182 rfl rfl];simp[PSt,ht,hv,v0,we,hkid,hW,hkk,wn,hq,rX,rS,bl,he,hf,bP,Ex.aB,aG,Pn.aB,Pn.aA K,Ex.aA e,hu]
theorem AAH {l:List UInt8} (hl:l.length≤2000) {ws:List Int} {k:Nat} {d j c2:Nat} {p u t v W kk p1 u1:Int} {j1:Nat} {K:Pn} (H:PlH l ws k d j c2 p u t v W kk p1 u1 j1 K) (hu:0<u1) (hq:kk=7):RtC l ws k d j c2 p u p1 j1:=by
 obtain⟨hd,h1,hp1,hu0,hu1,hW0,hW6,hKB,ht,hv,v0,hkid,hW,hkk⟩:=H;have we:IntKind.i64.wrap (d:Int)=d:=wrO;have hK:=hKB.1;have wn:¬ ((d:Int)+1=0):=by omega
 simp only[PSt]at hkid;rw[Pn.aA K]at hkid hW;obtain⟨e,p2,he,a1,a2,a3⟩:=aN l hl W (p1+1) (by omega) (by omega);have hf:=dM e K;have hc:=vU K hK;have wu:IntKind.i64.wrap (u1-1)=u1-1:=wrO;rw[Pn.aA K,Ex.aA e]at hf;rw[Pn.aA K]at hc;rw[Ex.aA e]at he;refine⟨.mk 6 0 [] [] [K,bP e K],p2,u1-1,j1,?_,Th.un (by have:=bR (e:=e) (by omega) hK;unfold bP at this;simp[Pn.thin,Pn.fT,hK]at this ⊢;exact this) hKB,by omega,by omega,by omega,by omega,by omega,by simp[bP,Pn.scan],by simp[bP,Pn.scan]⟩;rw[dP Tryz.func182 rfl rfl];simp[PSt,ht,hv,v0,we,hkid,hW,hkk,wn,hq,rX,rS,bl,he,hf,bP,Ex.aB,aG,Pn.aB,Pn.aA K,Ex.aA e,hu,hc,wu,Pn.aW,Ex.aB,aG,Pn.aB]
theorem VC {l:List UInt8} (hl:l.length≤2000) {ws:List Int} {k:Nat} {d j c2:Nat} {p u t v W kk p1 u1:Int} {j1:Nat} {K:Pn} (H:PlH l ws k d j c2 p u t v W kk p1 u1 j1 K) (hw1:¬ 1<W) (hq:kk=9):RtC l ws k d j c2 p u p1 j1:=by
 obtain⟨hd,h1,hp1,hu0,hu1,hW0,hW6,hKB,ht,hv,v0,hkid,hW,hkk⟩:=H;have we:IntKind.i64.wrap (d:Int)=d:=wrO;have hK:=hKB.1;have wn:¬ ((d:Int)+1=0):=by omega
 simp only[PSt]at hkid;rw[Pn.aA K]at hkid hW;refine⟨.mk 8 0 [] [] [K],p1+1,u1,j1,?_,Th.one (by simp[Pn.thin,Pn.fT,hK]) hKB,by omega,by omega,by omega,by omega,by omega,by simp[bP,Pn.scan],by simp[bP,Pn.scan]⟩;rw[dP Tryz.func182 rfl rfl];simp[PSt,ht,hv,v0,we,hkid,hW,hkk,wn,hq,rX,rS,bl,hw1,Pn.aW,Ex.aB,aG,Pn.aB,Pn.aA K]
theorem VB {l:List UInt8} (hl:l.length≤2000) {ws:List Int} {k:Nat} {d j c2:Nat} {p u t v W kk p1 u1:Int} {j1:Nat} {K:Pn} (H:PlH l ws k d j c2 p u t v W kk p1 u1 j1 K) (hw1:1<W) (hq:kk=9):RtC l ws k d j c2 p u p1 j1:=by
 obtain⟨hd,h1,hp1,hu0,hu1,hW0,hW6,hKB,ht,hv,v0,hkid,hW,hkk⟩:=H;have we:IntKind.i64.wrap (d:Int)=d:=wrO;have hK:=hKB.1;have wn:¬ ((d:Int)+1=0):=by omega
 simp only[PSt]at hkid;rw[Pn.aA K]at hkid hW;obtain⟨g,hg,-,-⟩:=bC l (p1+1) W (by omega) (by omega) hl;refine⟨.mk 8 0 [] [g] [K],p1+1+1,u1,j1,?_,Th.one (by simp[Pn.thin,Pn.fT,hK]) hKB,by omega,by omega,by omega,by omega,by omega,by simp[bP,Pn.scan],by simp[bP,Pn.scan]⟩;rw[dP Tryz.func182 rfl rfl];simp[PSt,ht,hv,v0,we,hkid,hW,hkk,wn,hq,rX,rS,bl,hg,hw1,Pn.aW,Ex.aB,aG,Pn.aB,Pn.aA K]
theorem AAL {l:List UInt8} (hl:l.length≤2000) {ws:List Int} (hw:∀ w∈ws,0≤w∧w≤6) (hwl:ws.length<1000000) {k:Nat} (hk0:0<k) (hkl:k≤ws.length) {d j c2:Nat} {p u t v W kk p1 u1:Int} {j1:Nat} {K:Pn} (H:PlH l ws k d j c2 p u t v W kk p1 u1 j1 K) (hj:j1≠0) (hjb:j1<1000) (hw4:W≤4) (hoth:∀ y:Nat,y≤1→nE l ws k y (j1-1) c2) (hq:kk=5):RtC l ws k d j c2 p u p1 j1:=by
 obtain⟨hd,h1,hp1,hu0,hu1,hW0,hW6,hKB,ht,hv,v0,hkid,hW,hkk⟩:=H;have we:IntKind.i64.wrap (d:Int)=d:=wrO;have hK:=hKB.1;have wn:¬ ((d:Int)+1=0):=by omega
 simp only[PSt]at hkid;rw[Pn.aA K]at hkid hW;have hj':0<j1:=by omega
 have wj:IntKind.i64.wrap ((j1:Int)-1)=((j1-1:Nat):Int):=by rw[wrO];omega
 obtain⟨x,hx,hx1,-⟩:=bC l (p1+1) 2 (by omega) (by omega) hl;obtain⟨x0,x1⟩:=hx1 (by omega)
 obtain⟨y,rfl⟩:∃ y:Nat,x=y:=⟨x.toNat,by omega⟩
 obtain⟨O,p2,u2,j2,hO,hOt,b1,b2,b3,b4,b5⟩:=hoth y (by omega) (p1+1+1) u1 (by omega) (by omega) hu0 hu1;have hV:=gL hw hwl hk0 hkl O hOt.1;have hVr:=Pn.iD (ws:=ws.take k) (fun w hm=>hw w (zL hm)) O 8;generalize O.wd (ws.take k) 8=V at hV hVr;have wv:IntKind.i64.wrap (W+V)=W+V:=wrO;simp only[PSt]at hO;rw[Pn.aA O]at hO hV;by_cases hs:W+V≤6
 ·have h1:=nV l p2 (by omega) (by omega) hl [[.int 4],[.int 5]] (by simp) (by simp) (by simp);obtain⟨z,hz,hzm⟩:=h1;obtain⟨e,p3,he,a1,a2,a3⟩:=aN l hl (W+V) (p2+1) (by omega) (by omega);rw[Ex.aA e]at he;simp only[zQ,yQ,zI,Nat.reduceAdd]at hz;have het:=Ex.bF e (by omega);refine⟨.mk z 0 [e] [] [K,O],p3,u2,j2,?_,Th.jn (by simp[Pn.thin,Pn.fT,hK,hOt.1,het]) hj hKB hOt,by omega,by omega,by omega,by omega,by omega,by simp[bP,Pn.scan],by simp[bP,Pn.scan]⟩;rw[dP Tryz.func182 rfl rfl];simp[PSt,ht,hv,v0,we,hkid,hW,hkk,wn,hq,hj',hj,hw4,wj,hx,hO,hV,wv,hs,hz,he,rX,rS,bl,Pn.aW,Ex.aB,aG,Pn.aB,Pn.aA K,Pn.aA O,Ex.aA e]
 ·obtain⟨e,p3,he,a1,a2,a3⟩:=aN l hl W p2 (by omega) (by omega);have hf:=dM e K;rw[Pn.aA K,Ex.aA e]at hf;rw[Ex.aA e]at he;refine⟨bP e K,p3,u2,j2,?_,Th.skip (bR (by omega) hK) hKB (by omega) hOt.2.1.2.1,by omega,by omega,by omega,by omega,by omega,by simp[bP,Pn.scan],by simp[bP,Pn.scan]⟩;rw[dP Tryz.func182 rfl rfl];simp[PSt,ht,hv,v0,we,hkid,hW,hkk,wn,hq,hj',hj,hw4,wj,hx,hO,hV,wv,hs,rX,rS,bl,he,hf,bP,Ex.aB,aG,Pn.aB,Pn.aA K,Ex.aA e]
theorem AAK {l:List UInt8} (hl:l.length≤2000) {ws:List Int} (hw:∀ w∈ws,0≤w∧w≤6) (hwl:ws.length<1000000) {k:Nat} (hk0:0<k) (hkl:k≤ws.length) {d j c2:Nat} {p u t v W kk p1 u1:Int} {j1:Nat} {K:Pn} (H:PlH l ws k d j c2 p u t v W kk p1 u1 j1 K) (hj:j1≠0) (hjb:j1<1000) (hw4:W≤4) (hoth:∀ y:Nat,y≤1→nE l ws k y (j1-1) c2) (hq:kk=6):RtC l ws k d j c2 p u p1 j1:=by
 obtain⟨hd,h1,hp1,hu0,hu1,hW0,hW6,hKB,ht,hv,v0,hkid,hW,hkk⟩:=H;have we:IntKind.i64.wrap (d:Int)=d:=wrO;have hK:=hKB.1;have wn:¬ ((d:Int)+1=0):=by omega
 simp only[PSt]at hkid;rw[Pn.aA K]at hkid hW;have hj':0<j1:=by omega
 have wj:IntKind.i64.wrap ((j1:Int)-1)=((j1-1:Nat):Int):=by rw[wrO];omega
 obtain⟨x,hx,hx1,-⟩:=bC l (p1+1) 2 (by omega) (by omega) hl;obtain⟨x0,x1⟩:=hx1 (by omega)
 obtain⟨y,rfl⟩:∃ y:Nat,x=y:=⟨x.toNat,by omega⟩
 obtain⟨O,p2,u2,j2,hO,hOt,b1,b2,b3,b4,b5⟩:=hoth y (by omega) (p1+1+1) u1 (by omega) (by omega) hu0 hu1;have hV:=gL hw hwl hk0 hkl O hOt.1;have hVr:=Pn.iD (ws:=ws.take k) (fun w hm=>hw w (zL hm)) O 8;generalize O.wd (ws.take k) 8=V at hV hVr;have wv:IntKind.i64.wrap (W+V)=W+V:=wrO;simp only[PSt]at hO;rw[Pn.aA O]at hO hV;by_cases hs:W+V≤6
 ·have h1:=nV l p2 (by omega) (by omega) hl [[.int 4],[.int 5]] (by simp) (by simp) (by simp);obtain⟨z,hz,hzm⟩:=h1;obtain⟨e,p3,he,a1,a2,a3⟩:=aN l hl (W+V) (p2+1) (by omega) (by omega);rw[Ex.aA e]at he;simp only[zQ,yQ,zI,Nat.reduceAdd]at hz;have het:=Ex.bF e (by omega);refine⟨.mk z 0 [e] [] [K,O],p3,u2,j2,?_,Th.jn (by simp[Pn.thin,Pn.fT,hK,hOt.1,het]) hj hKB hOt,by omega,by omega,by omega,by omega,by omega,by simp[bP,Pn.scan],by simp[bP,Pn.scan]⟩;rw[dP Tryz.func182 rfl rfl];simp[PSt,ht,hv,v0,we,hkid,hW,hkk,wn,hq,hj',hj,hw4,wj,hx,hO,hV,wv,hs,hz,he,rX,rS,bl,Pn.aW,Ex.aB,aG,Pn.aB,Pn.aA K,Pn.aA O,Ex.aA e]
 ·obtain⟨e,p3,he,a1,a2,a3⟩:=aN l hl W p2 (by omega) (by omega);have hf:=dM e K;rw[Pn.aA K,Ex.aA e]at hf;rw[Ex.aA e]at he;refine⟨bP e K,p3,u2,j2,?_,Th.skip (bR (by omega) hK) hKB (by omega) hOt.2.1.2.1,by omega,by omega,by omega,by omega,by omega,by simp[bP,Pn.scan],by simp[bP,Pn.scan]⟩;rw[dP Tryz.func182 rfl rfl];simp[PSt,ht,hv,v0,we,hkid,hW,hkk,wn,hq,hj',hj,hw4,wj,hx,hO,hV,wv,hs,rX,rS,bl,he,hf,bP,Ex.aB,aG,Pn.aB,Pn.aA K,Ex.aA e]
theorem AAJ {l:List UInt8} (hl:l.length≤2000) {ws:List Int} {k:Nat} {d j c2:Nat} {p u t v W kk p1 u1:Int} {j1:Nat} {K:Pn} (H:PlH l ws k d j c2 p u t v W kk p1 u1 j1 K) (hq:kk=3):RtC l ws k d j c2 p u p1 j1:=by
 obtain⟨hd,h1,hp1,hu0,hu1,hW0,hW6,hKB,ht,hv,v0,hkid,hW,hkk⟩:=H;have we:IntKind.i64.wrap (d:Int)=d:=wrO;have hK:=hKB.1;have wn:¬ ((d:Int)+1=0):=by omega
 simp only[PSt]at hkid;rw[Pn.aA K]at hkid hW;obtain⟨m,hm,hm1,-⟩:=bC l (p1+1) 2 (by omega) (by omega) hl;obtain⟨m0,m1⟩:=hm1 (by omega);have w2:IntKind.i64.wrap (2:Int)=2:=wrO;have w1:=bN;have w0:IntKind.i64.wrap (0:Int)=0:=wrO;obtain⟨x1,hx1,hy1,-⟩:=bC l (p1+1+1) 2 (by omega) (by omega) hl;obtain⟨x1a,x1b⟩:=hy1 (by omega)
 obtain⟨y1,rfl⟩:∃ y:Nat,x1=y:=⟨x1.toNat,by omega⟩
 have hc1:jR y1≤9:=by rcases(show y1=0∨y1=1 by omega)with h|h<;>simp[h,jR]
 obtain⟨e1,q1,he1,c1a,c1b,c1c⟩:=rE l hl W y1 (by omega) (by omega) ((p1+1+1)+1) (by omega) (by omega);rw[Ex.aA e1]at he1;have t1:=Ex.bF e1 (by omega)
 rcases(show m=0∨m=1 by omega)with rfl|rfl
 ·refine⟨.mk 3 0 [e1] [] [K],q1,u1,j1,?_,Th.one (by simp[Pn.thin,Pn.fT,hK,t1]) hKB,by omega,by omega,by omega,by omega,by omega,by simp[bP,Pn.scan],by simp[bP,Pn.scan]⟩;rw[dP Tryz.func182 rfl rfl];simp[PSt,ht,hv,v0,we,hkid,hW,hkk,wn,hq,hm,w1];rw[aF];simp[hx1,he1,w0];rw[aF];simp[rX,rS,bl,Pn.aW,Ex.aB,aG,Pn.aB,Pn.aA K,Ex.aA e1,PSt]
 ·obtain⟨x2,hx2,hy2,-⟩:=bC l q1 2 (by omega) (by omega) hl;obtain⟨x2a,x2b⟩:=hy2 (by omega)
  obtain⟨y2,rfl⟩:∃ y:Nat,x2=y:=⟨x2.toNat,by omega⟩
  have hc2:jR y2≤9:=by rcases(show y2=0∨y2=1 by omega)with h|h<;>simp[h,jR]
  obtain⟨e2,q2,he2,c2a,c2b,c2c⟩:=rE l hl W y2 (by omega) (by omega) (q1+1) (by omega) (by omega);rw[Ex.aA e2]at he2;have t2:=Ex.bF e2 (by omega);refine⟨.mk 3 0 [e1,e2] [] [K],q2,u1,j1,?_,Th.one (by simp[Pn.thin,Pn.fT,hK,t1,t2]) hKB,by omega,by omega,by omega,by omega,by omega,by simp[bP,Pn.scan],by simp[bP,Pn.scan]⟩;rw[dP Tryz.func182 rfl rfl];simp[PSt,ht,hv,v0,we,hkid,hW,hkk,wn,hq,hm,w2];rw[aF];simp[hx1,he1,w1];rw[aF];simp[hx2,he2,w0];rw[aF];simp[rX,rS,bl,Pn.aW,Ex.aB,aG,Pn.aB,Pn.aA K,Ex.aA e1,Ex.aA e2,PSt]
theorem AAI {l:List UInt8} (hl:l.length≤2000) {ws:List Int} {k:Nat} {d j c2:Nat} {p u t v W kk p1 u1:Int} {j1:Nat} {K:Pn} (H:PlH l ws k d j c2 p u t v W kk p1 u1 j1 K) (hq:kk=4):RtC l ws k d j c2 p u p1 j1:=by
 obtain⟨hd,h1,hp1,hu0,hu1,hW0,hW6,hKB,ht,hv,v0,hkid,hW,hkk⟩:=H;have we:IntKind.i64.wrap (d:Int)=d:=wrO;have hK:=hKB.1;have wn:¬ ((d:Int)+1=0):=by omega
 simp only[PSt]at hkid;rw[Pn.aA K]at hkid hW;obtain⟨m,hm,hm1,-⟩:=bC l (p1+1) 2 (by omega) (by omega) hl;obtain⟨m0,m1⟩:=hm1 (by omega);have w2:IntKind.i64.wrap (2:Int)=2:=wrO;have w1:=bN;have w0:IntKind.i64.wrap (0:Int)=0:=wrO;obtain⟨x1,hx1,hy1,-⟩:=bC l (p1+1+1) 2 (by omega) (by omega) hl;obtain⟨x1a,x1b⟩:=hy1 (by omega)
 obtain⟨y1,rfl⟩:∃ y:Nat,x1=y:=⟨x1.toNat,by omega⟩
 have hc1:jR y1≤9:=by rcases(show y1=0∨y1=1 by omega)with h|h<;>simp[h,jR]
 obtain⟨e1,q1,he1,c1a,c1b,c1c⟩:=rE l hl W y1 (by omega) (by omega) ((p1+1+1)+1) (by omega) (by omega);rw[Ex.aA e1]at he1;have t1:=Ex.bF e1 (by omega)
 rcases(show m=0∨m=1 by omega)with rfl|rfl
 ·refine⟨.mk 3 0 [e1] [] [K],q1,u1,j1,?_,Th.one (by simp[Pn.thin,Pn.fT,hK,t1]) hKB,by omega,by omega,by omega,by omega,by omega,by simp[bP,Pn.scan],by simp[bP,Pn.scan]⟩;rw[dP Tryz.func182 rfl rfl];simp[PSt,ht,hv,v0,we,hkid,hW,hkk,wn,hq,hm,w1];rw[aF];simp[hx1,he1,w0];rw[aF];simp[rX,rS,bl,Pn.aW,Ex.aB,aG,Pn.aB,Pn.aA K,Ex.aA e1,PSt]
 ·obtain⟨x2,hx2,hy2,-⟩:=bC l q1 2 (by omega) (by omega) hl;obtain⟨x2a,x2b⟩:=hy2 (by omega)
  obtain⟨y2,rfl⟩:∃ y:Nat,x2=y:=⟨x2.toNat,by omega⟩
  have hc2:jR y2≤9:=by rcases(show y2=0∨y2=1 by omega)with h|h<;>simp[h,jR]
  obtain⟨e2,q2,he2,c2a,c2b,c2c⟩:=rE l hl W y2 (by omega) (by omega) (q1+1) (by omega) (by omega);rw[Ex.aA e2]at he2;have t2:=Ex.bF e2 (by omega);refine⟨.mk 3 0 [e1,e2] [] [K],q2,u1,j1,?_,Th.one (by simp[Pn.thin,Pn.fT,hK,t1,t2]) hKB,by omega,by omega,by omega,by omega,by omega,by simp[bP,Pn.scan],by simp[bP,Pn.scan]⟩;rw[dP Tryz.func182 rfl rfl];simp[PSt,ht,hv,v0,we,hkid,hW,hkk,wn,hq,hm,w2];rw[aF];simp[hx1,he1,w1];rw[aF];simp[hx2,he2,w0];rw[aF];simp[rX,rS,bl,Pn.aW,Ex.aB,aG,Pn.aB,Pn.aA K,Ex.aA e1,Ex.aA e2,PSt]
theorem ADS {l:List UInt8} (hl:l.length≤2000) {ws:List Int} (hw:∀ w∈ws,0≤w∧w≤6) (hwl:ws.length<1000000) {k:Nat} (hk0:0<k) (hkl:k≤ws.length) {d j c c2:Nat} (hd:d<100) (hjb:j<1000) (ih:nE l ws k d j c) (hoth:∀ i:Nat,i<j→∀ y:Nat,y≤1→nE l ws k y i c2):UL l ws k (d+1) j (c+c2+500):=by
 intro p u h0 h1 hu0 hu1;obtain⟨t,ht,-,-⟩:=bC l p k h0 (by omega) hl;obtain⟨v,hv,-,-⟩:=bC l (p+1) 6 (by omega) (by omega) hl;by_cases v0:v=0
 ·subst v0;exact⟨.scan t,p+1+1,u,j,ADT hd ht hv,Th.scan (Pn.FO t) _ _,by omega,by omega,by omega,by omega,by omega,by simp[Pn.scan],by simp[Pn.scan]⟩
 obtain⟨K,p1,u1,j1,hkid,hK,a1,a2,a3,a4,a5⟩:=ih (p+1+1) u (by omega) (by omega) hu0 hu1;have hW:=gL hw hwl hk0 hkl K hK.1;have hWr:=Pn.iD (ws:=ws.take k) (fun w hm=>hw w (zL hm)) K 8;generalize K.wd (ws.take k) 8=W at hW hWr;obtain⟨kk,hkk,hkk1,-⟩:=bC l p1 10 (by omega) (by omega) hl;obtain⟨kk0,kk9⟩:=hkk1 (by omega)
 suffices H:∃ (P:Pn) (p' u':Int) (j':Nat),rO CQ true 182 [.own 0 0, .int ((d+1:Nat):Int)] (PSt l ws k j u p)=some (rX 3 P,PSt l ws k j' u' p'++rS P)∧Th P j j' u u'∧p1≤p'∧p'≤p1+400+c2∧j'≤j1∧0≤u'∧u'≤1∧P.exprs.length≤2∧P.cols.length≤1 by
  obtain⟨P,p',u',j',b1,b2,b3,b4,b5,b6,b7,b8⟩:=H;exact⟨P,p',u',j',b1,b2,by omega,by omega,by omega,b6,b7,b8⟩
 have hb:p1+400+c2<300000000:=by omega
 have hp1:0≤p1:=by omega
 have H:PlH _ _ _ _ _ _ _ _ _ _ _ _ _ _ _ _:=⟨hd,hb,hp1,a4,a5,hWr.1,hWr.2,hK,ht,hv,v0,hkid,hW,hkk⟩
 by_cases q0:kk=0
 ·exact QZ hl H q0
 by_cases q1:kk=1
 ·exact QY hl H q1
 by_cases q2:kk=2
 ·exact QW hl H q2
 by_cases q3:kk=3
 ·exact AAJ hl H q3
 by_cases q4:kk=4
 ·exact AAI hl H q4
 by_cases q5:kk=5
 ·by_cases hj:j1=0
  ·exact QV hl H hj q5
  by_cases hw4:W≤4
  ·exact AAL hl hw hwl hk0 hkl H hj (by omega) hw4 (fun y hy=>hoth (j1-1) (by omega) y hy) q5
  ·exact AAG hl H hj hw4 q5
 by_cases q6:kk=6
 ·by_cases hj:j1=0
  ·exact QU hl H hj q6
  by_cases hw4:W≤4
  ·exact AAK hl hw hwl hk0 hkl H hj (by omega) hw4 (fun y hy=>hoth (j1-1) (by omega) y hy) q6
  ·exact AAF hl H hj hw4 q6
 by_cases q7:kk=7
 ·by_cases hu:0<u1
  ·exact AAH hl H hu q7
  ·exact QT hl H hu q7
 by_cases q8:kk=8
 ·exact NE hl H q8
 have q9:kk=9:=by omega
 by_cases hw1:1<W
 ·exact VB hl H hw1 q9
 ·exact VC hl H hw1 q9
theorem UL.le {l:List UInt8} {ws:List Int} {k:Nat} {d j c c':Nat} (h:UL l ws k d j c) (hc:c≤c'):UL l ws k d j c':=by
 intro p u h0 h1 hu0 hu1;obtain⟨P,p',u',j',b1,b2,b3,b4,b5,b6,b7,b8⟩:=h p u h0 (by omega) hu0 hu1;exact⟨P,p',u',j',b1,b2,b3,by omega,b5,b6,b7,b8⟩
theorem AIK {l:List UInt8} (hl:l.length≤2000) {ws:List Int} (hw:∀ w∈ws,0≤w∧w≤6) (hwl:ws.length<1000000) {k:Nat} (hk0:0<k) (hkl:k≤ws.length) (d:Nat) (h:d+1<50):UL l ws k (d+1) 1 (2000*(d+1)+1) :=
 (ADS hl hw hwl hk0 hkl (c2:=501) (by omega) (by omega) (XY hl hw hwl hk0 hkl d (by omega)) (fun i hi y hy=>by
  obtain rfl:i=0:=by omega
  exact(G9 hl hw hwl hk0 hkl y (by omega)).le (by omega))).le (by omega)
@[simp] theorem AWL (a:List AV) (st:StL):aH CR 182 a st=rO CQ true 182 a st:=by rw[aP (p:=rO CQ true 182) rfl]
@[simp] theorem AOR (a:List AV) (st:StL):aH CR 167 a st=rO C0 true 167 a st:=by rw[aP (p:=rO C0 true 167) rfl]
@[simp] theorem ALM (a:List AV) (st:StL):aH CR 104 a st=AB3 (aH C0) 104 a st:=by rw[aP (p:=AB3 (aH C0) 104) rfl]
@[simp] theorem AWM (a:List AV) (st:StL):aH CR 127 a st=aH C0 127 a st:=by rw[aP (p:=aH C0 127) rfl]
@[simp] theorem AXN (a:List AV) (st:StL):aH CR 128 a st=aH C0 128 a st:=by rw[aP (p:=aH C0 128) rfl]
@[simp] theorem AWN (a:List AV) (st:StL):aH CR 183 a st=aH C0 183 a st:=by rw[aP (p:=aH C0 183) rfl]
@[simp] theorem AQC (a:List AV) (st:StL):aH CR 160 a st=aH C0 160 a st:=by rw[aP (p:=aH C0 160) rfl]
@[simp] theorem ASX (a:List AV) (st:StL):aH CR 125 a st=aH C0 125 a st:=by rw[aP (p:=aH C0 125) rfl]
theorem cK {α:Type} (l:List α):l=[]∨(l.length≠0∧l≠[]∧0<l.length):=by cases l<;>simp
theorem G5 {l:List UInt8} (hl:l.length≤2000) {ws:List Int} (hw:∀ w∈ws,0≤w∧w≤6) (hwl:ws.length<1000000) (hk0:0<ws.length) (p:Int) (h0:0≤p) (h1:p+20000<200000000):∃ (P:Pn) (p':Int),
 aH CR 159 [.own 0 0, .osl 1 1 0 ws.length] [Rd l p,some (.arr 1 (aG ws))]=some (rX 2 P,[Rd l p',some (.arr 1 (aG ws))]++rS P)∧Rt P∧p≤p'∧p'≤p+20000∧P.exprs.length≤2∧P.cols.length≤1:=by
 obtain⟨v,hv,hv1,-⟩:=bC l p 4 h0 (by omega) hl;obtain⟨v0,v1⟩:=hv1 (by omega)
 obtain⟨y,rfl⟩:∃ y:Nat,v=y:=⟨v.toNat,by omega⟩
 have w1:IntKind.i64.wrap (1+(y:Int))=((y+1:Nat):Int):=by rw[wrO];omega
 obtain⟨P,p1,u',j',hP,hPt,b1,b2,b3,b4,b5,b6,b7⟩:=AIK hl hw hwl hk0 (zM _) y (by omega) (p+1) 1 (by omega) (by omega) (by omega) (by omega);simp only[PSt,Int.natCast_one,yO]at hP;obtain⟨z,hz,-,-⟩:=bC l p1 2 (by omega) (by omega) hl;have te:P.exprs.take P.exprs.length=P.exprs:=zY (by simp);have tc:P.cols.take P.cols.length=P.cols:=zY (by simp);have tk:P.kids.take P.kids.length=P.kids:=zY (by simp);by_cases hz0:z=0
 ·have hW:=lQ hw (by omega) P (Pn.EF P hPt.1) 8 (by omega);have twd:ws.take ws.length=ws:=zY (by simp);obtain⟨e,p2,he,a1,a2,a3⟩:=aN l hl (P.wd ws 8) (p1+1) (by omega) (by omega);have hf:=dM e P;refine⟨bP e P,p2,?_,Rt.one (AFT a3 hPt.1) (hPt.rt b4),by omega,by omega,by simp[bP],by simp[bP]⟩;rw[aD rfl Tryz.func159 rfl rfl];rw[Pn.aA P,Ex.aA e]at hf;rw[Ex.aA e]at he;rw[Pn.aA P]at hW
  rcases cK P.exprs with ce|⟨ce,ce',ce''⟩<;>rcases cK P.cols with cc|⟨cc,cc',cc''⟩<;>rcases cK P.kids with ck|⟨ck,ck',ck''⟩ <;>
   (simp[rX,rS,bl, *,aM,aJ,Ex.aB,aG,Pn.aB]at hP hW hf
    simp[hv,w1,hP,hz,hz0,hW,he,hf,rX,rS,bl,bP,AB3,KC,ACV,F8,ACW,ZM,rP, *,Ex.aB,aG,Pn.aB,Pn.aA P,Ex.aA e])
 ·refine⟨P,p1+1,?_,hPt.rt b4,by omega,by omega,b6,b7⟩;rw[aD rfl Tryz.func159 rfl rfl]
  rcases cK P.exprs with ce|⟨ce,ce',ce''⟩<;>rcases cK P.cols with cc|⟨cc,cc',cc''⟩<;>rcases cK P.kids with ck|⟨ck,ck',ck''⟩ <;>
   (simp[rX,rS,bl, *,aM,aJ,Ex.aB,aG,Pn.aB]at hP
    simp[hv,w1,hP,hz,hz0,rX,rS,bl, *,aM,aJ])
theorem EA (l:List UInt8) (hl:l.length≤2000) (p:Int) (h0:0≤p) (h1:p<900000000):∃ (a b:Int) (r:List Int) (p':Int),aH C0 125 [.own 0 0] [Rd l p]=some (.osl 1 1 0 (r.length+2),[Rd l p',some (.arr 1 (aG (a::b::r)))])∧p≤p'∧p'≤p+4∧1≤a∧a≤2∧1≤b∧b≤2∧r.length≤1∧∀ w∈r,1≤w∧w≤2:=by
 obtain⟨n,hn,hn1,-⟩:=bC l p 2 h0 (by omega) hl;obtain⟨a,ha,ha1,-⟩:=bC l (p+1) 2 (by omega) (by omega) hl;obtain⟨b,hb,hb1,-⟩:=bC l (p+1+1) 2 (by omega) (by omega) hl;have wa:IntKind.i64.wrap (1+a)=1+a:=wrO;have wb:IntKind.i64.wrap (1+b)=1+b:=wrO;have w2:IntKind.i64.wrap (2:Int)=2:=wrO;have w3:IntKind.i64.wrap (3:Int)=3:=wrO;have w1:=bN;have w0:IntKind.i64.wrap (0:Int)=0:=wrO;obtain⟨n0,n1⟩:=hn1 (by omega);have hn2:n=0∨n=1:=by omega
 rcases hn2 with rfl|rfl
 ·refine⟨1+a,1+b,[],p+1+1+1,?_,by omega,by omega,by omega,by omega,by omega,by omega,by simp,by simp⟩;rw[aD rfl Tryz.func125 rfl rfl];simp[hn,w2];rw[aF];simp[ha,wa,w1];rw[aF];simp[hb,wb,w0];rw[aF];simp[aG]
 ·obtain⟨c,hc,hc1,-⟩:=bC l (p+1+1+1) 2 (by omega) (by omega) hl;have wc:IntKind.i64.wrap (1+c)=1+c:=wrO;refine⟨1+a,1+b,[1+c],p+1+1+1+1,?_,by omega,by omega,by omega,by omega,by omega,by omega,by simp,by simp;omega⟩;rw[aD rfl Tryz.func125 rfl rfl];simp[hn,w3];rw[aF];simp[ha,wa,w2];rw[aF];simp[hb,wb,w1];rw[aF];simp[hc,wc,w0];rw[aF];simp[aG]
theorem Pn.Q7 {P:Pn} (h:P.thin) (k t:Int):(Pn.mk k t P.exprs P.cols P.kids).thin:=by
 rw[Pn.bL]at h ⊢;exact h
theorem Pn.AD6 {P:Pn} (h:P.thin) (c:List Int) (hc:c.length<1000000000):(Pn.mk P.kind P.table P.exprs c P.kids).thin:=by
 rw[Pn.bL]at h ⊢;exact⟨h.1,h.2.1,hc,h.2.2.2⟩
theorem Pn.ZU {P:Pn} (h:P.thin) {e:Ex} (he:e.thin) (hl:P.exprs.length+1<1000000000):(Pn.mk P.kind P.table (P.exprs++[e]) P.cols P.kids).thin:=by
 rw[Pn.bL]at h ⊢;refine⟨by simpa [Pn.exprs]using hl,fun x hx=>?_,h.2.2⟩;simp only[Pn.exprs,zT,zB6]at hx
 rcases hx with hx|rfl
 ·exact h.2.1 x hx
 ·exact he
theorem UC {l:List UInt8} (hl:l.length≤2000) {ws:List Int} (hw:∀ w∈ws,0≤w∧w≤6) (hwl:ws.length<1000000) (hk0:0<ws.length) (p:Int) (h0:0≤p) (h1:p+30000<200000000):∃ (P:Pn) (p':Int),
 aH CR 126 [.own 0 0, .osl 1 1 0 ws.length] [Rd l p,some (.arr 1 (aG ws))]=some (rX 2 P,[Rd l p',some (.arr 1 (aG ws))]++rS P)∧(P.thin∧BdV P)∧p≤p'∧p'≤p+30000:=by
 obtain⟨P,p1,hP,hPt,b1,b2,b6,b7⟩:=G5 hl hw hwl hk0 p h0 (by omega);obtain⟨k,hk,-,-⟩:=bC l p1 18 (by omega) (by omega) hl;have te:P.exprs.take P.exprs.length=P.exprs:=zY (by simp);have tc:P.cols.take P.cols.length=P.cols:=zY (by simp);have hthin:=(Pn.bL P).1 hPt.1;by_cases k0:k=0
 ·obtain⟨x,hx,-⟩:=nV l (p1+1) (by omega) (by omega) hl [[.int 0],[.int 9],[.int 1],[.int 4]] (by simp) (by simp) (by simp);simp only[zQ,yQ,zI,Nat.reduceAdd]at hx;refine⟨.mk x P.table P.exprs P.cols P.kids,p1+1+1,?_,⟨Pn.Q7 hPt.1 _ _,hPt.head⟩,by omega,by omega⟩;rw[aD rfl Tryz.func126 rfl rfl]
  rcases cK P.exprs with ce|⟨ce,ce',ce''⟩<;>rcases cK P.cols with cc|⟨cc,cc',cc''⟩<;>rcases cK P.kids with ck|⟨ck,ck',ck''⟩ <;>
   (simp[rX,rS,bl,ce,cc,ck,aM,aJ]at hP
    simp[hP,hk,k0,hx,rX,rS,bl,ce,cc,ck,aM,aJ])
 by_cases k1:k=1
 ·obtain⟨x,hx,-⟩:=nV l (p1+1) (by omega) (by omega) hl [[.int (-1)],[.int 4],[.int 1]] (by simp) (by simp) (by simp);simp only[zQ,yQ,zI,Nat.reduceAdd]at hx;refine⟨.mk P.kind x P.exprs P.cols P.kids,p1+1+1,?_,⟨Pn.Q7 hPt.1 _ _,hPt.head⟩,by omega,by omega⟩;rw[aD rfl Tryz.func126 rfl rfl]
  rcases cK P.exprs with ce|⟨ce,ce',ce''⟩<;>rcases cK P.cols with cc|⟨cc,cc',cc''⟩<;>rcases cK P.kids with ck|⟨ck,ck',ck''⟩ <;>
   (simp[rX,rS,bl,ce,cc,ck,aM,aJ]at hP
    simp[hP,hk,k0,k1,hx,rX,rS,bl,ce,cc,ck,aM,aJ])
 by_cases k2:k=2
 ·obtain⟨x,hx,-⟩:=nV l (p1+1) (by omega) (by omega) hl [[.int 0],[.int 9]] (by simp) (by simp) (by simp);simp only[zQ,yQ,zI,Nat.reduceAdd]at hx;refine⟨.mk P.kind P.table P.exprs (P.cols++[x]) P.kids,p1+1+1,?_,⟨Pn.AD6 hPt.1 _ (by simp;omega),hPt.head⟩,by omega,by omega⟩;have hl1:(P.cols.length+1)*8≤140737488355328:=by omega
  rw[aD rfl Tryz.func126 rfl rfl]
  rcases cK P.exprs with ce|⟨ce,ce',ce''⟩<;>rcases cK P.cols with cc|⟨cc,cc',cc''⟩<;>rcases cK P.kids with ck|⟨ck,ck',ck''⟩ <;>
   (simp[rX,rS,bl,ce,cc,ck,aM,aJ]at hP
    simp[hP,hk,k0,k1,k2,hx,rX,rS,bl,ce,cc,ck,aM,aJ,aG,bZ,hl1,tc])
 by_cases k3:k=3
 ·obtain⟨e,p2,he,a1,a2,a3⟩:=AC8 l hl 2 (p1+1) (by omega) (by omega);refine⟨.mk P.kind P.table (P.exprs++[e]) P.cols P.kids,p2,?_,⟨Pn.ZU hPt.1 (Ex.bF _ (by omega)) (by omega),AK3 hPt.2.1 hPt.2.2⟩,by omega,by omega⟩;have hl1:(P.exprs.length+1)*56≤140737488355328:=by omega
  rw[aD rfl Tryz.func126 rfl rfl];rw[Ex.aA e]at he
  rcases cK P.exprs with ce|⟨ce,ce',ce''⟩<;>rcases cK P.cols with cc|⟨cc,cc',cc''⟩<;>rcases cK P.kids with ck|⟨ck,ck',ck''⟩ <;>
   (simp[rX,rS,bl,ce,cc,ck,aM,aJ]at hP
    simp[hP,hk,k0,k1,k2,k3,he,rX,rS,bl,ce,cc,ck,aM,aJ,Ex.aB,Ex.iL,hl1,te,Ex.aA e])
 ·refine⟨P,p1+1,?_,⟨hPt.1,hPt.all⟩,by omega,by omega⟩;rw[aD rfl Tryz.func126 rfl rfl]
  rcases cK P.exprs with ce|⟨ce,ce',ce''⟩<;>rcases cK P.cols with cc|⟨cc,cc',cc''⟩<;>rcases cK P.kids with ck|⟨ck,ck',ck''⟩ <;>
   (simp[rX,rS,bl,ce,cc,ck,aM,aJ]at hP
    simp[hP,hk,k0,k1,k2,k3,rX,rS,bl,ce,cc,ck,aM,aJ])
end Go.Proofs.YtjdfjgmebalaaaaGreat.P
namespace Go.Av
def NK (l:List (List Int)):List (List IV):=l.map fun p=>[.isl (aG p)]
@[simp] theorem ANG (l:List (List Int)):(NK l).length=l.length:=by simp[NK]
theorem VI (a b:List (List Int)):NK (a++b)=NK a++NK b:=by simp[NK]
@[simp] theorem ARW (n:Nat) (l:List (List Int)):(NK l).take n=NK (l.take n):=by simp[NK,zC1]
theorem AIO (p:List Int):NK [p]=[[.isl (aG p)]]:=rfl
theorem AIP {l:List (List Int)} {i:Nat} {p:List Int} (h:l[i]?=some p):gF (NK l) i=some [.isl (aG p)]:=by
 rw[iU];simp[NK,h]
theorem uU (path:List Int):∀ (l m:List Pn) (i:Nat),eF path i (l++m)=eF path i l++eF path (i+l.length) m
 | [],m,i=>by simp[eF]
 | a::l,m,i=>by simp only[yG,eF,uU path l m (i+1),yZ,zQ];congr 3;omega
theorem RO (path:List Int) {l:List Pn} {i:Nat} {a:Pn} (h:l[i]?=some a):eF path 0 (l.take (i+1))=eF path 0 (l.take i)++nU (path++[(i:Int)]) a:=by
 have hl:(l.take i).length=i:=by have:=(zZ.1 h).1;simp;omega
 rw[aL h,uU,hl];simp[eF]
mutual
theorem L6:∀ (p:Pn) (path:List Int),(nU path p).length=p.size
 | .mk _ _ _ _ ks,path=>by simp only[nU,Pn.size,zQ,vI ks path 0];omega
theorem vI:∀ (l:List Pn) (path:List Int) (i:Nat),(eF path i l).length=Pn.bG l
 | [],_,_=>by simp[eF,Pn.bG]
 | a::l,path,i=>by simp only[eF,Pn.bG,zJ,L6 a,vI l]
end
end Go.Av
namespace Go.Proofs.YtjdfjgmebalaaaaGreat.P
open Go Go.Av
set_option maxRecDepth 4000
set_option maxHeartbeats 4000000
def ADX (p:Pn) (path:List Int) (L:List (List Int)) (i:Nat):AS :=
 { env:=[(0, .osl 2 1 0 (L++path::eF path 0 (p.kids.take i)).length),(1, .i (.agg [.int p.kind, .int p.table, .isl (Ex.aB p.exprs), .isl (aG p.cols), .isl (Pn.aB p.kids)])),(2, .osl 1 1 0 path.length),(4, .own 3 0),(6, .nils),(7, .int i),(18,jk i (.bool true))],
   st:=[none,some (.arr 1 (aG path)),some (.arr 1 (NK (L++path::eF path 0 (p.kids.take i)))),rM p] }
theorem X6:∀ (p:Pn) (path:List Int) (L:List (List Int)),p.thin→path.length+p.size<1000000→L.length+p.size<1000000→aH C0 100 [.osl 0 1 0 L.length, .i (.agg p.cells), .osl 1 1 0 path.length] [some (.arr 1 (NK L)),some (.arr 1 (aG path))]=some (.osl 2 1 0 (L++nU path p).length,[none,some (.arr 1 (aG path)),some (.arr 1 (NK (L++nU path p)))]):=by
 intro p
 induction p using Pn.ind with
 | h k t es cs ks ih =>
  intro path L ht hp hL;generalize hpe:Pn.mk k t es cs ks=p at *
  have hks:ks=p.kids:=by rw[← hpe];rfl
  subst hks;have hkt:=((Pn.bL p).1 ht).2.2.2.2;have hsz:=Pn.size_eq p;have hkl:=Pn.dC p.kids;have htp:path.take path.length=path:=zY (by simp);have htL:L.take L.length=L:=zY (by simp);have hl1:path.length*8≤140737488355328:=by omega
  have hl2:(L.length+1)*24≤140737488355328:=by omega
  have hl3:(L.length+1)*32≤140737488355328:=by omega
  rw[aD rfl Tryz.func100 rfl rfl,GD];simp only[Pn.aA p];simp[htp,htL,hl1,hl2,hl3];rw[aQ (ADX p path L) p.kids.length (by simp[ADX,rM,eF,VI,AIO])]
  ·rw[aF];simp[ADX,rM]
  ·intro i hi;have h3:=zX hi;have hm:=zV h3;have r2:=Pn.aO h3;have hsn:=RO path h3;have htk:=aL h3;generalize p.kids[i]=a at h3 hm r2 hsn htk
   have hle:Pn.bG (p.kids.take i)+a.size≤Pn.bG p.kids:=by
    have h:=Pn.rW (p.kids.take (i+1)) (p.kids.drop (i+1));rw[yI,htk,Pn.rW]at h;simp only[Pn.bG]at h;omega
   have hpn:=vI (p.kids.take i) path 0;have w2:IntKind.i64.wrap ((i:Int)+1)=i+1:=wrO;have hk:=ih a hm (path++[(i:Int)]) (L++path::eF path 0 (p.kids.take i)) (hkt a hm) (by simp;omega) (by simp;omega);rw[Pn.aA a]at r2 hk;have hpi:aG (path++[(i:Int)])=aG path++[[.int i]]:=kM path i;have ht1:List.take (path.length+1) (aG path++[[.int (i:Int)]])=aG path++[[.int i]]:=zY (by simp);have hl4:(path.length+1)*8≤140737488355328:=by omega
   rw[hpi]at hk;generalize nU (path++[(i:Int)]) a=S at hk hsn;simp only[yZ,yG]at hk;simp at hk;simp[ADX,rM,hi,r2,w2,hk,hsn,aG,htp,hl1,hl4,ht1]
def okA (ws:List Int) (p:Pn) (path:List Int) (r:Int):Bool:=(apS ws r path p).isSome
def K7 (ws:List Int) (p:Pn) (path:List Int) (i:Nat):List Stp:=((rules.take i).filter (okA ws p path)).map fun r=>(r,path)
theorem UK {ws path:List Int} {p:Pn} {i:Nat} (h:i<11):K7 ws p path (i+1)=K7 ws p path i++if okA ws p path ((i:Int)+1)=true then [((i:Int)+1,path)]else []:=by
 have h1:rules[i]?=some ((i:Int)+1):=by
  have:i=0∨i=1∨i=2∨i=3∨i=4∨i=5∨i=6∨i=7∨i=8∨i=9∨i=10:=by omega
  rcases this with rfl|rfl|rfl|rfl|rfl|rfl|rfl|rfl|rfl|rfl|rfl<;>rfl
 unfold K7;rw[aL h1,List.filter_append,zA3];congr 1;simp only[List.filter];split<;>rename_i h2<;>simp[h2]
theorem PD (ws path:List Int) (p:Pn) (i:Nat):(K7 ws p path i).length≤11:=by
 unfold K7;rw[List.length_map];refine xN (List.length_filter_le _ _) ?_;simp[rules];omega
theorem AGQ (ws path:List Int) (p:Pn):atS ws p path=K7 ws p path 11:=rfl
def SB (r:Int) (path:List Int):StL:=[some (.box [.int r, .osl 4 1 0 path.length]),some (.frz 1 (aG path))]
def SH (P:List (List Int)) (i:Nat):List Int:=(P[i-1]?).getD []
def qX (ws:List Int) (p:Pn) (P:List (List Int)) (i:Nat):List Stp:=(P.take i).flatMap (atS ws p)
theorem UI (ws:List Int) (p:Pn) (P:List (List Int)):qX ws p P 0=[]:=rfl
theorem AKB (ws:List Int) (p:Pn) (P:List (List Int)):qX ws p P P.length=P.flatMap (atS ws p):=by unfold qX;rw[zY (zM _)]
def SOX (p:Pn) (ws:List Int) (P:List (List Int)) (i:Nat):AS :=
 { env:=[(0, .i (.agg [.int p.kind, .int p.table, .isl (Ex.aB p.exprs), .isl (aG p.cols), .isl (Pn.aB p.kids)])),(1, .i (.isl (aG ws))),(2, .own 0 0),(4, .nils),(5, .osl 1 2 0 (qX ws p P i).length),(6, .osl 2 1 0 P.length),(7, .int i),(8,jk i (.int 12)),(9,if i=0 then .junk else .own 3 0),(11,jk i (.bool (okA ws p (SH P i) 11))),(20,jk i (.bool true)),(24,jk i (.bool false)),(42,jk i (.bool (okA ws p (SH P i) 11)))],
   st:=rM p::some (.arr 2 (o7 (qX ws p P i)))::some (.arr 1 (NK P))::(if i=0 then []else SB 11 (SH P i)) }
def SIX (p:Pn) (ws:List Int) (P:List (List Int)) (path:List Int) (i j:Nat):AS :=
 { env:=[(0, .i (.agg [.int p.kind, .int p.table, .isl (Ex.aB p.exprs), .isl (aG p.cols), .isl (Pn.aB p.kids)])),(1, .i (.isl (aG ws))),(2, .own 0 0),(4, .nils),(5, .osl 1 2 0 (qX ws p P i++K7 ws p path j).length),(6, .osl 2 1 0 P.length),(7, .int i),(8, .int ((j:Int)+1)),(9,if i+j=0 then .junk else .own 3 0),(11,if j=0 then jk i (.bool (okA ws p (SH P i) 11))else .bool (okA ws p path j)),(20, .bool true),(24,if j=0 then jk i (.bool false)else .bool true),(42,if j=0 then jk i (.bool (okA ws p (SH P i) 11))else .bool (okA ws p path j))],
   st:=rM p::some (.arr 2 (o7 (qX ws p P i++K7 ws p path j)))::some (.arr 1 (NK P))::(if j=0 then(if i=0 then []else SB 11 (SH P i))else SB j path) }
theorem QE {ws:List Int} (hw:jS ws=true) {p:Pn} (hp:p.wd ws 8≠0):aH C0 64 [.i (.agg p.cells), .i (.isl (aG ws))] []=some (.i (.isl (o7 (stS ws p))),[]):=by
 have ht:=dJ p 8 hp;have hsz:=(Pn.wJ p 8 hp).2;have c1:=X6 p [] [] ht (by simp;omega) (by simp;omega);have hpl:=L6 p []
 have hP:∀ path∈nU [] p,path.length≤8:=by
  intro path hm;obtain⟨r,hr,hs⟩:=(KZ p [] path).1 hm;rw[xW]at hr;subst hr
  cases ha:Pn.at path p with
  | none=>rw[ha]at hs;cases hs
  | some a=>exact(K6 path p 8 a hp ha).1
 unfold stS;generalize nU [] p=P at *
 have hlen:∀ l:List (List Int),(l.flatMap (atS ws p)).length≤11*l.length:=by
  intro l
  induction l with
  | nil=>simp
  | cons x l ih=>have:=PD ws x p 11;rw[← AGQ]at this;simp only[List.flatMap_cons,zJ,zQ];omega
 rw[aD rfl Tryz.func64 rfl rfl];simp only[Pn.aA p]at c1 ⊢;simp[NK,aG]at c1;simp[c1];rw[aQ (SOX p ws P) P.length (by simp[SOX,rM,o7,NK,UI])]
 ·rw[aF];have ht1:(qX ws p P P.length).take (qX ws p P P.length).length=qX ws p P P.length:=zY (zM _);rw[← AKB ws p P];by_cases h0:P.length=0
  ·simp[SOX,rM,h0,UI,o7]
  ·simp[SOX,rM,SB,h0,bH h0,ht1]
 ·intro i hi;have q1:=zX hi;have hm:=zV q1;generalize P[i]=path at q1 hm;have r1:=AIP q1;have htk:=aL q1;have hp8:=hP path hm;have hac:(qX ws p P i).length≤11*i:=by have:=hlen (P.take i);unfold qX;have:(P.take i).length≤i:=(by simp;omega);omega
  have w2:IntKind.i64.wrap ((i:Int)+1)=i+1:=wrO;have hlast:SH P (i+1)=path:=by simp[SH,q1]
  have hfl:qX ws p P (i+1)=qX ws p P i++K7 ws p path 11:=by unfold qX;rw[htk];simp[AGQ]
  by_cases h0:i=0
  ·subst h0;have hi0:0<P.length:=hi;simp at w2 hlast hfl;simp[SOX,rM,SB,hi0];rw[aQ (SIX p ws P path 0) 11 (by simp[SIX,rM,SB,K7])]
   ·rw[aF];simp[SIX,rM,SB,w2,hlast,hfl]
   ·intro j hj;have hs:=UK (ws:=ws) (path:=path) (p:=p) hj;have hlj:=PD ws path p j;have w3:IntKind.i64.wrap ((j:Int)+1+1)=j+1+1:=wrO;have hj11:(j:Int)+1≤11:=by omega
    have c2:=tV hw hp ((j:Int)+1) (path:=path) (by omega);have htp:path.take path.length=path:=zY (by simp);have hl1:path.length*8≤140737488355328:=by omega
    rw[Pn.aA p]at c2;have hok:okA ws p path ((j:Int)+1)=(apS ws ((j:Int)+1) path p).isSome:=rfl;rw[← hok]at c2
    cases hb:okA ws p path ((j:Int)+1)with
    | false =>
     rw[hb]at hs c2;simp at hs;by_cases j0:j=0
     ·subst j0;simp at c2 hb hs;simp[SIX,rM,SB,hi0,r1,hs,hj11,c2,hb,htp,hl1]
     ·simp[SIX,rM,SB,j0,hi0,r1,w3,hs,hj11,c2,hb,htp,hl1]
    | true =>
     rw[hb]at hs c2;simp at hs;have hl2:((qX ws p P 0).length+(K7 ws p path j).length+1)*32≤140737488355328:=by omega
     have ht3:(qX ws p P 0).take ((qX ws p P 0).length+(K7 ws p path j).length)=qX ws p P 0:=zY (by omega);have ht4:(K7 ws p path j).take (K7 ws p path j).length=K7 ws p path j:=zY (by omega);by_cases j0:j=0
     ·subst j0;simp at c2 hb hs hl2;simp[SIX,rM,SB,hi0,r1,hs,hj11,c2,hb,htp,hl1,hl2];exact⟨by omega,by rw[zY (by simp)];simp[o7,AMJ]⟩
     ·simp[SIX,rM,SB,j0,hi0,r1,w3,hs,hj11,c2,hb,htp,hl1,hl2];exact⟨by omega,by rw[zY (by simp)];simp[o7,AMJ]⟩
  ·simp[SOX,rM,SB,h0,bH h0,hi];rw[aQ (SIX p ws P path i) 11 (by simp[SIX,rM,SB,h0,bH h0,K7])]
   ·rw[aF];simp[SIX,rM,SB,h0,bH h0,w2,hlast,hfl]
   ·intro j hj;have hs:=UK (ws:=ws) (path:=path) (p:=p) hj;have hlj:=PD ws path p j;have w3:IntKind.i64.wrap ((j:Int)+1+1)=j+1+1:=wrO;have hj11:(j:Int)+1≤11:=by omega
    have c2:=tV hw hp ((j:Int)+1) (path:=path) (by omega);have htp:path.take path.length=path:=zY (by simp);have hl1:path.length*8≤140737488355328:=by omega
    rw[Pn.aA p]at c2;have hok:okA ws p path ((j:Int)+1)=(apS ws ((j:Int)+1) path p).isSome:=rfl;rw[← hok]at c2
    cases hb:okA ws p path ((j:Int)+1)with
    | false =>
     rw[hb]at hs c2;simp at hs;by_cases j0:j=0
     ·subst j0;simp at c2 hb hs;simp[SIX,rM,SB,h0,bH h0,hi,r1,hs,hj11,c2,hb,htp,hl1]
     ·simp[SIX,rM,SB,h0,bH h0,j0,hi,r1,w3,hs,hj11,c2,hb,htp,hl1]
    | true =>
     rw[hb]at hs c2;simp at hs;have hl2:((qX ws p P i).length+(K7 ws p path j).length+1)*32≤140737488355328:=by omega
     have ht3:(qX ws p P i).take ((qX ws p P i).length+(K7 ws p path j).length)=qX ws p P i:=zY (by omega);have ht4:(K7 ws p path j).take (K7 ws p path j).length=K7 ws p path j:=zY (by omega);by_cases j0:j=0
     ·subst j0;simp at c2 hb hs hl2;simp[SIX,rM,SB,h0,bH h0,hi,r1,hs,hj11,c2,hb,htp,hl1,hl2];exact⟨by omega,by rw[zY (by simp)];simp[o7,AMJ]⟩
     ·simp[SIX,rM,SB,h0,bH h0,j0,hi,r1,w3,hs,hj11,c2,hb,htp,hl1,hl2];exact⟨by omega,by rw[zY (by simp)];simp[o7,AMJ]⟩
end Go.Proofs.YtjdfjgmebalaaaaGreat.P
namespace Go.Av
theorem uB {ws:List Int} (h:jS ws=true):∀ w∈ws,0≤w∧w≤6:=by
 intro w hw;unfold jS at h;simp only[zU]at h;have:=zS.1 h.2 w hw;unfold bE at this;simp at this;omega
theorem ZY {p:Pn} {ws:List Int}:∀ s∈AD9 p ws,s.2.length≤8:=by
 intro s hs;unfold AD9 at hs;split at hs
 ·simp at hs
 ·rename_i h0;obtain⟨hw,hp,_⟩:=jH h0;rw[BC (uB hw) hp]at hs
  have:=(AM0 (ws:=ws) (rule:=s.1) (path:=s.2) (p:=p) (q:=((apS ws s.1 s.2 p).getD p)) (by
   have:=ADF.1 hs
   cases h:apS ws s.1 s.2 p with
   | none=>rw[h]at this;cases this
   | some q=>rfl)).2
  cases ha:Pn.at s.2 p with
  | none=>rw[ha]at this;cases this
  | some a=>exact(K6 s.2 p 8 a hp ha).1
end Go.Av
namespace Go.Proofs.YtjdfjgmebalaaaaGreat.P
open Go Go.Av
set_option maxRecDepth 4000
set_option maxHeartbeats 8000000
set_option maxHeartbeats 4000000
end Go.Proofs.YtjdfjgmebalaaaaGreat.P
namespace Go.Av
def AM7 (st:Store):AV→Option IV
 | .own id 0=>match st id with
  | some (.box cs)=>bnd (F8 st cs) fun l=>some (.iref l)
  | _=>none
 | v=>ACV st v
def PV (st:Store):List AV→Option (List AV)
 | []=>some []
 | c::r=>bnd (AM7 st c) fun v=>bnd (PV st r) fun l=>some (.i v::l)
theorem UT {w:World} {m:Mem} {φ:Pl} {st:Store} {c:AV} {x:Value} {iv:IV} (hi:Inv w m φ st) (hr:Rep m φ c x) (h:AM7 st c=some iv):IRep (iV w) iv x:=by
 unfold AM7 at h;split at h
 ·rename_i id;split at h
  ·rename_i cs hs;obtain⟨l,h1,h2⟩:=aI.1 h;injection h2 with h2;subst h2
   cases hr with
   | @own _ _ b n e =>
    obtain⟨hb,hok⟩:=dU hi e hs
    cases hok with
    | @box T _ vs hh hl hrc hm =>
     refine .iref (IAt.mk 0 (rQ hi hrc h1) fun j v hj=>?_);show w.cell? ⟨b,0+j,none⟩=some v;rw[bO hh,zI];exact hj
  ·cases h
 ·exact F6 hi hr h
theorem CJ {w:World} {m:Mem} {φ:Pl} {st:Store} (hi:Inv w m φ st):∀ {cs us:List AV} {xs:List Value},RepL m φ cs xs→PV st cs=some us→RepL (iV w) (fun _=>none) us xs
 | [],us,_, .nil,h=>by simp[PV]at h;subst h;exact .nil
 | c::cs,us,_, .cons a b,h=>by
  simp only[PV]at h;obtain⟨v,h1,h2⟩:=aI.1 h;obtain⟨l',h3,h4⟩:=aI.1 h2;injection h4 with h4;subst h4;exact .cons (.i (UT hi a h1)) (CJ hi b h3)
def kvK (stl:StL):AV→Option IV
 | .i (.lit v)=>some (.lit v)
 | .nils=>some (.isl [])
 | .osl id k off len=>match bJ stl id with
  | some (.frz k' es)=>tst (decide (k'=k∧off=0∧len≤es.length∧0<len)) (tst (es.all EC) (some (.isl (es.take len))))
  | _=>none
 | _=>none
def AS9 (stl:StL):List AV→Option (List IV)
 | []=>some []
 | c::r=>bnd (kvK stl c) fun v=>bnd (AS9 stl r) fun l=>some (v::l)
def kvA (stl:StL):AV→Option IV
 | .agg cs=>bnd (AS9 stl cs) fun l=>some (.agg l)
 | v=>kvK stl v
def ASA (stl:StL):List AV→Option (List AV)
 | []=>some []
 | c::r=>bnd (kvA stl c) fun v=>bnd (ASA stl r) fun l=>some (.i v::l)
def kvT (stl:StL):AV→Option AV
 | .tup cs=>bnd (ASA stl cs) fun l=>some (.tup l)
 | v=>bnd (kvA stl v) fun l=>some (.i l)
section
variable {w w':World} {m m':Mem} {φ':Pl} {stl:StL}
def UM (w:World) (m m':Mem):Mem:=fun b o=>if b<w.heap.size then m b o else m' b o
theorem Y2 {b:Nat} (h:w.heap.size≤b) (o:Nat):UM w m m' b o=m' b o:=by unfold UM;rw[if_neg (by omega)]
theorem NV {b:Nat} (h:b<w.heap.size) (o:Nat):UM w m m' b o=m b o:=by unfold UM;rw[if_pos h]
theorem AGP {b:Nat} (hb:∀ o,UM w m m' b o=m' b o):∀ {cs:List IV} {o:Nat},EC cs=true→IAt m' b o cs→IAt (UM w m m') b o cs
 | [],o,_,_=>.nil b o
 | c::cs,o,hl, .cons e a q r=>by
  simp only[EC,zU]at hl;refine .cons ((hb o).trans e) ?_ q (AGP hb hl.2 r)
  cases c with
  | lit v=>rw[mV a];exact .lit _
  | isl es=>simp[AHA]at hl
  | agg cs=>simp[AHA]at hl
  | iref cs=>simp[AHA]at hl
theorem M8 {b:Nat} (hb:∀ o,UM w m m' b o=m' b o) {k:Nat}:∀ {es:List (List IV)} {o:Nat},es.all EC=true→IElems m' b o k es→IElems (UM w m m') b o k es
 | [],o,_,_=>.nil b o k
 | e::es,o,hl, .cons a hk r=>by
  simp only[List.all_cons,zU]at hl;exact .cons (AGP hb hl.1 a) hk (M8 hb hl.2 r)
theorem SK (hi:Inv w' m' φ' (bJ stl)) (hadv:Adv w (iV w) (fun _=>none) w' m' φ') {c:AV} {x:Value} {iv:IV} (hr:Rep m' φ' c x) (h:kvK stl c=some iv):IRep (UM w m m') iv x:=by
 unfold kvK at h;split at h
 ·injection h with h;subst h;rw[hr.cB];exact .lit _
 ·injection h with h;subst h
  cases hr;exact .isl0 _ _ fun _=>rfl
 ·rename_i id k off len;split at h
  ·rename_i k' es hs;obtain⟨h1,h2⟩:=aR.1 h;obtain⟨h3,h4⟩:=aR.1 h2;simp only[zP]at h1;obtain⟨rfl,rfl,hle,hpos⟩:=h1;injection h4 with h4;subst h4
   cases hr with
   | @osl _ _ _ _ cap b n ao e hlc hkl hao hao2 =>
    obtain⟨hb,hok⟩:=dU hi e hs
    cases hok with
    | frz hk0 he =>
     have hnew:w.heap.size≤b:=by
      rcases hadv.pnew id b n b e hb.1 with h|h
      ·exact h
      ·exact absurd (fun _ _ _ e=>by cases e) h
     have hcap:cap≠0:=by omega
     have:=hao hcap;subst this;have he2:=M8 (m:=m) (fun o=>Y2 hnew o) h3 he;have hlen:(es.take len).length=len:=by simp;omega
     have hne:es.take len≠[]:=fun h=>by rw[h]at hlen;simp at hlen;omega
     have he3:=uF len he2;have:=IRep.isl (cap:=cap) hne he3 (by omega);rw[hlen]at this;simpa using this
  ·cases h
 ·cases h
theorem LC (hi:Inv w' m' φ' (bJ stl)) (hadv:Adv w (iV w) (fun _=>none) w' m' φ'):∀ {cs:List AV} {xs:List Value} {l:List IV},RepC m' φ' cs xs→AS9 stl cs=some l→ICells (UM w m m') l xs
 | [],_,l, .nil,h=>by simp[AS9]at h;subst h;exact .nil
 | c::cs,_,l, .cons a o b,h=>by
  simp only[AS9]at h;obtain⟨v,h1,h2⟩:=aI.1 h;obtain⟨l',h3,h4⟩:=aI.1 h2;injection h4 with h4;subst h4;exact .cons (SK hi hadv a h1) o (LC hi hadv b h3)
theorem SN (hi:Inv w' m' φ' (bJ stl)) (hadv:Adv w (iV w) (fun _=>none) w' m' φ') {c:AV} {x:Value} {iv:IV} (hr:Rep m' φ' c x) (h:kvA stl c=some iv):IRep (UM w m m') iv x:=by
 unfold kvA at h;split at h
 ·obtain⟨l,h1,h2⟩:=aI.1 h;injection h2 with h2;subst h2
  cases hr with|agg r=>exact .agg (LC hi hadv r h1)
 ·exact SK hi hadv hr h
theorem LD {φ:Pl} (hi:Inv w' m' φ' (bJ stl)) (hadv:Adv w (iV w) (fun _=>none) w' m' φ'):∀ {cs us:List AV} {xs:List Value},RepL m' φ' cs xs→ASA stl cs=some us→RepL (UM w m m') φ us xs
 | [],us,_, .nil,h=>by simp[ASA]at h;subst h;exact .nil
 | c::cs,us,_, .cons a b,h=>by
  simp only[ASA]at h;obtain⟨v,h1,h2⟩:=aI.1 h;obtain⟨l',h3,h4⟩:=aI.1 h2;injection h4 with h4;subst h4;exact .cons (.i (SN hi hadv a h1)) (LD hi hadv b h3)
theorem AF8 {φ:Pl} (hi:Inv w' m' φ' (bJ stl)) (hadv:Adv w (iV w) (fun _=>none) w' m' φ') {c r:AV} {x:Value} (hr:Rep m' φ' c x) (h:kvT stl c=some r):Rep (UM w m m') φ r x:=by
 unfold kvT at h;split at h
 ·obtain⟨l,h1,h2⟩:=aI.1 h;injection h2 with h2;subst h2
  cases hr with|tup r=>exact .tup (LD hi hadv r h1)
 ·obtain⟨l,h1,h2⟩:=aI.1 h;injection h2 with h2;subst h2;exact .i (SN hi hadv hr h1)
end
def ANP (f:List AV→StL→Option (AV×StL)) (args:List AV) (st:StL):Option (AV×StL) :=
 bnd (PV (bJ st) args) fun us=>match f us []with
  | some (r,stl)=>bnd (kvT stl r) fun v=>some (v,st)
  | none=>none
theorem GY {C:Ctx} {g:FuncId} {f:List AV→StL→Option (AV×StL)} (hf:∀ args stl r stl',f args stl=some (r,stl')→(∃ fn,C.P.funcs[g]?=some fn∧fn.name≠ "runtime.NumGoroutine"∧fn.body.isSome=true)∧∀ (w:World) (m:Mem) (φ:Pl) (vs:List Value),Inv w m φ (bJ stl)→RepL m φ args vs→(∀ id,φ id≠none→id<stl.length)→Calls C.P g vs.toArray w (cZ w m φ r stl'))
 {args:List AV} {stl stl':StL} {r:AV} (h:ANP f args stl=some (r,stl')) :
 (∃ fn,C.P.funcs[g]?=some fn∧fn.name≠ "runtime.NumGoroutine"∧fn.body.isSome=true)∧∀ (w:World) (m:Mem) (φ:Pl) (vs:List Value),Inv w m φ (bJ stl)→RepL m φ args vs→(∀ id,φ id≠none→id<stl.length) →
  Calls C.P g vs.toArray w (cZ w m φ r stl'):=by
 unfold ANP at h;obtain⟨us,h1,h2⟩:=aI.1 h;split at h2
 ·rename_i r0 stl0 h3;obtain⟨v0,h4,h5⟩:=aI.1 h2;injection h5 with h5;injection h5 with h5 h6;subst h5;subst h6;obtain⟨q1,q2⟩:=hf _ _ _ _ h3;refine⟨q1,fun w m φ vs hi hr h0=>?_⟩;refine(q2 w (iV w) (fun _=>none) vs (inv0 w) (CJ hi hr h1) (fun id h=>absurd rfl h)).mono ?_;rintro e w' ⟨v,m',φ',rfl,j1,j2,j3,j4⟩;have hlt:∀ b o u,m b o=some u→b<w.heap.size:=fun b o u e=>hi.mem.lt e
  have hsame:∀ f,f<w.heap.size→w'.heap[f]?=w.heap[f]?:=fun f hf=>j3.block f hf fun id b n e=>by cases e
  have hle:MLe m (UM w m m'):=fun b o u e=>by rw[NV (hlt b o u e)];exact e
  have hmem:nI w' (UM w m m'):=fun b o u e=>by
   by_cases hb:b<w.heap.size
   ·rw[NV hb]at e;rw[cell_of_heap (hsame b hb)];exact hi.mem b o u e
   ·rw[Y2 (by omega)]at e;exact j2.mem b o u e
  have ha:Adv w m (fun _=>none) w' (UM w m m') (fun _=>none):=⟨j3.size,j3.os,j3.tape,j3.output,fun b hb _=>hsame b hb,hle,fun b hb _ o=>NV hb o, .refl _,fun _ _ _ _ e=>by cases e⟩
  obtain⟨i2,a2⟩:=hi.ASN ha hmem;exact⟨v,_,φ,rfl,AF8 j2 j3 j1 h4,i2,a2,h0⟩
 ·cases h2
noncomputable def AP8 (C:Ctx) (g:FuncId) (args:List AV) (st:StL):Option (AV×StL) :=
 match C.P.funcs[g]? with
 | none=>none
 | some fn =>
  match fn.body with
  | none=>none
  | some c=>ABL { C with tree:=true } true fn.results.toList st.length (dI C (C.G g) st.length c (enter (C.G g) args st))
theorem JA {C:Ctx} (hS:SoundOk C) {g:FuncId} {args:List AV} {stl stl':StL} {r:AV} (h:AP8 C g args stl=some (r,stl')) :
 (∃ fn,C.P.funcs[g]?=some fn∧fn.name≠ "runtime.NumGoroutine"∧fn.body.isSome=true)∧∀ (w:World) (m:Mem) (φ:Pl) (vs:List Value),Inv w m φ (bJ stl)→RepL m φ args vs→(∀ id,φ id≠none→id<stl.length) →
  Calls C.P g vs.toArray w (cZ w m φ r stl'):=by
 unfold AP8 at h;split at h
 ·cases h
 rename_i fn hf;split at h
 ·cases h
 rename_i c hb;have hst:=(hS.fns g fn c hf hb).2;refine⟨⟨fn,hf,(hS.fns g fn c hf hb).1,by rw[hb];rfl⟩,fun w m φ vs hi hargs hid=>?_⟩;have ih:=bS hS
 have hrel:MP [] w m φ fn.ntmps stl.length (enter (C.G g) args stl) { tmps:=vs.toArray++Array.replicate (fn.ntmps-vs.toArray.size) undef,defers:=[] } w:=by
  refine⟨⟨⟨m,φ,hi,?_, .refl _ _ _,hid, .nil _ _ _⟩,by simp;omega,rfl⟩,zM _⟩;intro t;unfold enter;simp only;generalize C.G g=G
  induction G with
  | nil=>exact .junk _
  | cons u G ihG =>
   simp only[IY,aX];by_cases e:t=u
   ·subst e;simp only[if_true];exact nA _ hargs t
   ·simp only[e,if_false];exact ihG
 refine callsIn_wide.1 (callsIn_of_wp_marks (n:=0) hf hb trivial ?_)
 have done:∀ S e,dI C (C.G g) stl.length c (enter (C.G g) args stl)=some (e,S)→finish { C with tree:=true } true fn.results.toList stl.length S=some (r,stl')→(e=.normal∨e=.ret) →
  c.wpIn Fence.wide 0 C.P (bodyPostM Fence.wide 0 C.P fn (cZ w m φ r stl')) { tmps:=vs.toArray++Array.replicate (fn.ntmps-vs.toArray.size) undef,defers:=[] } w:=by
  intro S e hS' hfin he;obtain⟨n,hS'⟩:=(dG _).1 hS';refine wpIn_mono (cO (ρ:=none) hS.ctx ih (hS.draw _ ih) hid n c _ S e [] _ w hst (.inl rfl) hS' hrel) ?_;rintro e' a' w' ⟨rfl,ds,k,_⟩
  have hl:LeavesInM Fence.wide 0 C.P fn a'.tmps (cZ w m φ r stl') a'.defers .returning w':=by
   rw[k.1.defers];refine qG k fun a2 w2 _ k2=>?_
   obtain⟨v,k3,k4⟩:=gY (C:={ C with tree:=true }) hid k2 hfin;exact⟨v,k3,k4⟩
  rcases he with rfl|rfl
  ·exact hl
  ·exact hl
 unfold ABL at h;split at h
 ·rename_i S hS';exact done S .normal hS' h (.inl rfl)
 ·rename_i S hS';exact done S .ret hS' h (.inr rfl)
 ·cases h
 ·cases h
def AUD (r:Int):Bool:=decide (r≠2∧r≠5∧r≠6)
def NS0 (R:Rng) (cs:List AV):StL:=[some (.loop R cs .ready),some (.box [.int 0, .nils]),some (.box [.bool false])]
def NS1 (R:Rng) (cs:List AV) (s:Stp):StL:=some (.loop R cs (.over .ret))::some (.box [.int s.1,if s.2=[]then .nils else .osl 3 1 0 s.2.length])::some (.box [.bool true])::(if s.2=[]then []else [some (.frz 1 (aG s.2))])
end Go.Av
namespace Go.Proofs.YtjdfjgmebalaaaaGreat.P
open Go Go.Av
set_option maxRecDepth 4000
set_option maxHeartbeats 8000000
structure Yn (R:Rng) (cs:List AV):Prop where
 ids:cs=[.own 1 0, .own 2 0, .junk, .junk, .junk]
 n0:∀ r:Int,AUD r=false→aH C0 rH [.fn (.yield 0) [.own 0 0], .agg [.int r, .nils]] (NS0 R cs)=some (.bool true,NS0 R cs)
 n1:∀ (r:Int) (path:List Int),path≠[]→AUD r=false→aH C0 rH [.fn (.yield 0) [.own 0 0], .agg [.int r, .osl 3 1 0 path.length]] (NS0 R cs++[some (.arr 1 (aG path))])=some (.bool true,NS0 R cs++[some (.frz 1 (aG path))])
 y0:∀ r:Int,AUD r=true→aH C0 rH [.fn (.yield 0) [.own 0 0], .agg [.int r, .nils]] (NS0 R cs)=some (.bool false,NS1 R cs (r,[]))
 y1:∀ (r:Int) (path:List Int),path≠[]→AUD r=true→aH C0 rH [.fn (.yield 0) [.own 0 0], .agg [.int r, .osl 3 1 0 path.length]] (NS0 R cs++[some (.arr 1 (aG path))])=some (.bool false,NS1 R cs (r,path))
set_option maxHeartbeats 4000000
theorem X3 {args:List AV} {st:StL} {q:AV×StL} (h:DY args st=some q):∃ fn,Tryz.prog.funcs[26]?=some fn∧fn.name≠ "runtime.NumGoroutine"∧fn.body.isSome=true:=⟨Tryz.f26,Tryz.func26,by decide,rfl⟩
theorem U9 {args:List AV} {st st':StL} {r:AV} (h:DY args st=some (r,st')):∀ (w:World) (m:Mem) (φ:Pl) (vs:List Value),Inv w m φ (bJ st)→RepL m φ args vs→(∀ id,φ id≠none→id<st.length)→Calls Tryz.prog 26 vs.toArray w (cZ w m φ r st'):=by
 intro w m φ vs hi hr h0;obtain⟨p,ws,k,path,rfl,rfl,hq⟩:=X0 h
 cases ho:apO p ws k path with
 | none =>
  rw[ho]at hq;injection hq with h1 h2;subst h1;subst h2
  have hn:p.width ws=0∨apI ws k path p=none:=by
   unfold apO at ho;by_cases hw:p.width ws=0
   ·exact .inl hw
   ·rw[if_neg hw]at ho;exact .inr ho
  exact(bS iN).calls _ _ _ _ _ (by decide) (AC7 hn) w m φ vs hi hr h0
 | some q =>
  rw[ho]at hq;injection hq with h1 h2;subst h1;subst h2;unfold apO at ho;by_cases hw:p.width ws=0
  ·rw[if_pos hw]at ho;cases ho
  ·rw[if_neg hw]at ho
   obtain rfl:φ=fun _=>none:=by
    funext id
    cases h:φ id with
    | none=>rfl
    | some p=>exact absurd (h0 id (by rw[h];simp)) (xK _)
   exact AC6 hw ho hi hr
def AQ1:FuncId→Bool
 | 78=>true
 | g=>AH8 g
@[simp] theorem AVE (g:FuncId):AQ1 g=if g=78 then true else AH8 g:=by
  unfold AQ1;split
  ·rfl
  ·rename_i h;rw[if_neg h]
noncomputable def AAQ:FuncId→Option (List AV→StL→Option (AV×StL))
 | 40=>none
 | 16=>none
 | 42=>none
 | 39=>none
 | 12=>none
 | 41=>none
 | 26=>some DY
 | 78=>some (ANP (AP8 C0 78))
 | 89=>some (aH CR 89)
 | g=>AAP g
noncomputable def CA:Ctx:={ P:=Tryz.prog,G:=GS,ownArgs:=AQ1,keepRes:=ANV,eqT:=JZ,prim:=AAQ }
@[simp] theorem AnP:CA.P=Tryz.prog:=(rfl)
@[simp] theorem AnQ (f):CA.G f=GS f:=(rfl)
@[simp] theorem AnM (f):CA.ownArgs f=AQ1 f:=(rfl)
@[simp] theorem AnN (f):CA.keepRes f=(keepR f || decide (f=159)):=(rfl)
@[simp] theorem AnO (f):CA.eqT f=JZ f:=(rfl)
@[simp] theorem AnL:CA.tree=false:=(rfl)
theorem AL6:PrimOk CA:=by
 constructor
 ·intro g args st p h;unfold bX at h
  cases hq:CA.prim g with
  | none=>rw[hq]at h;cases h
  | some q =>
   rw[hq]at h;have hq:AAQ g=some q:=hq;unfold AAQ at hq;split at hq
   all_goals first
    | (cases hq;done)
    | (injection hq with hq;subst hq;exact X3 h)
    | (injection hq with hq;subst hq;exact(GY (C:=CA) (fun args stl r stl' h=>JA iN h) (r:=p.1) (stl':=p.2) h).1)
    | (injection hq with hq;subst hq;exact(bS AL0).name _ _ _ _ (by decide) h)
    | exact AEE.name g args st p (by unfold bX;rw[show CR.prim g=some q from hq];exact h)
 ·intro g args st r st' h w m φ vs hi hr hb;unfold bX at h
  cases hq:CA.prim g with
  | none=>rw[hq]at h;cases h
  | some q =>
   rw[hq]at h;have hq:AAQ g=some q:=hq;unfold AAQ at hq;split at hq
   all_goals first
    | (cases hq;done)
    | (injection hq with hq;subst hq;exact U9 h w m φ vs hi hr hb)
    | (injection hq with hq;subst hq;exact(GY (C:=CA) (fun args stl r stl' h=>JA iN h) h).2 w m φ vs hi hr hb)
    | (injection hq with hq;subst hq;exact(bS AL0).calls _ _ _ _ _ (by decide) h w m φ vs hi hr hb)
    | exact AEE.calls g args st r st' (by unfold bX;rw[show CR.prim g=some q from hq];exact h) w m φ vs hi hr hb
theorem P6 {p q:Pn} {ws:List Int} {r:Int} {path:List Int} (h:apO p ws r path=some q):q.thin∧p.width ws≠0∧q.width ws=p.width ws:=by
 unfold apO at h;by_cases h0:p.width ws=0
 ·rw[if_pos h0]at h;cases h
 ·rw[if_neg h0]at h;obtain⟨hw,hp8,hv⟩:=jH h0;rw[AK7 (uB hw) hp8]at h;have:=ATD (uB hw) hp8 h;exact⟨dJ q 8 (by rw[this];exact hp8),h0,by unfold Pn.width;rw[if_pos hw,if_pos hw];exact this⟩
end Go.Proofs.YtjdfjgmebalaaaaGreat.P
namespace Go.Av
def jkL (i:Nat) (l:StL):StL:=if i=0 then []else l
@[simp] theorem AeV (l:StL):jkL 0 l=[]:=(rfl)
@[simp] theorem AUF (i:Nat) (l:StL):jkL (i+1) l=l:=(rfl)
theorem kL {i:Nat} (h:i≠0) (l:StL):jkL i l=l:=by unfold jkL;rw[if_neg h]
def jA (i:Nat) (v:AV):AV:=if i=0 then .junk else v
@[simp] theorem AlC (v:AV):jA 0 v=.junk:=(rfl)
@[simp] theorem AVQ (i:Nat) (v:AV):jA (i+1) v=v:=(rfl)
theorem LP {i:Nat} (h:i≠0) (v:AV):jA i v=v:=by unfold jA;rw[if_neg h]
theorem XB {ws:List Int} {p:Pn} (h:p.wd ws 8≠0):p.tiny∧p.size<512:=by
 have:=Pn.wJ p 8 h;exact⟨this.1,by omega⟩
end Go.Av
namespace Go.Proofs.YtjdfjgmebalaaaaGreat.P
open Go Go.Av
set_option maxRecDepth 4000
set_option maxHeartbeats 1000000
theorem TT {p:Pn} {ws:List Int} (h:p.wd ws 8≠0):aH C0 59 [.i (.iref p.cells)] []=some (.i (.agg p.cells),[]):=by
 rw[aP (p:=TS) rfl];exact YU ⟨by have:=(XB h).2;omega,dJ p 8 h,(XB h).1⟩
end Go.Proofs.YtjdfjgmebalaaaaGreat.P
namespace Go.Av
structure Sts where
 rows:Int
 d:List Int
 n:List Int
def Sts.cells (s:Sts):List IV:=[.int s.rows, .isl (aG s.d), .isl (aG s.n)]
def oN (l:List Sts):List (List IV):=l.map Sts.cells
@[simp] theorem AMI (l:List Sts):(oN l).length=l.length:=by simp[oN]
theorem kH (a b:List Sts):oN (a++b)=oN a++oN b:=by simp[oN]
theorem nM:oN []=[]:=rfl
theorem jB (s:Sts) (l:List Sts):oN (s::l)=s.cells::oN l:=rfl
theorem iG {l:List Sts} {i:Nat} {s:Sts} (h:l[i]?=some s):gF (oN l) i=some [.int s.rows, .isl (aG s.d), .isl (aG s.n)]:=by
 rw[iU];simp[oN,h,Sts.cells]
def Sts.okC (s:Sts) (d n:Int):Bool:=decide (0≤n) && (decide (n≤s.rows) && (decide (0≤d) && decide (d≤s.rows-n)))
def Sts.okL (s:Sts):List Int→List Int→Bool
 | d::ds,n::ns=>s.okC d n && s.okL ds ns
 | [],[]=>true
 | _,_=>false
def Sts.ok (s:Sts):Bool:=bE s.d.length && (decide (0≤s.rows) && (decide (s.rows≤400) && s.okL s.d s.n))
theorem Sts.NT {s:Sts}:∀ {a b:List Int},s.okL a b=true→b.length=a.length
 | [],[],_=>rfl
 | _::a,_::b,h=>by simp only[Sts.okL,zU]at h;simp[Sts.NT h.2]
 | [],_::_,h=>by simp[Sts.okL]at h
 | _::_,[],h=>by simp[Sts.okL]at h
theorem Sts.AL7 {s:Sts}:∀ {a b:List Int} {i:Nat} {d n:Int},s.okL a b=true→a[i]?=some d→b[i]?=some n→s.okC d n=true
 | _::a,_::b,0,d,n,h,h1,h2=>by simp at h1 h2;subst h1;subst h2;simp only[Sts.okL,zU]at h;exact h.1
 | _::a,_::b,i+1,d,n,h,h1,h2=>by simp only[Sts.okL,zU]at h;exact Sts.AL7 h.2 (by simpa using h1) (by simpa using h2)
 | [],_,_,d,n,_,h1,_=>by simp at h1
 | _::_,[],_,d,n,_,_,h2=>by simp at h2
theorem Sts.NS (s:Sts):∀ (a b:List Int),b.length=a.length→∃ j:Nat,(∀ i,i<j→∃ d n,a[i]?=some d∧b[i]?=some n∧s.okC d n=true)∧((j=a.length∧s.okL a b=true)∨∃ d n,a[j]?=some d∧b[j]?=some n∧s.okC d n=false∧s.okL a b=false)
 | [],[],_=>⟨0,fun i h=>by omega, .inl ⟨rfl,rfl⟩⟩
 | d::a,n::b,h=>by
  cases hc:s.okC d n with
  | false=>exact⟨0,fun i h=>by omega, .inr ⟨d,n,rfl,rfl,hc,by simp[Sts.okL,hc]⟩⟩
  | true =>
   obtain⟨j,h1,h2⟩:=Sts.NS s a b (by simpa using h);refine⟨j+1,?_,?_⟩
   ·intro i hi
    cases i with
    | zero=>exact⟨d,n,rfl,rfl,hc⟩
    | succ i =>
     obtain⟨x,y,k1,k2,k3⟩:=h1 i (by omega);exact⟨x,y,by simpa using k1,by simpa using k2,k3⟩
   ·rcases h2 with ⟨k1,k2⟩|⟨x,y,k1,k2,k3,k4⟩
    ·exact .inl ⟨by simp[k1],by simp[Sts.okL,hc,k2]⟩
    ·exact .inr ⟨x,y,by simpa using k1,by simpa using k2,k3,by simp[Sts.okL,hc,k4]⟩
 | [],_::_,h=>by simp at h
 | _::_,[],h=>by simp at h
theorem Sts.VP {s:Sts} {d n:Int}:s.okC d n=true↔0≤n∧n≤s.rows∧0≤d∧d≤s.rows-n:=by simp[Sts.okC]
theorem Sts.uV {s:Sts}:s.ok=true↔(1≤(s.d.length:Int)∧(s.d.length:Int)≤6)∧0≤s.rows∧s.rows≤400∧s.okL s.d s.n=true:=by
 unfold Sts.ok bE;simp
theorem Sts.col {s:Sts} (h:s.ok=true) {c:Int} (h0:0≤c) (h1:c<s.d.length):∃ d n,s.d[c.toNat]?=some d∧s.n[c.toNat]?=some n∧0≤n∧n≤s.rows∧0≤d∧d≤s.rows-n:=by
 obtain⟨_,_,_,h2⟩:=Sts.uV.1 h;have hl:=Sts.NT h2;have e1:=zX (show c.toNat<s.d.length by omega);have e2:=zX (show c.toNat<s.n.length by omega);obtain⟨a,b,c',d'⟩:=Sts.VP.1 (Sts.AL7 h2 e1 e2);exact⟨_,_,e1,e2,a,b,c',d'⟩
def OO (v:Val):Int:=if v.tr=2 then 1000 else 0
def AON (s:Sts) (a b:Ex):Int:=if a.kind≠1∨b.kind≠2∨b.val.null=true then 100 else if s.rows=0∨(s.d[a.col.toNat]?).getD 0=0 then 0 else(1000*(s.rows-(s.n[a.col.toNat]?).getD 0)).tdiv (s.rows*(s.d[a.col.toNat]?).getD 0)
def AB1 (s:Sts) (a:Ex):Int:=if a.kind≠1∨s.rows=0 then 0 else(1000*(s.n[a.col.toNat]?).getD 0).tdiv s.rows
def ARG (s:Sts) (k:Int) (v:Val) (ks:List Ex) (xs:List Int):Int :=
 if k=2 then OO v else if k=10 then 1000-(xs[0]?).getD 0 else if k=8 then((xs[0]?).getD 0*(xs[1]?).getD 0).tdiv 1000 else if k=9 then(xs[0]?).getD 0+(xs[1]?).getD 0-((xs[0]?).getD 0*(xs[1]?).getD 0).tdiv 1000 else
 if k=6 then AON s ((ks[0]?).getD Ex.zero) ((ks[1]?).getD Ex.zero)else if k=7 then 333 else if k=11 then AB1 s ((ks[0]?).getD Ex.zero)else 500
mutual
def Ex.sel (s:Sts):Ex→Int
 | .mk k _ v ks=>ARG s k v ks (Ex.ATX s ks)
def Ex.ATX (s:Sts):List Ex→List Int
 | []=>[]
 | e::es=>e.sel s::Ex.ATX s es
end
theorem Ex.XM (s:Sts):∀ l,Ex.ATX s l=l.map (Ex.sel s)
 | []=>rfl
 | e::es=>by simp[Ex.ATX,Ex.XM s es]
theorem Ex.ADM (s:Sts) (e:Ex):e.sel s=ARG s e.kind e.val e.kids (e.kids.map (Ex.sel s)):=by
 cases e;simp[Ex.sel,Ex.XM,Ex.kind,Ex.val,Ex.kids]
def ASQ (k:Int) (v:Val) (xs:List Int):Int :=
 if k=2 then OO v else if k=8 then((xs[0]?).getD 0*(xs[1]?).getD 0).tdiv 1000 else if k=6 then 100 else 333
mutual
def Ex.fix:Ex→Int
 | .mk k _ v ks=>ASQ k v (Ex.AUK ks)
def Ex.AUK:List Ex→List Int
 | []=>[]
 | e::es=>e.fix::Ex.AUK es
end
theorem Ex.YG:∀ l,Ex.AUK l=l.map Ex.fix
 | []=>rfl
 | e::es=>by simp[Ex.AUK,Ex.YG es]
theorem Ex.AFR (e:Ex):e.fix=ASQ e.kind e.val (e.kids.map Ex.fix):=by
 cases e;simp[Ex.fix,Ex.YG,Ex.kind,Ex.val,Ex.kids]
theorem TY (v:Val):0≤OO v∧OO v≤1000:=by unfold OO;split<;>omega
theorem qL {a b c:Int} (h0:0≤a) (h1:0<b) (h2:a≤b*c):0≤a.tdiv b∧a.tdiv b≤c:=by
 rw[zB0 h0];refine⟨Int.ediv_nonneg h0 (by omega),?_⟩;have:=Int.ediv_le_ediv h1 h2
 rwa [Int.mul_ediv_cancel_left _ (by omega)]at this
theorem BH {a b A B:Int} (a0:0≤a) (a1:a≤A) (b0:0≤b) (b1:b≤B):0≤a*b∧a*b≤A*B :=
 ⟨Int.mul_nonneg a0 b0,Int.mul_le_mul a1 b1 b0 (by omega)⟩
theorem KW {a b:Int} (a0:0≤a) (a1:a≤1000) (b0:0≤b) (b1:b≤1000):0≤(a*b).tdiv 1000∧(a*b).tdiv 1000≤1000∧(a*b).tdiv 1000≤a∧(a*b).tdiv 1000≤b∧0≤a*b∧a*b≤1000000∧a+b-1000≤(a*b).tdiv 1000:=by
 have k0:=Int.mul_nonneg (show 0≤1000-a by omega) (show 0≤1000-b by omega);have k9:(1000-a)*(1000-b)=1000000-1000*a-1000*b+a*b:=by rw[Int.sub_mul,Int.mul_sub,Int.mul_sub,Int.mul_comm a 1000];omega
 have k8:a+b-1000≤(a*b).tdiv 1000:=by
  rw[zB0 (Int.mul_nonneg a0 b0)];omega
 obtain⟨m0,m1⟩:=BH a0 a1 b0 b1;have k1:a*b≤1000*a:=by rw[Int.mul_comm 1000 a];exact xO b1 a0
 have k2:a*b≤1000*b:=Int.mul_le_mul_of_nonneg_right a1 b0;have h1:=qL m0 (by omega) k1;have h2:=qL m0 (by omega) k2;exact⟨h1.1,by omega,h1.2,h2.2,m0,by omega,k8⟩
theorem AJJ {s:Sts} (h:s.ok=true) {a b:Ex} (ha:a.wf s.d.length=true):0≤AON s a b∧AON s a b≤1000:=by
 unfold AON;split
 ·omega
 ·rename_i h1
  obtain⟨r0,r1⟩:0≤s.rows∧s.rows≤400:=⟨(Sts.uV.1 h).2.1,(Sts.uV.1 h).2.2.1⟩
  have hk:a.kind=1:=by
   by_cases hk:a.kind=1
   ·exact hk
   ·exact absurd (.inl hk) h1
  obtain⟨c0,c1,_⟩:=Ex.lI ha hk;obtain⟨d,n,e1,e2,n0,n1,d0,d1⟩:=Sts.col h c0 c1;rw[e1,e2];simp only[yY];split
  ·omega
  ·rename_i h2;have hr:0<s.rows:=by omega
   have hd:1≤d:=by omega
   have hm:s.rows*1≤s.rows*d:=xO hd (by omega);exact qL (by omega) (by omega) (by omega)
theorem AER {s:Sts} (h:s.ok=true) {a:Ex} (ha:a.wf s.d.length=true):0≤AB1 s a∧AB1 s a≤1000:=by
 unfold AB1;split
 ·omega
 ·rename_i h1
  have hk:a.kind=1:=by
   by_cases hk:a.kind=1
   ·exact hk
   ·exact absurd (.inl hk) h1
  obtain⟨c0,c1,_⟩:=Ex.lI ha hk;obtain⟨d,n,e1,e2,n0,n1,d0,d1⟩:=Sts.col h c0 c1;rw[e2];simp only[yY];exact qL (by omega) (by omega) (by omega)
theorem ASC (n:Int):n=1∨n=2∨n=3∨n=4∨n=5∨n=6∨n=7∨n=8∨n=9∨n=10∨n=11∨(n≠1∧n≠2∧n≠3∧n≠4∧n≠5∧n≠6∧n≠7∧n≠8∧n≠9∧n≠10∧n≠11):=by omega
theorem uC {e:Ex} {w:Int} (h:e.wf w=true):(e.kind=1∧e.kids=[])∨(e.kind=2∧e.kids=[])∨((e.kind=10∨e.kind=11)∧∃ a,e.kids=[a])∨(e.kind≠1∧e.kind≠2∧e.kind≠10∧e.kind≠11∧∃ a b,e.kids=[a,b]):=by
 rw[Ex.MS]at h;simp at h;have hl:=h.1
 rcases ASC e.kind with k|k|k|k|k|k|k|k|k|k|k|⟨h1,h2,h3,h4,h5,h6,h7,h8,h9,h10,h11⟩
 case inr.inr.inr.inr.inr.inr.inr.inr.inr.inr.inr =>
  have:bU e.kind=-1:=by unfold bU;rw[if_neg (by omega),if_neg (by omega),if_neg (by omega)]
  omega
 all_goals (rw[k]at hl;simp[bU]at hl;simp[k])
 all_goals first
  | exact hl
  | (cases hk:e.kids with
     | nil=>rw[hk]at hl;simp at hl
     | cons a r=>cases r with
      | nil=>first|exact⟨a,rfl⟩|(rw[hk]at hl;simp at hl)
      | cons b r=>cases r with
       | nil=>first|exact⟨a,b,rfl⟩|(rw[hk]at hl;simp at hl)
       | cons c r=>rw[hk]at hl;simp at hl;omega)
theorem vG {s:Sts} (h:s.ok=true):∀ (e:Ex),e.wf s.d.length=true→0≤e.sel s∧e.sel s≤1000:=by
 intro e
 induction e using Ex.ind with
 | h k c v ks ih =>
  intro hw;have hk:=uC hw;have hi:∀ a∈ks,0≤a.sel s∧a.sel s≤1000:=fun a ha=>ih a ha (Ex.gM hw ha)
  rw[Ex.ADM];simp only[Ex.kind,Ex.val,Ex.kids]at hk ⊢;unfold ARG
  rcases hk with ⟨k1,ck⟩|⟨k1,ck⟩|⟨k1,a,ck⟩|⟨k1,k2,k3,k4,a,b,ck⟩
  ·simp[k1]
  ·simp only[k1,if_true];exact TY v
  ·subst ck;have h1:=hi a (by simp);have h2:=AER h (Ex.gM hw (k:=a) (by simp[Ex.kids]))
   rcases k1 with k1|k1
   ·simp[k1];omega
   ·simp[k1];omega
  ·subst ck;have h1:=hi a (by simp);have h2:=hi b (by simp);have h3:=KW h1.1 h1.2 h2.1 h2.2;have h4:=AJJ h (b:=b) (Ex.gM hw (k:=a) (by simp[Ex.kids]));simp only[k2,k3,k4,if_false,yE,List.map_nil,x9,yB,yY]
   repeat' split
   all_goals omega
theorem sV {w:Int}:∀ (e:Ex),e.wf w=true→0≤e.fix∧e.fix≤1000:=by
 intro e
 induction e using Ex.ind with
 | h k c v ks ih =>
  intro hw;have hk:=uC hw;have hi:∀ a∈ks,0≤a.fix∧a.fix≤1000:=fun a ha=>ih a ha (Ex.gM hw ha)
  rw[Ex.AFR];simp only[Ex.kind,Ex.val,Ex.kids]at hk ⊢;unfold ASQ
  rcases hk with ⟨k1,ck⟩|⟨k1,ck⟩|⟨k1,a,ck⟩|⟨k1,k2,k3,k4,a,b,ck⟩
  ·simp[k1]
  ·simp only[k1,if_true];exact TY v
  ·rcases k1 with k1|k1<;>simp[k1]
  ·subst ck;have h1:=hi a (by simp);have h2:=hi b (by simp);have h3:=KW h1.1 h1.2 h2.1 h2.2;simp only[k2,if_false,yE,List.map_nil,x9,yB,yY]
   repeat' split
   all_goals omega
def AWE (sts:List Sts) (k t:Int) (es:List Ex) (cs:List Int) (ks:List Pn) (xs:List Int):Int :=
 let x0:=(xs[0]?).getD 0
 if k=1 then(((sts[t.toNat]?).map Sts.rows).getD 0)else
 if k=2 then(x0*(if((ks[0]?).getD Pn.zero).kind=1 then((es[0]?).getD Ex.zero).sel ((sts[((ks[0]?).getD Pn.zero).table.toNat]?).getD ⟨0,[],[]⟩)else((es[0]?).getD Ex.zero).fix)).tdiv 1000 else
 if k=4 then(min (x0*(xs[1]?).getD 0) 1000000000*((es[0]?).getD Ex.zero).fix).tdiv 1000 else
 if k=5 then max ((min (x0*(xs[1]?).getD 0) 1000000000*((es[0]?).getD Ex.zero).fix).tdiv 1000) x0 else
 if k=6 then min (x0+(xs[1]?).getD 0) 1000000000 else
 if k=8 then(if cs=[]then min x0 1 else x0)else x0
mutual
def Pn.est (sts:List Sts):Pn→Int
 | .mk k t es cs ks=>AWE sts k t es cs ks (Pn.ASU sts ks)
def Pn.ASU (sts:List Sts):List Pn→List Int
 | []=>[]
 | p::ps=>p.est sts::Pn.ASU sts ps
end
theorem Pn.YK (sts:List Sts):∀ l,Pn.ASU sts l=l.map (Pn.est sts)
 | []=>rfl
 | e::es=>by simp[Pn.ASU,Pn.YK sts es]
theorem Pn.IU (sts:List Sts) (p:Pn):p.est sts=AWE sts p.kind p.table p.exprs p.cols p.kids (p.kids.map (Pn.est sts)):=by
 cases p;simp[Pn.est,Pn.YK,Pn.kind,Pn.table,Pn.exprs,Pn.cols,Pn.kids]
mutual
def Pn.cst (sts:List Sts):Pn→Int
 | .mk k t es cs ks=>AWE sts k t es cs ks (Pn.ASU sts ks)+Pn.EP sts ks
def Pn.EP (sts:List Sts):List Pn→Int
 | []=>0
 | p::ps=>p.cst sts+Pn.EP sts ps
end
theorem Pn.AL (sts:List Sts) (p:Pn):p.cst sts=p.est sts+Pn.EP sts p.kids:=by
 cases p;simp[Pn.cst,Pn.est,Pn.kids]
theorem O7 (sts:List Sts) (t:Int):(Pn.scan t).est sts=((sts[t.toNat]?).map Sts.rows).getD 0:=by rw[Pn.IU];rfl
theorem OA (sts:List Sts) (e:Ex) (a:Pn):(filt e a).est sts=(a.est sts*(if a.kind=1 then e.sel ((sts[a.table.toNat]?).getD ⟨0,[],[]⟩)else e.fix)).tdiv 1000:=by rw[Pn.IU];rfl
theorem O8 (sts:List Sts) (es:List Ex) (a:Pn):(proj es a).est sts=a.est sts:=by rw[Pn.IU];rfl
theorem O9 (sts:List Sts) {k:Int} (hk:k=4∨k=5) (e:Ex) (a b:Pn):(bA k e a b).est sts=if k=4 then(min (a.est sts*b.est sts) 1000000000*e.fix).tdiv 1000 else max ((min (a.est sts*b.est sts) 1000000000*e.fix).tdiv 1000) (a.est sts):=by
 rw[Pn.IU];rcases hk with rfl|rfl<;>rfl
theorem IQ (sts:List Sts) (a b:Pn):(bY a b).est sts=min (a.est sts+b.est sts) 1000000000:=by rw[Pn.IU];rfl
theorem OB (sts:List Sts) (a:Pn):(Pn.mk 7 0 [] [] [a]).est sts=a.est sts:=by rw[Pn.IU];rfl
theorem IR (sts:List Sts) (cs:List Int) (a:Pn):(Pn.mk 8 0 [] cs [a]).est sts=if cs=[]then min (a.est sts) 1 else a.est sts:=by rw[Pn.IU];rfl
def stW (sts:List Sts):List Int:=sts.map fun s=>(s.d.length:Int)
theorem NC {sts:List Sts} (hs:∀ s∈sts,s.ok=true) {a:Pn} {m:Nat} (ha:a.wd (stW sts) m≠0) (hk:a.kind=1):∃ s,sts[a.table.toNat]?=some s∧(s.d.length:Int)=a.wd (stW sts) m∧0≤a.table∧a.table<sts.length:=by
 have hsh:=nJ ha
 cases hsh with
 | scan t W h0 h1 hW =>
  have hw:=h1;unfold stW at h1;rw[xQ]at h1;obtain⟨s,q1,q2⟩:=zC0.1 h1;have hl:=(zZ.1 q1).1;refine⟨s,q1,?_,h0,by simp only[Pn.scan,Pn.table];omega⟩;rw[AN3 h0 hw];exact q2
 | filt m e a=>simp[filt,Pn.kind]at hk
 | proj m es a=>simp[proj,Pn.kind]at hk
 | pair m k e a b h1 hk1=>simp[bA,Pn.kind]at hk;omega
 | union m a b=>simp[bY,Pn.kind]at hk
 | dist m a=>simp[Pn.kind]at hk
 | group m cs a=>simp[Pn.kind]at hk
theorem AHV {a b:Int} (a0:0≤a) (a1:a≤1000000000) (b0:0≤b) (b1:b≤1000):0≤a*b∧a*b≤1000000000000∧0≤(a*b).tdiv 1000∧(a*b).tdiv 1000≤1000000000:=by
 obtain⟨m0,m1⟩:=BH a0 a1 b0 b1;have:=qL (c:=1000000000) m0 (show(0:Int)<1000 by omega) (by omega);exact⟨m0,by omega,this.1,this.2⟩
theorem gZ {sts:List Sts} (hs:∀ s∈sts,s.ok=true):∀ (p:Pn) (lv:Nat),p.wd (stW sts) lv≠0→0≤p.est sts∧p.est sts≤1000000000:=by
 intro p
 induction p using Pn.ind with
 | h k t es cs ks ih =>
  intro lv h;have hsh:=nJ h;generalize hp:Pn.mk k t es cs ks=p at hsh h;have hk:ks=p.kids:=by rw[← hp];rfl
  subst hk
  cases hsh with
  | scan t W h0 h1 hW =>
   rw[O7]
   cases e:sts[t.toNat]? with
   | none=>simp
   | some s=>have:=Sts.uV.1 (hs s (zV e));simp only[xU,yY];omega
  | filt m e a h1 ha he =>
   rw[OA];have h2:=ih a (by simp[filt]) m ha;obtain⟨hwf,_,_⟩:=Ex.rJ he;split
   ·rename_i hk1;obtain⟨s,q1,q2⟩:=NC hs ha hk1;rw[q1];have h3:=vG (hs s (zV q1)) e (by rw[q2.1];exact hwf);have:=AHV h2.1 h2.2 h3.1 h3.2;exact⟨this.2.2.1,this.2.2.2⟩
   ·have h3:=sV e hwf;have:=AHV h2.1 h2.2 h3.1 h3.2;exact⟨this.2.2.1,this.2.2.2⟩
  | proj m es a h1 ha hl he=>rw[O8];exact ih a (by simp[proj]) m ha
  | pair m k e a b h1 hk ha hb hl he =>
   rw[O9 sts hk];have h2:=ih a (by simp[bA]) m ha;have h3:=ih b (by simp[bA]) m hb;have h4:=sV e (Ex.rJ he).1;have h5:=Int.mul_nonneg h2.1 h3.1;have:=AHV (show 0≤min (a.est sts*b.est sts) 1000000000 by omega) (by omega) h4.1 h4.2;split<;>omega
  | union m a b h1 ha hb =>
   rw[IQ];have h2:=ih a (by simp[bY]) m ha;have h3:=ih b (by simp[bY]) m (by rw[hb];exact ha);omega
  | dist m a h1 ha=>rw[OB];exact ih a (by simp) m ha
  | group m cs a h1 ha hc ho =>
   rw[IR];have h2:=ih a (by simp) m ha;split<;>omega
theorem XD {ws:List Int} {lv:Nat} {k t:Int} {es:List Ex} {cs:List Int} {ks:List Pn} {a:Pn} (h:(Pn.mk k t es cs ks).wd ws lv≠0) (ha:a∈ks):a.wd ws (lv-1)≠0:=by
 have hsh:=nJ h;generalize hp:Pn.mk k t es cs ks=p at hsh;have hk:ks=p.kids:=by rw[← hp];rfl
 rw[hk]at ha
 cases hsh with
 | scan t W h0 h1 hW=>simp[Pn.scan,Pn.kids]at ha
 | filt m e b h1 hb he=>simp[filt,Pn.kids]at ha;subst ha;subst h1;exact hb
 | proj m es b h1 hb hl he=>simp[proj,Pn.kids]at ha;subst ha;subst h1;exact hb
 | pair m k e b c h1 hk hb hc hl he =>
  subst h1;simp[bA,Pn.kids]at ha
  rcases ha with rfl|rfl
  ·exact hb
  ·exact hc
 | union m b c h1 hb hc =>
  subst h1;simp[bY,Pn.kids]at ha
  rcases ha with rfl|rfl
  ·exact hb
  ·show Pn.wd ws m _≠0;rw[hc];exact hb
 | dist m b h1 hb=>simp[Pn.kids]at ha;subst ha;subst h1;exact hb
 | group m cs b h1 hb hc ho=>simp[Pn.kids]at ha;subst ha;subst h1;exact hb
theorem kE {sts:List Sts} (hs:∀ s∈sts,s.ok=true):∀ (p:Pn) (lv:Nat),p.wd (stW sts) lv≠0→0≤p.cst sts∧p.cst sts≤1000000000*p.size:=by
 intro p
 induction p using Pn.ind with
 | h k t es cs ks ih =>
  intro lv h;have h0:=gZ hs _ lv h
  have hl:∀ l:List Pn,(∀ a∈l,0≤a.cst sts∧a.cst sts≤1000000000*a.size)→0≤Pn.EP sts l∧Pn.EP sts l≤1000000000*Pn.bG l:=by
   intro l
   induction l with
   | nil=>intro _;simp[Pn.EP,Pn.bG]
   | cons a l ihl =>
    intro hm;have h1:=hm a (by simp);have h2:=ihl fun x hx=>hm x (by simp[hx])
    simp only[Pn.EP,Pn.bG];omega
  have hk:=hl ks fun a ha=>by
   have hw:=XD h ha;exact ih a ha _ hw
  rw[Pn.AL,Pn.size_eq];simp only[Pn.kids];omega
structure Bst where
 p:Pn
 s:Stp
 c:Int
def I1 (sts:List Sts) (ws:List Int) (p:Pn) (b:Bst) (s:Stp):Bst :=
 match apO p ws s.1 s.2 with
 | none=>b
 | some q=>if q.cst sts<b.c then⟨q,s,q.cst sts⟩else b
def AFF (sts:List Sts) (p:Pn) (l:List Stp):Bst:=l.foldl (I1 sts (stW sts) p) ⟨p,(0,[]),p.cst sts⟩
def BOk (sts:List Sts) (p:Pn) (b:Bst):Prop:=(b.p=p∧b.s=(0,[])∧b.c=p.cst sts)∨(apO p (stW sts) b.s.1 b.s.2=some b.p∧b.c=b.p.cst sts∧b.c<p.cst sts)
theorem AOI {sts:List Sts} {p:Pn} {b:Bst} (h:BOk sts p b) (s:Stp):BOk sts p (I1 sts (stW sts) p b s):=by
 unfold I1
 cases hq:apO p (stW sts) s.1 s.2 with
 | none=>exact h
 | some q =>
  simp only;split
  ·rename_i hl;refine .inr ⟨hq,rfl,?_⟩
   rcases h with ⟨h1,h2,h3⟩|⟨h1,h2,h3⟩<;>simp only<;>omega
  ·exact h
theorem AOH (sts:List Sts) (p:Pn) (l:List Stp):BOk sts p (AFF sts p l):=by
 unfold AFF
 have:∀ (l:List Stp) (b:Bst),BOk sts p b→BOk sts p (l.foldl (I1 sts (stW sts) p) b):=by
  intro l
  induction l with
  | nil=>intro b h;exact h
  | cons s l ih=>intro b h;exact ih _ (AOI h s)
 exact this l _ (.inl ⟨rfl,rfl,rfl⟩)
end Go.Av
namespace Go.Proofs.YtjdfjgmebalaaaaGreat.P
open Go Go.Av
set_option maxRecDepth 4000
set_option maxHeartbeats 4000000
def VSX (s:Sts) (i:Nat):AS :=
 { env:=[(0, .i (.agg [.int s.rows, .isl (aG s.d), .isl (aG s.n)])),(1, .int s.d.length),(2, .own 0 0),(4, .bool false),(5,jk i (.int ((i:Int)-1))),(18, .bool false),(30, .bool false),(31, .int s.d.length),(32, .int i),(33,jk i (.bool true)),(50,jk i (.bool false)),(72,jk i (.bool false))],
   st:=[some (.box [.int s.rows, .i (.isl (aG s.d)), .i (.isl (aG s.n))])] }
theorem lL (s:Sts) (hd:s.d.length<1000000000) (hn:s.n.length<1000000000):aH C0 105 [.i (.agg [.int s.rows, .isl (aG s.d), .isl (aG s.n)]), .int s.d.length] []=some (.bool s.ok,[]):=by
 rw[aD rfl Tryz.func105 rfl rfl];have hw:=MW (s.d.length:Int);unfold Sts.ok
 cases hq:bE s.d.length with
 | false=>rw[hq]at hw;simp[hw]
 | true =>
  rw[hq]at hw;have hq6:(s.d.length:Int)≤6:=by unfold bE at hq;simp at hq;omega
  by_cases h0:s.rows<0
  ·simp[hw,h0,show ¬ 0≤s.rows by omega]
  by_cases h4:400<s.rows
  ·simp[hw,h0,h4,show ¬ s.rows≤400 by omega,show 400<s.rows from h4]
  by_cases hl:s.n.length=s.d.length
  case neg =>
   have hl':¬ (s.n.length:Int)=s.d.length:=by omega
   have hf:s.okL s.d s.n=false:=by
    cases h:s.okL s.d s.n with
    | false=>rfl
    | true=>exact absurd (Sts.NT h) hl
   simp[hw,h0,h4,hl',hf]
  have r0:0≤s.rows:=by omega
  have r1:s.rows≤400:=by omega
  obtain⟨j,h1,h2⟩:=s.NS s.d s.n hl;simp[hw,h0,h4,hl,r0,r1];rw[aQ (VSX s) j (by simp[VSX])]
  ·rw[aF]
   rcases h2 with ⟨hj,ho⟩|⟨d,n,e1,e2,hc,ho⟩
   ·rw[ho];by_cases hz:s.d.length=0
    ·simp[bE,hz]at hq
    ·simp[VSX,hj,hz]
   ·rw[ho];have hjl:=(zZ.1 e1).1;have q1:=aT e1;have q2:=aT e2;have hjn:j<s.n.length:=by omega
    have wr:0≤n→n≤s.rows→IntKind.i64.wrap (s.rows-n)=s.rows-n:=fun a b=>wrO
    unfold Sts.okC at hc;by_cases c1:n<0
    ·simp[VSX,hjl,hjn,q1,q2,c1]
    ·by_cases c2:s.rows<n
     ·simp[VSX,hjl,hjn,q1,q2,c1,c2]
     ·have w:=wr (by omega) (by omega);by_cases c3:d<0
      ·simp[VSX,hjl,hjn,q1,q2,c1,c2,c3,w]
      ·have c4:s.rows-n<d:=by
        simp[show 0≤n by omega,show n≤s.rows by omega,show 0≤d by omega]at hc;omega
       simp[VSX,hjl,hjn,q1,q2,c1,c2,c3,c4,w]
  ·intro i hi;obtain⟨d,n,e1,e2,hc⟩:=h1 i hi;obtain⟨c1,c2,c3,c4⟩:=Sts.VP.1 hc;have hil:=(zZ.1 e1).1;have q1:=aT e1;have q2:=aT e2;have hin:i<s.n.length:=by omega
   have w:IntKind.i64.wrap (s.rows-n)=s.rows-n:=wrO;have w2:IntKind.i64.wrap ((i:Int)+1)=i+1:=wrO;have n1:¬ n<0:=by omega
   have n2:¬ s.rows<n:=by omega
   have n3:¬ d<0:=by omega
   have n4:¬ s.rows-n<d:=by omega
   simp[VSX,hil,hin,q1,q2,n1,n2,n3,n4,w,w2]
theorem MG (e:Ex):aH C0 172 [.i (.iref e.cells)] []=some (.int (OO e.val),[]):=by
 have h:=ZQ e.val.null e.val.n;rw[aD rfl Tryz.func172 rfl rfl,Ex.aA];unfold OO;by_cases ht:e.val.tr=2
 ·simp[h,ht]
 ·simp[h,ht]
theorem ABK {s:Sts} (hs:s.ok=true) {e a b:Ex} (hk:e.kids=[a,b]) (ha:a.wf s.d.length=true):aH C0 173 [.i (.iref e.cells), .i (.iref [.int s.rows, .isl (aG s.d), .isl (aG s.n)])] []=some (.int (AON s a b),[]):=by
 rw[aD rfl Tryz.func173 rfl rfl,Ex.aA,hk];unfold AON;simp only[Ex.aB];rw[Ex.aA a,Ex.aA b];by_cases h1:a.kind=1
 case neg=>simp[h1]
 by_cases h2:b.kind=2
 case neg=>simp[h1,h2]
 cases h3:b.val.null with
 | true=>simp[h1,h2,h3]
 | false =>
  obtain⟨c0,c1,_⟩:=Ex.lI ha h1;obtain⟨d,n,e1,e2,n0,n1,d0,d1⟩:=Sts.col hs c0 c1;have hr:s.rows≤400:=(Sts.uV.1 hs).2.2.1;have q1:=aT e1;have q2:=aT e2;have hl:=(zZ.1 e2).1;have c2:a.col<(s.n.length:Int):=by omega
  have w1:IntKind.i64.wrap (s.rows-n)=s.rows-n:=wrO;have w2:IntKind.i64.wrap (1000*(s.rows-n))=1000*(s.rows-n):=wrO;obtain⟨m0,m1⟩:=BH (show 0≤s.rows by omega) hr d0 (show d≤400 by omega);have w3:IntKind.i64.wrap (s.rows*d)=s.rows*d:=wrO;rw[e1,e2];by_cases r0:s.rows=0
  ·simp[h1,h2,h3,r0,c0,c1,q1]
  by_cases d00:d=0
  ·simp[h1,h2,h3,r0,c0,c1,q1,d00]
  ·have hm:s.rows*d≠0:=by
    intro h
    rcases Int.mul_eq_zero.1 h with h|h
    ·exact r0 h
    ·exact d00 h
   have hm2:(s.rows*d != 0)=true:=by simpa using hm
   have hrg:=qL (c:=1000) (show 0≤1000*(s.rows-n)by omega) (show 0<s.rows*d by omega) (by
    have hm1:s.rows*1≤s.rows*d:=xO (show 1≤d by omega) (by omega)
    omega)
   have w4:IntKind.i64.wrap ((1000*(s.rows-n)).tdiv (s.rows*d))=(1000*(s.rows-n)).tdiv (s.rows*d):=wrO;simp[h1,h2,h3,r0,c0,c1,c2,q1,q2,d00,w1,w2,w3,w4,hm2]
theorem JN {s:Sts} (hs:s.ok=true):∀ (e:Ex),e.wf s.d.length=true→aH C0 145 [.i (.iref e.cells), .i (.iref [.int s.rows, .isl (aG s.d), .isl (aG s.n)])] []=some (.int (e.sel s),[]):=by
 intro e
 induction e using Ex.ind with
 | h k c v ks ih =>
  intro hw;have hk:=uC hw
  have hi:∀ a∈ks,aH C0 145 [.i (.iref a.cells), .i (.iref [.int s.rows, .isl (aG s.d), .isl (aG s.n)])] []=some (.int (a.sel s),[])∧0≤a.sel s∧a.sel s≤1000∧a.wf s.d.length=true:=fun a ha =>
   have hwa:=Ex.gM hw ha
   ⟨ih a ha hwa,(vG hs a hwa).1,(vG hs a hwa).2,hwa⟩
  have hcon:=MG (.mk k c v ks);rw[Ex.ADM];generalize hE:Ex.mk k c v ks=E at *
  have hks:ks=E.kids:=by rw[← hE];rfl
  rw[hks]at hi;rw[aD rfl Tryz.func145 rfl rfl];rw[Ex.aA E]at hcon ⊢;unfold ARG
  rcases hk with ⟨k1,ck⟩|⟨k1,ck⟩|⟨k1,a,ck⟩|⟨k1,k2,k3,k4,a,b,ck⟩
  ·simp[k1]
  ·simp[k1]at hcon;simp[k1,hcon]
  ·rw[ck]at hi hcon ⊢;obtain⟨i1,r0,r1,hwa⟩:=hi a (by simp);have w1:IntKind.i64.wrap (1000-a.sel s)=1000-a.sel s:=wrO
   rcases k1 with k1|k1
   ·simp[k1,Ex.aB,i1,w1]
   ·unfold AB1;simp only[Ex.aB];rw[Ex.aA a];by_cases h1:a.kind=1
    case neg=>simp[k1,h1]
    by_cases h2:s.rows=0
    ·simp[k1,h1,h2]
    ·obtain⟨c0,c1,_⟩:=Ex.lI hwa h1;obtain⟨d,n,e1,e2,n0,n1,d0,d1⟩:=Sts.col hs c0 c1;have hr:s.rows≤400:=(Sts.uV.1 hs).2.2.1;have q2:=aT e2;have hl:=(zZ.1 e2).1;have c2:a.col<(s.n.length:Int):=by omega
     have hrg:=qL (c:=1000) (show 0≤1000*n by omega) (show 0<s.rows by omega) (by omega);have hm2:(s.rows != 0)=true:=by simpa using h2
     have w2:IntKind.i64.wrap (1000*n)=1000*n:=wrO;have w3:IntKind.i64.wrap ((1000*n).tdiv s.rows)=(1000*n).tdiv s.rows:=wrO;have e2':(s.n[a.col.toNat]?).getD 0=n:=by rw[e2];rfl
     simp[k1,h1,h2,c0,c2,q2,w2,w3,hm2];have hg:s.n[a.col.toNat]=n:=(zZ.1 e2).2;rw[hg]
  ·rw[ck]at hi;obtain⟨i1,r0,r1,hwa⟩:=hi a (by simp);obtain⟨i2,r2,r3,hwb⟩:=hi b (by simp);have heq:=ABK (b:=b) hs (e:=E) ck hwa;rw[Ex.aA E]at heq;rw[ck]at hcon heq ⊢;obtain⟨p1,p2,p3,p4,p5,p6,p7⟩:=KW r0 r1 r2 r3;have w1:IntKind.i64.wrap (a.sel s*b.sel s)=a.sel s*b.sel s:=wrO;have w2:IntKind.i64.wrap ((a.sel s*b.sel s).tdiv 1000)=(a.sel s*b.sel s).tdiv 1000:=wrO;have w3:IntKind.i64.wrap (a.sel s+b.sel s)=a.sel s+b.sel s:=wrO;have w4:IntKind.i64.wrap (a.sel s+b.sel s-(a.sel s*b.sel s).tdiv 1000)=a.sel s+b.sel s-(a.sel s*b.sel s).tdiv 1000:=wrO;simp only[Ex.aB]at heq hcon ⊢;by_cases h8:E.kind=8
   ·simp[h8,i1,i2,w1,w2]
   by_cases h9:E.kind=9
   ·simp[h9,i1,i2,w1,w2,w3,w4]
   by_cases h6:E.kind=6
   ·simp[h6]at heq;simp[h6,heq]
   by_cases h7:E.kind=7
   ·simp[h7]
   ·simp[k1,k2,k3,k4,h8,h9,h6,h7]
theorem M0 {w:Int}:∀ (e:Ex),e.wf w=true→aH C0 144 [.i (.iref e.cells)] []=some (.int e.fix,[]):=by
 intro e
 induction e using Ex.ind with
 | h k c v ks ih =>
  intro hw;have hk:=uC hw
  have hi:∀ a∈ks,aH C0 144 [.i (.iref a.cells)] []=some (.int a.fix,[])∧0≤a.fix∧a.fix≤1000:=fun a ha =>
   have hwa:=Ex.gM hw ha
   ⟨ih a ha hwa,sV a hwa⟩
  have hcon:=MG (.mk k c v ks);rw[Ex.AFR];generalize hE:Ex.mk k c v ks=E at *
  have hks:ks=E.kids:=by rw[← hE];rfl
  rw[hks]at hi;rw[aD rfl Tryz.func144 rfl rfl];rw[Ex.aA E]at hcon ⊢;unfold ASQ
  rcases hk with ⟨k1,ck⟩|⟨k1,ck⟩|⟨k1,a,ck⟩|⟨k1,k2,k3,k4,a,b,ck⟩
  ·simp[k1]
  ·simp[k1]at hcon;simp[k1,hcon]
  ·rcases k1 with k1|k1<;>simp[k1]
  ·rw[ck]at hi hcon ⊢;obtain⟨i1,r0,r1⟩:=hi a (by simp);obtain⟨i2,r2,r3⟩:=hi b (by simp);obtain⟨p1,p2,p3,p4,p5,p6,p7⟩:=KW r0 r1 r2 r3;have w1:IntKind.i64.wrap (a.fix*b.fix)=a.fix*b.fix:=wrO;have w2:IntKind.i64.wrap ((a.fix*b.fix).tdiv 1000)=(a.fix*b.fix).tdiv 1000:=wrO;simp only[Ex.aB];by_cases h8:E.kind=8
   ·simp[h8,i1,i2,w1,w2]
   by_cases h6:E.kind=6
   ·simp[h6]
   ·simp[k2,h8,h6]
set_option maxHeartbeats 8000000
noncomputable def ANH:FuncId→Option (List AV→StL→Option (AV×StL))
 | 1000000007=>none
 | 106=>none
 | 66=>none
 | 23=>none
 | g=>some (aH C0 g)
def AU1:FuncId→Bool
 | 106=>true
 | g=>bT g
@[simp] theorem AVD (g:FuncId):AU1 g=if g=106 then true else bT g:=by
  unfold AU1;split
  ·rfl
  ·rename_i h;rw[if_neg h]
noncomputable def CS:Ctx:={ P:=Tryz.prog,G:=GS,ownArgs:=AU1,keepRes:=keepR,eqT:=JZ,prim:=ANH }
@[simp] theorem AmV:CS.P=Tryz.prog:=(rfl)
@[simp] theorem AmW (f):CS.G f=GS f:=(rfl)
@[simp] theorem AmS (f):CS.ownArgs f=AU1 f:=(rfl)
@[simp] theorem AmT (f):CS.keepRes f=keepR f:=(rfl)
@[simp] theorem AmU (f):CS.eqT f=JZ f:=(rfl)
@[simp] theorem AmR:CS.tree=false:=(rfl)
theorem ARY:PrimOk CS:=by
 have h0:=bS iN
 have key:∀ g q,CS.prim g=some q→q=aH C0 g:=by
  intro g q h;have h:ANH g=some q:=h;unfold ANH at h;split at h<;>first|(cases h;done)|(injection h with h;exact h.symm)
 constructor
 ·intro g args st p h;unfold bX at h
  cases hq:CS.prim g with
  | none=>rw[hq]at h;cases h
  | some q =>
   rw[hq]at h;obtain rfl:=key g q hq;by_cases hg:g=rH
   ·subst hg;cases hq
   ·exact h0.name g args st p hg h
 ·intro g args st r st' h w m φ vs hi hr hb;unfold bX at h
  cases hq:CS.prim g with
  | none=>rw[hq]at h;cases h
  | some q =>
   rw[hq]at h;obtain rfl:=key g q hq;by_cases hg:g=rH
   ·subst hg;cases hq
   ·exact h0.calls g args st r st' hg h w m φ vs hi hr hb
theorem AKZ:SoundOk CS:=nO (C:=CS) ft nt eqS mo ARY
@[simp] theorem AUN (a:List AV) (st:StL):aH CS 144 a st=aH C0 144 a st:=by rw[aP (p:=aH C0 144) rfl]
@[simp] theorem AXM (a:List AV) (st:StL):aH CS 145 a st=aH C0 145 a st:=by rw[aP (p:=aH C0 145) rfl]
@[simp] theorem AJM (a:List AV) (st:StL):aH CS 105 a st=aH C0 105 a st:=by rw[aP (p:=aH C0 105) rfl]
@[simp] theorem AHE (a:List AV) (st:StL):aH CS 58 a st=aH C0 58 a st:=by rw[aP (p:=aH C0 58) rfl]
@[simp] theorem ALK (a:List AV) (st:StL):aH CS 68 a st=aH C0 68 a st:=by rw[aP (p:=aH C0 68) rfl]
theorem ALG (x c:Int):(if c<x then c else x)=min x c:=by split<;>omega
theorem AeW (a b:Int):(if a<b then b else a)=max a b:=by split<;>omega
theorem WI {sts:List Sts} (hs:∀ s∈sts,s.ok=true):∀ (p:Pn) (lv:Nat),p.wd (stW sts) lv≠0→∀ c:Int,0≤c→c+1000000000*p.size≤4000000000000000000 →
 aH CS 106 [.i (.iref p.cells), .i (.isl (oN sts)), .own 0 0] [some (.box [.int c])]=some (.int (p.est sts),[some (.box [.int (c+p.cst sts)])]):=by
 intro p
 induction p using Pn.ind with
 | h k t es cs ks ih =>
  intro lv h c hc0 hc1;have hsh:=nJ h;have hr:=gZ hs _ lv h;have hcr:=kE hs _ lv h;have v1:=bN;have v2:IntKind.i64.wrap (2:Int)=2:=wrO;generalize hp:Pn.mk k t es cs ks=p at hsh h hr hcr hc1;have hk:ks=p.kids:=by rw[← hp];rfl
  subst hk
  cases hsh with
  | scan t W h0 h1 hW =>
   unfold stW at h1;rw[xQ]at h1;obtain⟨s,q1,q2⟩:=zC0.1 h1;have hi:=(zZ.1 q1).1;have q:=iG q1;have hi':t<(sts.length:Int):=by omega
   have hce:(Pn.scan t).cst sts=(Pn.scan t).est sts:=by rw[Pn.AL];show _+Pn.EP sts []=_;simp only[Pn.EP,xR]
   rw[hce];rw[O7,q1]at hr ⊢;simp only[xU,yY]at hr ⊢;have w1:IntKind.i64.wrap (c+s.rows)=c+s.rows:=wrO;rw[aD rfl Tryz.func106 rfl rfl];simp[Pn.scan,Pn.aW,Pn.aB];rw[aF];simp[h0,hi',q,w1]
  | filt m e a h1 ha he =>
   have hce:(filt e a).cst sts=(filt e a).est sts+a.cst sts:=by rw[Pn.AL];show _+Pn.EP sts [a]=_;simp only[Pn.EP,xR]
   have hsz:(filt e a).size=1+a.size:=by rw[Pn.size_eq];show 1+Pn.bG [a]=_;simp only[Pn.bG,yJ]
   have i1:=ih a (by simp[filt]) m ha c hc0 (by omega);have ra:=gZ hs a m ha;have rc:=kE hs a m ha;obtain⟨hwf,_,_⟩:=Ex.rJ he;have e1:=M0 e hwf;have r3:=sV e hwf;obtain⟨m1,m2,m3,m4⟩:=AHV ra.1 ra.2 r3.1 r3.2;have w1:IntKind.i64.wrap (a.est sts*e.fix)=a.est sts*e.fix:=wrO;have w2:IntKind.i64.wrap ((a.est sts*e.fix).tdiv 1000)=(a.est sts*e.fix).tdiv 1000:=wrO;rw[hce,OA];by_cases hk1:a.kind=1
   ·obtain⟨s,q1,q2,q3,q4⟩:=NC hs ha hk1;rw[if_pos hk1,q1];simp only[yY];have q:=iG q1;have hsok:=hs s (zV q1);have e2:=JN hsok e (by rw[q2];exact hwf);have r4:=vG hsok e (by rw[q2];exact hwf);obtain⟨n1,n2,n3,n4⟩:=AHV ra.1 ra.2 r4.1 r4.2;have w3:IntKind.i64.wrap (a.est sts*e.sel s)=a.est sts*e.sel s:=wrO;have w4:IntKind.i64.wrap ((a.est sts*e.sel s).tdiv 1000)=(a.est sts*e.sel s).tdiv 1000:=wrO;have w5:IntKind.i64.wrap (c+a.cst sts+(a.est sts*e.sel s).tdiv 1000)=c+a.cst sts+(a.est sts*e.sel s).tdiv 1000:=wrO;have hfin:c+((a.est sts*e.sel s).tdiv 1000+a.cst sts)=c+a.cst sts+(a.est sts*e.sel s).tdiv 1000:=by omega
    rw[aD rfl Tryz.func106 rfl rfl];rw[Pn.aA a]at i1;simp[filt,Pn.aW,Pn.aB,Ex.aB,Pn.aA a];rw[aF];simp[i1,v1];rw[aF];simp[e1,e2,hk1,q,q3,q4,w3,w4,w5,hfin]
   ·rw[if_neg hk1];have w5:IntKind.i64.wrap (c+a.cst sts+(a.est sts*e.fix).tdiv 1000)=c+a.cst sts+(a.est sts*e.fix).tdiv 1000:=wrO;have hfin:c+((a.est sts*e.fix).tdiv 1000+a.cst sts)=c+a.cst sts+(a.est sts*e.fix).tdiv 1000:=by omega
    rw[aD rfl Tryz.func106 rfl rfl];rw[Pn.aA a]at i1;simp[filt,Pn.aW,Pn.aB,Ex.aB,Pn.aA a];rw[aF];simp[i1,v1];rw[aF];simp[e1,hk1,w1,w2,w5,hfin]
  | proj m es a h1 ha hl he =>
   have hce:(proj es a).cst sts=(proj es a).est sts+a.cst sts:=by rw[Pn.AL];show _+Pn.EP sts [a]=_;simp only[Pn.EP,xR]
   have hsz:(proj es a).size=1+a.size:=by rw[Pn.size_eq];show 1+Pn.bG [a]=_;simp only[Pn.bG,yJ]
   have i1:=ih a (by simp[proj]) m ha c hc0 (by omega);have ra:=gZ hs a m ha;have rc:=kE hs a m ha;rw[hce,O8];have w5:IntKind.i64.wrap (c+a.cst sts+a.est sts)=c+a.cst sts+a.est sts:=wrO;have hfin:c+(a.est sts+a.cst sts)=c+a.cst sts+a.est sts:=by omega
   rw[aD rfl Tryz.func106 rfl rfl];rw[Pn.aA a]at i1;simp[proj,Pn.aW,Pn.aB,Pn.aA a];rw[aF];simp[i1,v1];rw[aF];simp[w5,hfin]
  | pair m k e a b h1 hk ha hb hl6 he =>
   have hce:(bA k e a b).cst sts=(bA k e a b).est sts+(a.cst sts+b.cst sts):=by rw[Pn.AL];show _+Pn.EP sts [a,b]=_;simp only[Pn.EP,xR]
   have hsz:(bA k e a b).size=1+(a.size+b.size):=by rw[Pn.size_eq];show 1+Pn.bG [a,b]=_;simp only[Pn.bG,yJ]
   have ra:=gZ hs a m ha;have rc:=kE hs a m ha;have rb:=gZ hs b m hb;have rd:=kE hs b m hb;have i1:=ih a (by simp[bA]) m ha c hc0 (by omega);have i2:=ih b (by simp[bA]) m hb (c+a.cst sts) (by omega) (by omega);obtain⟨hwf,_,_⟩:=Ex.rJ he;have e1:=M0 e hwf;have r3:=sV e hwf;obtain⟨p1,p2⟩:=BH ra.1 ra.2 rb.1 rb.2;have w1:IntKind.i64.wrap (a.est sts*b.est sts)=a.est sts*b.est sts:=wrO;obtain⟨m1,m2,m3,m4⟩:=AHV (show 0≤min (a.est sts*b.est sts) 1000000000 by omega) (by omega) r3.1 r3.2;have w2:IntKind.i64.wrap (min (a.est sts*b.est sts) 1000000000*e.fix)=min (a.est sts*b.est sts) 1000000000*e.fix:=wrO;have w3:IntKind.i64.wrap ((min (a.est sts*b.est sts) 1000000000*e.fix).tdiv 1000)=(min (a.est sts*b.est sts) 1000000000*e.fix).tdiv 1000:=wrO;rw[hce,O9 sts hk];generalize hM:(min (a.est sts*b.est sts) 1000000000*e.fix).tdiv 1000=M at *
   rw[aD rfl Tryz.func106 rfl rfl];rw[Pn.aA a]at i1;rw[Pn.aA b]at i2
   rcases hk with rfl|rfl
   ·have w5:IntKind.i64.wrap (c+a.cst sts+b.cst sts+M)=c+a.cst sts+b.cst sts+M:=wrO;have hfin:c+(M+(a.cst sts+b.cst sts))=c+a.cst sts+b.cst sts+M:=by omega
    simp[bA,Pn.aW,Pn.aB,Ex.aB,Pn.aA a,Pn.aA b];rw[aF];simp[i1,v1];rw[aF];simp[i2,v2];rw[aF];simp[e1,ALG,w1,w2,w3,hM,w5,hfin]
   ·have w5:IntKind.i64.wrap (c+a.cst sts+b.cst sts+max M (a.est sts))=c+a.cst sts+b.cst sts+max M (a.est sts):=wrO;have hfin:c+(max M (a.est sts)+(a.cst sts+b.cst sts))=c+a.cst sts+b.cst sts+max M (a.est sts):=by omega
    simp[bA,Pn.aW,Pn.aB,Ex.aB,Pn.aA a,Pn.aA b];rw[aF];simp[i1,v1];rw[aF];simp[i2,v2];rw[aF];simp[e1,ALG,AeW,w1,w2,w3,hM,w5,hfin]
  | union m a b h1 ha hb =>
   have hb':b.wd (stW sts) m≠0:=by rw[hb];exact ha
   have hce:(bY a b).cst sts=(bY a b).est sts+(a.cst sts+b.cst sts):=by rw[Pn.AL];show _+Pn.EP sts [a,b]=_;simp only[Pn.EP,xR]
   have hsz:(bY a b).size=1+(a.size+b.size):=by rw[Pn.size_eq];show 1+Pn.bG [a,b]=_;simp only[Pn.bG,yJ]
   have ra:=gZ hs a m ha;have rc:=kE hs a m ha;have rb:=gZ hs b m hb';have rd:=kE hs b m hb';have i1:=ih a (by simp[bY]) m ha c hc0 (by omega);have i2:=ih b (by simp[bY]) m hb' (c+a.cst sts) (by omega) (by omega);have w1:IntKind.i64.wrap (a.est sts+b.est sts)=a.est sts+b.est sts:=wrO;rw[hce,IQ];have w5:IntKind.i64.wrap (c+a.cst sts+b.cst sts+min (a.est sts+b.est sts) 1000000000)=c+a.cst sts+b.cst sts+min (a.est sts+b.est sts) 1000000000:=wrO;have hfin:c+(min (a.est sts+b.est sts) 1000000000+(a.cst sts+b.cst sts))=c+a.cst sts+b.cst sts+min (a.est sts+b.est sts) 1000000000:=by omega
   rw[aD rfl Tryz.func106 rfl rfl];rw[Pn.aA a]at i1;rw[Pn.aA b]at i2;simp[bY,Pn.aW,Pn.aB,Pn.aA a,Pn.aA b];rw[aF];simp[i1,v1];rw[aF];simp[i2,v2];rw[aF];simp[ALG,w1,w5,hfin]
  | dist m a h1 ha =>
   have hce:(Pn.mk 7 0 [] [] [a]).cst sts=(Pn.mk 7 0 [] [] [a]).est sts+a.cst sts:=by rw[Pn.AL];show _+Pn.EP sts [a]=_;simp only[Pn.EP,xR]
   have hsz:(Pn.mk 7 0 [] [] [a]).size=1+a.size:=by rw[Pn.size_eq];show 1+Pn.bG [a]=_;simp only[Pn.bG,yJ]
   have i1:=ih a (by simp) m ha c hc0 (by omega);have ra:=gZ hs a m ha;have rc:=kE hs a m ha;rw[hce,OB];have w5:IntKind.i64.wrap (c+a.cst sts+a.est sts)=c+a.cst sts+a.est sts:=wrO;have hfin:c+(a.est sts+a.cst sts)=c+a.cst sts+a.est sts:=by omega
   rw[aD rfl Tryz.func106 rfl rfl];rw[Pn.aA a]at i1;simp[Pn.aW,Pn.aB,Pn.aA a];rw[aF];simp[i1,v1];rw[aF];simp[w5,hfin]
  | group m cs a h1 ha hc6 ho =>
   have hce:(Pn.mk 8 0 [] cs [a]).cst sts=(Pn.mk 8 0 [] cs [a]).est sts+a.cst sts:=by rw[Pn.AL];show _+Pn.EP sts [a]=_;simp only[Pn.EP,xR]
   have hsz:(Pn.mk 8 0 [] cs [a]).size=1+a.size:=by rw[Pn.size_eq];show 1+Pn.bG [a]=_;simp only[Pn.bG,yJ]
   have i1:=ih a (by simp) m ha c hc0 (by omega);have ra:=gZ hs a m ha;have rc:=kE hs a m ha;rw[hce,IR];rw[aD rfl Tryz.func106 rfl rfl];rw[Pn.aA a]at i1
   cases cs with
   | nil =>
    have w5:IntKind.i64.wrap (c+a.cst sts+min (a.est sts) 1)=c+a.cst sts+min (a.est sts) 1:=wrO;have hfin:c+(min (a.est sts) 1+a.cst sts)=c+a.cst sts+min (a.est sts) 1:=by omega
    simp[Pn.aW,Pn.aB,Pn.aA a];rw[aF];simp[i1,v1];rw[aF];simp[ALG,aG,w5,hfin]
   | cons c1 cs =>
    have n0:¬ ((cs.length:Int)+1=0):=by omega
    have w5:IntKind.i64.wrap (c+a.cst sts+a.est sts)=c+a.cst sts+a.est sts:=wrO;have hfin:c+(a.est sts+a.cst sts)=c+a.cst sts+a.est sts:=by omega
    simp[Pn.aW,Pn.aB,Pn.aA a];rw[aF];simp[i1,v1];rw[aF];simp[aG,n0,w5,hfin]
end Go.Proofs.YtjdfjgmebalaaaaGreat.P
namespace Go.Av
def KH (sts:List Sts) (p:Pn):Bool:=sts.all Sts.ok && decide (p.width (stW sts)≠0)
def AOQ (sts:List Sts) (p:Pn):Int:=if KH sts p=true then p.cst sts else -1
theorem gN (sts:List Sts):(stW sts).length=sts.length:=by simp[stW]
theorem pQ {sts:List Sts} {p:Pn}:KH sts p=true↔(∀ s∈sts,s.ok=true)∧p.width (stW sts)≠0:=by
 unfold KH;rw[zU,zS];simp
theorem AI5 {sts:List Sts} {p:Pn} (h:KH sts p=true):sts.length≤4:=by
 obtain⟨_,h2⟩:=pQ.1 h;unfold Pn.width at h2;by_cases hw:jS (stW sts)=true
 ·unfold jS at hw;simp[gN]at hw;omega
 ·rw[if_neg hw]at h2;exact absurd rfl h2
end Go.Av
namespace Go.Proofs.YtjdfjgmebalaaaaGreat.P
open Go Go.Av
set_option maxRecDepth 4000
set_option maxHeartbeats 4000000
def SWX (sts:List Sts) (i:Nat):AS :=
 { env:=[(0, .i (.isl (oN sts))),(2, .nils),(3,gro 0 1 i),(4,jk i (.int ((i:Int)-1))),(6, .int sts.length),(7, .int i),(8,jk i (.bool true))],st:=TG 1 (aG ((stW sts).take i)) i }
theorem uR (sts:List Sts) (hl:sts.length<1000000) (hd:∀ s∈sts,s.d.length<1000000000):aH C0 58 [.i (.isl (oN sts))] []=some (.i (.isl (aG (stW sts))),[]):=by
 rw[aD rfl Tryz.func58 rfl rfl];simp;rw[aQ (SWX sts) sts.length (by simp[SWX])]
 ·rw[aF];have e1:(stW sts).take sts.length=stW sts:=zY (by rw[gN];omega);by_cases hz:sts.length=0
  ·have:sts=[]:=zW.1 hz;subst this;simp[SWX,stW,aG]
  ·have e2:(aG (stW sts)).take sts.length=aG (stW sts):=zY (by simp[gN]);simp[SWX,aM hz,aJ hz,hz,e1,e2,gN]
 ·intro i hi
  obtain⟨s,hs⟩:∃ s,sts[i]?=some s:=⟨_,zX hi⟩
  have q:=iG hs;have hw:(stW sts)[i]?=some (s.d.length:Int):=by simp[stW,hs]
  have hT:=aL hw;have w3:IntKind.i64.wrap ((i:Int)+1)=i+1:=wrO;have hb:(i+1)*8≤140737488355328:=by omega
  have e1:((stW sts).take i).take i=(stW sts).take i:=by rw[zN,xA]
  have hmin:min i (stW sts).length=i:=by rw[gN];omega
  by_cases h0:i=0
  ·subst h0;simp at hT;simp[SWX,hi,q,hT,bN,aG]
  ·simp[SWX,hi,q,hT,w3,hb,e1,h0,aM h0,aJ h0,bH h0,hmin,bZ,aG]
def ESX (p:Pn) (sts:List Sts) (i:Nat):AS :=
 { env:=[(0, .i (.iref [.int p.kind, .int p.table, .isl (Ex.aB p.exprs), .isl (aG p.cols), .isl (Pn.aB p.kids)])),(1, .i (.isl (oN sts))),(4, .int 0),(5, .int 0),(6,jk i (.int ((i:Int)-1))),(7, .junk),(8, .junk),(11, .bool false),(13, .int sts.length),(14, .int i),(15,jk i (.bool true)),(28,jk i (.bool false)),(36, .junk)],st:=[] }
theorem TP (p:Pn) (sts:List Sts) (hl:sts.length<1000000) (hd:∀ s∈sts,s.d.length<1000000000∧s.n.length<1000000000):∃ n,aH CS 66 [.i (.iref p.cells), .i (.isl (oN sts))] []=some (.tup [.int n, .int (AOQ sts p)],[]):=by
 rw[aD rfl Tryz.func66 rfl rfl];unfold AOQ;by_cases h4:4<sts.length
 ·have hq:KH sts p=false:=by
   cases h:KH sts p with
   | false=>rfl
   | true=>have:=AI5 h;omega
  have h4':(4:Int)<sts.length:=by omega
  refine⟨-1,?_⟩;rw[Pn.aA p];simp[h4',h4,hq]
 have h4':¬ (4:Int)<sts.length:=by omega
 obtain⟨j,h1,h2⟩:=gB Sts.ok sts;have c1:=uR sts hl fun s hs=>(hd s hs).1
 have c2:=nT p (stW sts);rw[Pn.aA p]at c2 ⊢
 rcases h2 with ⟨hj,ha⟩|⟨s,h3,h3m,h5,ha⟩
 ·have hs:∀ s∈sts,s.ok=true:=zS.1 ha;by_cases hw:p.width (stW sts)=0
  ·have hq:KH sts p=false:=by
    cases h:KH sts p with
    | false=>rfl
    | true=>exact absurd hw (pQ.1 h).2
   refine⟨-1,?_⟩;simp[h4',h4];rw[aQ (ESX p sts) j (by simp[ESX])]
   ·rw[aF];by_cases hz:sts.length=0
    ·simp[ESX,hj,hz,c1,c2,hw,hq]
    ·simp[ESX,hj,hz,c1,c2,hw,hq]
   ·intro i hi;obtain⟨k,e1,e2,e3⟩:=h1 i hi;have q:=iG e1;have hil:=(zZ.1 e1).1;have v:=lL k (hd k e2).1 (hd k e2).2;rw[e3]at v;have w3:IntKind.i64.wrap ((i:Int)+1)=i+1:=wrO;simp[ESX,hil,q,v,w3]
  ·have hq:KH sts p=true:=pQ.2 ⟨hs,hw⟩
   obtain⟨hws,hp8,hpw⟩:jS (stW sts)=true∧p.wd (stW sts) 8≠0∧p.width (stW sts)=p.wd (stW sts) 8:=by
    unfold Pn.width at hw ⊢;split at hw
    ·rename_i hk;exact⟨hk,hw,if_pos hk⟩
    ·exact absurd rfl hw
   have hsz:=(Pn.wJ p 8 hp8).2;have c3:=WI hs p 8 hp8 0 (by omega) (by omega);rw[Pn.aA p]at c3;simp only[Int.zero_add]at c3;refine⟨p.est sts,?_⟩;simp[h4',h4];rw[aQ (ESX p sts) j (by simp[ESX])]
   ·rw[aF];by_cases hz:sts.length=0
    ·simp[ESX,hj,hz,c1,c2,c3,hw,hq]
    ·simp[ESX,hj,hz,c1,c2,c3,hw,hq]
   ·intro i hi;obtain⟨k,e1,e2,e3⟩:=h1 i hi;have q:=iG e1;have hil:=(zZ.1 e1).1;have v:=lL k (hd k e2).1 (hd k e2).2;rw[e3]at v;have w3:IntKind.i64.wrap ((i:Int)+1)=i+1:=wrO;simp[ESX,hil,q,v,w3]
 ·have hq:KH sts p=false:=by unfold KH;rw[ha];rfl
  refine⟨-1,?_⟩;simp[h4',h4];rw[aQ (ESX p sts) j (by simp[ESX])]
  ·rw[aF];have q:=iG h3;have hil:=(zZ.1 h3).1;have v:=lL s (hd s h3m).1 (hd s h3m).2;rw[h5]at v;simp[ESX,hil,q,v,hq]
  ·intro i hi;obtain⟨k,e1,e2,e3⟩:=h1 i hi;have q:=iG e1;have hil:=(zZ.1 e1).1;have v:=lL k (hd k e2).1 (hd k e2).2;rw[e3]at v;have w3:IntKind.i64.wrap ((i:Int)+1)=i+1:=wrO;simp[ESX,hil,q,v,w3]
theorem kD (p:Pn) (sts:List Sts) (hl:sts.length<1000000) (hd:∀ s∈sts,s.d.length<1000000000∧s.n.length<1000000000):aH CS 23 [.i (.agg p.cells), .i (.isl (oN sts))] []=some (.int (AOQ sts p),[]):=by
 obtain⟨n,h⟩:=TP p sts hl hd;rw[aD rfl Tryz.func23 rfl rfl];rw[Pn.aA p]at h ⊢;simp[h]
end Go.Proofs.YtjdfjgmebalaaaaGreat.P
namespace Go.Proofs.YtjdfjgmebalaaaaGreat
open Go Go.Av
set_option maxRecDepth 4000
def tS (v:Val):Int:=if v.null=true then 2 else if v.n=0 then 0 else 1
theorem AQX (v:Val):(tS v=0∧v.tr=0)∨(tS v=1∧v.tr=2)∨(tS v=2∧v.tr=1):=by
 unfold tS Val.tr
 cases v.null
 ·by_cases h:v.n=0<;>simp[h]
 ·simp
@[simp] theorem ATV (b:Bool) (n:Int):aH C0 165 [.i (.agg [.bool b, .int n])] []=some (.int (tS ⟨b,n⟩),[]):=by
  rw[aD rfl Tryz.func165 rfl rfl]
  cases b
  ·by_cases h:n=0<;>simp[tS,h]
  ·simp[tS]
@[simp] theorem AR0 (b:Bool):aH C0 164 [.bool b] []=some (.int (if b=true then 1 else 0),[]):=by
  rw[aD rfl Tryz.func164 rfl rfl]
  cases b<;>simp
theorem oQ (a b:Val) (ha:a.ok=true) (hb:b.ok=true):aH C0 200 [.i (.agg [.bool a.null, .int a.n]), .i (.agg [.bool b.null, .int b.n])] []=some (.int (Val.cmp a b),[]):=by
 rw[aD rfl Tryz.func200 rfl rfl];obtain⟨an,a⟩:=a;obtain⟨bn,b⟩:=b
 cases an<;>cases bn<;>simp[Val.ok]at ha hb
 ·by_cases h1:a=b
  ·subst h1;simp[Val.cmp]
  ·by_cases h2:a<b
   ·simp[Val.cmp,h1,h2]
   ·have:b<a:=by omega
    simp[Val.cmp,h1,h2,this]
 ·subst hb;by_cases h1:a=0<;>simp[Val.cmp,h1]
 ·subst ha;simp[Val.cmp]
 ·subst ha;subst hb;simp[Val.cmp]
end Go.Proofs.YtjdfjgmebalaaaaGreat
namespace Go.Proofs.YtjdfjgmebalaaaaGreat.P
open Go Go.Av
set_option maxRecDepth 4000
set_option maxHeartbeats 8000000
def SVX (s:Sts) (i:Nat):AS :=
 { env:=[(0, .i (.agg [.int s.rows, .isl (aG s.d), .isl (aG s.n)])),(1, .int s.d.length),(2, .own 0 0),(4, .bool false),(5, .int i),(23, .bool false),(26,jk i (.bool true)),(54,jk i (.bool false))],
   st:=[some (.box [.int s.rows, .i (.isl (aG s.d)), .i (.isl (aG s.n))])] }
theorem JK (s:Sts) (hd:s.d.length<1000000000) (hn:s.n.length<1000000000):aH C0 133 [.i (.agg [.int s.rows, .isl (aG s.d), .isl (aG s.n)]), .int s.d.length] []=some (.bool (decide (0≤s.rows) && (decide (s.rows≤400) && s.okL s.d s.n)),[]):=by
 rw[aD rfl Tryz.func133 rfl rfl];by_cases hr:0≤s.rows∧s.rows≤400
 case neg =>
  by_cases h0:0≤s.rows
  ·have h4:¬ s.rows≤400:=fun h=>hr ⟨h0,h⟩
   simp[h0,h4]
  ·simp[h0]
 obtain⟨r0,r1⟩:=hr;by_cases hl:s.n.length=s.d.length
 case neg =>
  have hl':¬ (s.n.length:Int)=s.d.length:=by omega
  have hf:s.okL s.d s.n=false:=by
   cases h:s.okL s.d s.n with
   | false=>rfl
   | true=>exact absurd (Sts.NT h) hl
  simp[r0,r1,hl',hf]
 obtain⟨j,h1,h2⟩:=s.NS s.d s.n hl;simp[r0,r1,hl];rw[aQ (SVX s) j (by simp[SVX])]
 ·rw[aF]
  rcases h2 with ⟨hj,ho⟩|⟨d,n,e1,e2,hc,ho⟩
  ·rw[ho];by_cases hz:s.d.length=0
   ·simp[SVX,hj,hz]
   ·simp[SVX,hj,hz]
  ·rw[ho];have hjl:=(zZ.1 e1).1;have q1:=aT e1;have q2:=aT e2;have hjn:j<s.n.length:=by omega
   have wr:0≤n→n≤s.rows→IntKind.i64.wrap (s.rows-n)=s.rows-n:=fun a b=>wrO
   unfold Sts.okC at hc;by_cases c1:0≤n
   case neg=>simp[SVX,hjl,hjn,q1,q2,c1]
   by_cases c2:n≤s.rows
   case neg=>simp[SVX,hjl,hjn,q1,q2,c1,c2]
   have w:=wr c1 c2;by_cases c3:0≤d
   case neg=>simp[SVX,hjl,hjn,q1,q2,c1,c2,c3,w]
   have c4:¬ d≤s.rows-n:=by
    simp[c1,c2,c3]at hc;omega
   simp[SVX,hjl,hjn,q1,q2,c1,c2,c3,c4,w]
 ·intro i hi;obtain⟨d,n,e1,e2,hc⟩:=h1 i hi;obtain⟨c1,c2,c3,c4⟩:=Sts.VP.1 hc;have hil:=(zZ.1 e1).1;have q1:=aT e1;have q2:=aT e2;have hin:i<s.n.length:=by omega
  have w:IntKind.i64.wrap (s.rows-n)=s.rows-n:=wrO;have w2:IntKind.i64.wrap ((i:Int)+1)=i+1:=wrO;simp[SVX,hil,hin,q1,q2,c1,c2,c3,c4,w,w2]
theorem uS (s:Sts) (hd:s.d.length<1000000000) (hn:s.n.length<1000000000):aH C0 97 [.i (.agg [.int s.rows, .isl (aG s.d), .isl (aG s.n)]), .int s.d.length] []=some (.bool s.ok,[]):=by
 have h:=JK s hd hn;rw[aD rfl Tryz.func97 rfl rfl];unfold Sts.ok bE;by_cases h1:(1:Int)≤s.d.length∧(s.d.length:Int)≤6
 ·simp[h1.1,h1.2,h]
 ·by_cases h2:(1:Int)≤s.d.length
  ·have h3:¬ (s.d.length:Int)≤6:=fun h=>h1 ⟨h2,h⟩
   simp[h2,h3]
  ·simp[h2]
theorem QN {s:Sts} (hs:s.ok=true) {c d n:Int} (h0:0≤c) (e1:s.d[c.toNat]?=some d) (e2:s.n[c.toNat]?=some n) (n0:0≤n) (n1:n≤s.rows) (d0:0≤d) (d1:d≤s.rows-n):aH C0 166 [.i (.agg [.int s.rows, .isl (aG s.d), .isl (aG s.n)]), .int c] []=some (.int (if s.rows=0∨d=0 then 0 else(1000*(s.rows-n)).tdiv (s.rows*d)),[]):=by
 rw[aD rfl Tryz.func166 rfl rfl];have hr:s.rows≤400:=(Sts.uV.1 hs).2.2.1;have q1:=aT e1;have q2:=aT e2;have hl1:=(zZ.1 e1).1;have hl:=(zZ.1 e2).1;have c1:c<(s.d.length:Int):=by omega
 have c2:c<(s.n.length:Int):=by omega
 have w1:IntKind.i64.wrap (s.rows-n)=s.rows-n:=wrO;have w2:IntKind.i64.wrap (1000*(s.rows-n))=1000*(s.rows-n):=wrO;obtain⟨m0,m1⟩:=BH (show 0≤s.rows by omega) hr d0 (show d≤400 by omega);have w3:IntKind.i64.wrap (s.rows*d)=s.rows*d:=wrO;by_cases r0:s.rows=0
 ·simp[r0,q1,h0,c1]
 by_cases d00:d=0
 ·simp[r0,q1,d00,h0,c1]
 ·have hm:s.rows*d≠0:=by
   intro h
   rcases Int.mul_eq_zero.1 h with h|h
   ·exact r0 h
   ·exact d00 h
  have hm2:(s.rows*d != 0)=true:=by simpa using hm
  have hrg:=qL (c:=1000) (show 0≤1000*(s.rows-n)by omega) (show 0<s.rows*d by omega) (by
   have hm1:s.rows*1≤s.rows*d:=xO (show 1≤d by omega) (by omega)
   omega)
  have w4:IntKind.i64.wrap ((1000*(s.rows-n)).tdiv (s.rows*d))=(1000*(s.rows-n)).tdiv (s.rows*d):=wrO;simp[r0,c1,c2,h0,q1,q2,d00,w1,w2,w3,w4,hm2]
theorem QO (v:Val):(if tS v=1 then(1000:Int)else 0)=OO v:=by
 unfold OO
 rcases AQX v with ⟨h1,h2⟩|⟨h1,h2⟩|⟨h1,h2⟩<;>rw[h1,h2]<;>decide
theorem ACS (b:Bool):IntKind.i64.wrap (1000*(if b=true then 1 else 0))=if b=true then 1000 else 0:=by
 cases b<;>exact wrap64 (by simp) (by simp)
theorem QH {s:Sts} (hs:s.ok=true):∀ (e:Ex),e.wf s.d.length=true→aH C0 134 [.i (.agg e.cells), .i (.agg [.int s.rows, .isl (aG s.d), .isl (aG s.n)])] []=some (.int (e.sel s),[]):=by
 intro e
 induction e using Ex.ind with
 | h k c v ks ih =>
  intro hw;have hk:=uC hw
  have hi:∀ a∈ks,aH C0 134 [.i (.agg a.cells), .i (.agg [.int s.rows, .isl (aG s.d), .isl (aG s.n)])] []=some (.int (a.sel s),[])∧0≤a.sel s∧a.sel s≤1000∧a.wf s.d.length=true:=fun a ha =>
   have hwa:=Ex.gM hw ha
   ⟨ih a ha hwa,(vG hs a hwa).1,(vG hs a hwa).2,hwa⟩
  rw[Ex.ADM];generalize hE:Ex.mk k c v ks=E at *
  have hks:ks=E.kids:=by rw[← hE];rfl
  rw[hks]at hi;have hcon:=QO E.val;have hwi:=ACS (decide (tS E.val=1));rw[aD rfl Tryz.func134 rfl rfl];rw[Ex.aA E];unfold ARG
  rcases hk with ⟨k1,ck⟩|⟨k1,ck⟩|⟨k1,a,ck⟩|⟨k1,k2,k3,k4,a,b,ck⟩
  ·simp[k1]
  ·rw[← hcon];by_cases ht:tS E.val=1
   ·simp[ht]at hwi;simp[k1,ht,hwi]
   ·simp[ht]at hwi;simp[k1,ht,hwi]
  ·rw[ck]at hi ⊢;obtain⟨i1,r0,r1,hwa⟩:=hi a (by simp);rw[Ex.aA a]at i1;have w1:IntKind.i64.wrap (1000-a.sel s)=1000-a.sel s:=wrO
   rcases k1 with k1|k1
   ·simp[k1,Ex.aB,Ex.aA a,i1,w1]
   ·unfold AB1;simp only[Ex.aB];rw[Ex.aA a];by_cases h1:a.kind=1
    case neg=>simp[k1,h1]
    have hr0:0≤s.rows:=(Sts.uV.1 hs).2.1;by_cases h2:s.rows=0
    ·simp[k1,h1,h2]
    ·have hr1:0<s.rows:=by omega
     obtain⟨c0,c1,_⟩:=Ex.lI hwa h1;obtain⟨d,n,e1,e2,n0,n1,d0,d1⟩:=Sts.col hs c0 c1;have hr:s.rows≤400:=(Sts.uV.1 hs).2.2.1;have q2:=aT e2;have hl:=(zZ.1 e2).1;have c2:a.col<(s.n.length:Int):=by omega
     have hrg:=qL (c:=1000) (show 0≤1000*n by omega) (show 0<s.rows by omega) (by omega);have hm2:(s.rows != 0)=true:=by simpa using h2
     have w2:IntKind.i64.wrap (1000*n)=1000*n:=wrO;have w3:IntKind.i64.wrap ((1000*n).tdiv s.rows)=(1000*n).tdiv s.rows:=wrO;have hg:s.n[a.col.toNat]=n:=(zZ.1 e2).2;simp[k1,h1,h2,hr1,c0,c2,q2,w2,w3,hm2];rw[hg]
  ·rw[ck]at hi;obtain⟨i1,r0,r1,hwa⟩:=hi a (by simp);obtain⟨i2,r2,r3,hwb⟩:=hi b (by simp);rw[Ex.aA a]at i1;rw[Ex.aA b]at i2;obtain⟨p1,p2,p3,p4,p5,p6,p7⟩:=KW r0 r1 r2 r3;have w1:IntKind.i64.wrap (a.sel s*b.sel s)=a.sel s*b.sel s:=wrO;have w2:IntKind.i64.wrap ((a.sel s*b.sel s).tdiv 1000)=(a.sel s*b.sel s).tdiv 1000:=wrO;have w3:IntKind.i64.wrap (a.sel s+b.sel s)=a.sel s+b.sel s:=wrO;have w4:IntKind.i64.wrap (a.sel s+b.sel s-(a.sel s*b.sel s).tdiv 1000)=a.sel s+b.sel s-(a.sel s*b.sel s).tdiv 1000:=wrO;rw[ck];by_cases h8:E.kind=8
   ·simp[h8,Ex.aB,Ex.aA a,Ex.aA b,i1,i2,w1,w2]
   by_cases h9:E.kind=9
   ·simp[h9,Ex.aB,Ex.aA a,Ex.aA b,i1,i2,w1,w2,w3,w4]
   by_cases h6:E.kind=6
   ·unfold AON;by_cases h1:a.kind=1
    case neg=>simp[h6,h1,Ex.aB,Ex.aA a,Ex.aA b]
    by_cases h2:b.kind=2
    case neg=>simp[h6,h1,h2,Ex.aB,Ex.aA a,Ex.aA b]
    cases h3:b.val.null with
    | true=>simp[h6,h1,h2,h3,Ex.aB,Ex.aA a,Ex.aA b]
    | false =>
     obtain⟨c0,c1,_⟩:=Ex.lI hwa h1;obtain⟨d,n,e1,e2,n0,n1,d0,d1⟩:=Sts.col hs c0 c1;have hq:=QN hs c0 e1 e2 n0 n1 d0 d1;have hg:(s.n[a.col.toNat]?).getD 0=n:=by rw[e2];rfl
     have hg2:(s.d[a.col.toNat]?).getD 0=d:=by rw[e1];rfl
     simp only[x9,yB,yY,hg,hg2];simp[h6,h1,h2,h3,Ex.aB,Ex.aA a,Ex.aA b,hq]
   by_cases h7:E.kind=7
   ·simp[h7]
   ·simp[k1,k2,k3,k4,h8,h9,h6,h7]
theorem QL {w:Int}:∀ (e:Ex),e.wf w=true→aH C0 135 [.i (.agg e.cells)] []=some (.int e.fix,[]):=by
 intro e
 induction e using Ex.ind with
 | h k c v ks ih =>
  intro hw;have hk:=uC hw
  have hi:∀ a∈ks,aH C0 135 [.i (.agg a.cells)] []=some (.int a.fix,[])∧0≤a.fix∧a.fix≤1000:=fun a ha =>
   have hwa:=Ex.gM hw ha
   ⟨ih a ha hwa,sV a hwa⟩
  rw[Ex.AFR];generalize hE:Ex.mk k c v ks=E at *
  have hks:ks=E.kids:=by rw[← hE];rfl
  rw[hks]at hi;have hcon:=QO E.val;have hwi:=ACS (decide (tS E.val=1));rw[aD rfl Tryz.func135 rfl rfl];rw[Ex.aA E];unfold ASQ
  rcases hk with ⟨k1,ck⟩|⟨k1,ck⟩|⟨k1,a,ck⟩|⟨k1,k2,k3,k4,a,b,ck⟩
  ·simp[k1]
  ·rw[← hcon];by_cases ht:tS E.val=1
   ·simp[ht]at hwi;simp[k1,ht,hwi]
   ·simp[ht]at hwi;simp[k1,ht,hwi]
  ·rcases k1 with k1|k1<;>simp[k1]
  ·rw[ck]at hi ⊢;obtain⟨i1,r0,r1⟩:=hi a (by simp);obtain⟨i2,r2,r3⟩:=hi b (by simp);rw[Ex.aA a]at i1;rw[Ex.aA b]at i2;obtain⟨p1,p2,p3,p4,p5,p6,p7⟩:=KW r0 r1 r2 r3;have w1:IntKind.i64.wrap (a.fix*b.fix)=a.fix*b.fix:=wrO;have w2:IntKind.i64.wrap ((a.fix*b.fix).tdiv 1000)=(a.fix*b.fix).tdiv 1000:=wrO;by_cases h8:E.kind=8
   ·simp[h8,Ex.aB,Ex.aA a,Ex.aA b,i1,i2,w1,w2]
   by_cases h6:E.kind=6
   ·simp[h6]
   ·simp[k2,h8,h6]
theorem QM {sts:List Sts} (hs:∀ s∈sts,s.ok=true):∀ (p:Pn) (lv:Nat),p.wd (stW sts) lv≠0 →
 aH C0 99 [.i (.agg p.cells), .i (.isl (oN sts))] []=some (.int (p.est sts),[]):=by
 intro p
 induction p using Pn.ind with
 | h k t es cs ks ih =>
  intro lv h;have hsh:=nJ h;have hr:=gZ hs _ lv h;generalize hp:Pn.mk k t es cs ks=p at hsh h hr;have hk:ks=p.kids:=by rw[← hp];rfl
  subst hk
  cases hsh with
  | scan t W h0 h1 hW =>
   unfold stW at h1;rw[xQ]at h1;obtain⟨s,q1,q2⟩:=zC0.1 h1;have hi:=(zZ.1 q1).1;have q:=iG q1;have hi':t<(sts.length:Int):=by omega
   rw[O7,q1];simp only[xU,yY];rw[aD rfl Tryz.func99 rfl rfl];simp[Pn.scan,Pn.aW,h0,hi',q]
  | filt m e a h1 ha he =>
   have i1:=ih a (by simp[filt]) m ha;have ra:=gZ hs a m ha;obtain⟨hwf,_,_⟩:=Ex.rJ he;have e1:=QL e hwf;have r3:=sV e hwf;obtain⟨m1,m2,m3,m4⟩:=AHV ra.1 ra.2 r3.1 r3.2;have w1:IntKind.i64.wrap (a.est sts*e.fix)=a.est sts*e.fix:=wrO;have w2:IntKind.i64.wrap ((a.est sts*e.fix).tdiv 1000)=(a.est sts*e.fix).tdiv 1000:=wrO;rw[OA];by_cases hk1:a.kind=1
   ·obtain⟨s,q1,q2,q3,q4⟩:=NC hs ha hk1;rw[if_pos hk1,q1];simp only[yY];have q:=iG q1;have hsok:=hs s (zV q1);have e2:=QH hsok e (by rw[q2];exact hwf);have r4:=vG hsok e (by rw[q2];exact hwf);obtain⟨n1,n2,n3,n4⟩:=AHV ra.1 ra.2 r4.1 r4.2;have w3:IntKind.i64.wrap (a.est sts*e.sel s)=a.est sts*e.sel s:=wrO;have w4:IntKind.i64.wrap ((a.est sts*e.sel s).tdiv 1000)=(a.est sts*e.sel s).tdiv 1000:=wrO;rw[aD rfl Tryz.func99 rfl rfl];rw[Pn.aA a,hk1]at i1;rw[Ex.aA e]at e2;simp[filt,Pn.aW,Pn.aB,Ex.aB,Ex.aA e,Pn.aA a,i1,e2,hk1,q,q3,q4,w3,w4]
   ·rw[if_neg hk1];rw[aD rfl Tryz.func99 rfl rfl];rw[Pn.aA a]at i1;rw[Ex.aA e]at e1;simp[filt,Pn.aW,Pn.aB,Ex.aB,Ex.aA e,Pn.aA a,i1,e1,hk1,w1,w2]
  | proj m es a h1 ha hl he =>
   have i1:=ih a (by simp[proj]) m ha;rw[O8];rw[aD rfl Tryz.func99 rfl rfl];rw[Pn.aA a]at i1;simp[proj,Pn.aW,Pn.aB,Pn.aA a,i1]
  | pair m k e a b h1 hk ha hb hl6 he =>
   have ra:=gZ hs a m ha;have rb:=gZ hs b m hb;have i1:=ih a (by simp[bA]) m ha;have i2:=ih b (by simp[bA]) m hb;obtain⟨hwf,_,_⟩:=Ex.rJ he;have e1:=QL e hwf;have r3:=sV e hwf;obtain⟨p1,p2⟩:=BH ra.1 ra.2 rb.1 rb.2;have w1:IntKind.i64.wrap (a.est sts*b.est sts)=a.est sts*b.est sts:=wrO;obtain⟨m1,m2,m3,m4⟩:=AHV (show 0≤min (a.est sts*b.est sts) 1000000000 by omega) (by omega) r3.1 r3.2;have w2:IntKind.i64.wrap (min (a.est sts*b.est sts) 1000000000*e.fix)=min (a.est sts*b.est sts) 1000000000*e.fix:=wrO;have w3:IntKind.i64.wrap ((min (a.est sts*b.est sts) 1000000000*e.fix).tdiv 1000)=(min (a.est sts*b.est sts) 1000000000*e.fix).tdiv 1000:=wrO;rw[O9 sts hk];generalize hM:(min (a.est sts*b.est sts) 1000000000*e.fix).tdiv 1000=M at *
   rw[aD rfl Tryz.func99 rfl rfl];rw[Pn.aA a]at i1;rw[Pn.aA b]at i2;rw[Ex.aA e]at e1;have hmx:max M (a.est sts)=if a.est sts<M then M else a.est sts:=by split<;>omega
   rcases hk with rfl|rfl
   ·simp[bA,Pn.aW,Pn.aB,Ex.aB,Ex.aA e,Pn.aA a,Pn.aA b,i1,i2,e1,ALG,w1,w2,w3,hM]
   ·simp[bA,Pn.aW,Pn.aB,Ex.aB,Ex.aA e,Pn.aA a,Pn.aA b,i1,i2,e1,ALG,w1,w2,w3,hM,hmx]
  | union m a b h1 ha hb =>
   have hb':b.wd (stW sts) m≠0:=by rw[hb];exact ha
   have ra:=gZ hs a m ha;have rb:=gZ hs b m hb';have i1:=ih a (by simp[bY]) m ha;have i2:=ih b (by simp[bY]) m hb';have w1:IntKind.i64.wrap (a.est sts+b.est sts)=a.est sts+b.est sts:=wrO;rw[IQ];rw[aD rfl Tryz.func99 rfl rfl];rw[Pn.aA a]at i1;rw[Pn.aA b]at i2;simp[bY,Pn.aW,Pn.aB,Pn.aA a,Pn.aA b,i1,i2,ALG,w1]
  | dist m a h1 ha =>
   have i1:=ih a (by simp) m ha;rw[OB];rw[aD rfl Tryz.func99 rfl rfl];rw[Pn.aA a]at i1;simp[Pn.aW,Pn.aB,Pn.aA a,i1]
  | group m cs a h1 ha hc6 ho =>
   have i1:=ih a (by simp) m ha;rw[IR];rw[aD rfl Tryz.func99 rfl rfl];rw[Pn.aA a]at i1
   cases cs with
   | nil=>simp[Pn.aW,Pn.aB,Pn.aA a,i1,ALG,aG]
   | cons c1 cs =>
    have n0:¬ ((cs.length:Int)+1=0):=by omega
    simp[Pn.aW,Pn.aB,Pn.aA a,i1,aG,n0]
theorem Y6 {ws:List Int} {p:Pn} {lv:Nat} (h:p.wd ws lv≠0):p.kids=[]∨(∃ a,p.kids=[a]∧a.wd ws (lv-1)≠0)∨∃ a b,p.kids=[a,b]∧a.wd ws (lv-1)≠0∧b.wd ws (lv-1)≠0:=by
 have hk:∀ a∈p.kids,a.wd ws (lv-1)≠0:=fun a ha=>by
  obtain⟨k,t,es,cs,ks⟩:=p;exact XD h ha
 cases hks:p.kids with
 | nil=>exact .inl rfl
 | cons a r =>
  cases r with
  | nil=>exact .inr (.inl ⟨a,rfl,hk a (by rw[hks];simp)⟩)
  | cons b r =>
   have h2:=(MV h (by rw[hks];simp)).1;rw[hks]at h2;simp at h2
   have:r=[]:=by cases r with
    | nil=>rfl
    | cons c r=>simp at h2
   subst this;exact .inr (.inr ⟨a,b,rfl,hk a (by rw[hks];simp),hk b (by rw[hks];simp)⟩)
theorem rD {sts:List Sts} (hs:∀ s∈sts,s.ok=true):∀ (p:Pn) (lv:Nat),p.wd (stW sts) lv≠0→p.size<1000000 →
 aH C0 63 [.i (.agg p.cells), .i (.isl (oN sts))] []=some (.int (p.cst sts),[]):=by
 intro p
 induction p using Pn.ind with
 | h k t es cs ks ih =>
  intro lv h hsz;have e1:=QM hs _ lv h;have r1:=gZ hs _ lv h;have hk2:=Y6 h;have hce:=Pn.AL sts (.mk k t es cs ks);have hz:=Pn.size_eq (.mk k t es cs ks);generalize hp:Pn.mk k t es cs ks=p at *
  have hks:ks=p.kids:=by rw[← hp];rfl
  subst hks;rw[aD rfl Tryz.func63 rfl rfl,hce];rw[Pn.aA p]at e1 ⊢;have v1:=bN;have v2:IntKind.i64.wrap (2:Int)=2:=wrO
  rcases hk2 with hk|⟨a,hk,ha⟩|⟨a,b,hk,ha,hb⟩
  ·rw[hk]at e1 ⊢;simp only[Pn.EP,xR,Pn.aB]at e1 ⊢;simp[e1];rw[aF];simp
  ·rw[hk]at e1 hz ⊢;simp only[Pn.bG]at hz;have i1:=ih a (by rw[hk];simp) _ ha (by omega);have rc:=kE hs a _ ha;simp only[Pn.EP,xR];have w1:IntKind.i64.wrap (p.est sts+a.cst sts)=p.est sts+a.cst sts:=wrO;simp only[Pn.aB]at e1 ⊢;rw[Pn.aA a]at e1 i1 ⊢;simp[e1];rw[aF];simp[i1,v1,w1];rw[aF];simp
  ·rw[hk]at e1 hz ⊢;simp only[Pn.bG]at hz;have i1:=ih a (by rw[hk];simp) _ ha (by omega);have i2:=ih b (by rw[hk];simp) _ hb (by omega);have rc:=kE hs a _ ha;have rd:=kE hs b _ hb;simp only[Pn.EP,xR];have w1:IntKind.i64.wrap (p.est sts+a.cst sts)=p.est sts+a.cst sts:=wrO;have w2:IntKind.i64.wrap (p.est sts+a.cst sts+b.cst sts)=p.est sts+(a.cst sts+b.cst sts):=by rw[wrO];omega
   simp only[Pn.aB]at e1 ⊢;rw[Pn.aA a,Pn.aA b]at e1;rw[Pn.aA a]at i1;rw[Pn.aA b]at i2;rw[Pn.aA a,Pn.aA b];simp[e1];rw[aF];simp[i1,v1,w1];rw[aF];simp[i2,v2,w2];rw[aF];simp
def VDX (p:Pn) (sts:List Sts) (i:Nat):AS :=
 { env:=[(0, .i (.agg [.int p.kind, .int p.table, .isl (Ex.aB p.exprs), .isl (aG p.cols), .isl (Pn.aB p.kids)])),(1, .i (.isl (oN sts))),(2, .own 0 0),(4, .bool false),(5, .osl 1 1 0 i),(6, .int i),(11,jk i (.bool true)),(25,jk i (.bool false))],
   st:=[some (.box [.int p.kind, .int p.table, .i (.isl (Ex.aB p.exprs)), .i (.isl (aG p.cols)), .i (.isl (Pn.aB p.kids))]),some (.arr 1 (aG ((stW sts).take i)))] }
theorem BB (p:Pn) (hp:p.thin) (sts:List Sts) (hl:sts.length<1000000) (hd:∀ s∈sts,s.d.length<1000000000∧s.n.length<1000000000):aH C0 61 [.i (.agg p.cells), .i (.isl (oN sts))] []=some (.bool (KH sts p),[]):=by
 rw[aD rfl Tryz.func61 rfl rfl];have c2:=ZJ p (Pn.EF p hp) (stW sts) (by rw[gN];omega);have hnn:=(Pn.UQ (p:=p) (ws:=stW sts)).1;rw[Pn.aA p]at c2 ⊢;obtain⟨j,h1,h2⟩:=gB Sts.ok sts;simp;rw[aQ (VDX p sts) j (by simp[VDX,aG])]
 ·rw[aF]
  rcases h2 with ⟨hj,ha⟩|⟨s,h3,h3m,h5,ha⟩
  ·have e1:(stW sts).take sts.length=stW sts:=zY (by rw[gN];omega);have e2:(aG (stW sts)).take sts.length=aG (stW sts):=zY (by simp[gN]);have hq:KH sts p=decide (p.width (stW sts)≠0):=by unfold KH;rw[ha];rfl
   have hq2:decide (0<p.width (stW sts))=decide (p.width (stW sts)≠0):=by rw[decide_eq_decide];omega
   have hle:sts.length≤(stW sts).length:=by rw[gN];omega
   by_cases hz:sts.length=0
   ·have hs0:sts=[]:=zW.1 hz;subst hs0;simp only[stW,List.map_nil,aG]at c2 hq hq2;simp at hq2;simp[VDX,hj,stW,aG,c2,hq,hq2]
   ·simp only[VDX,hj,e1];simp[hz,hle,e1,e2,c2,hq,hq2]
  ·have q:=iG h3;have hil:=(zZ.1 h3).1;have v:=uS s (hd s h3m).1 (hd s h3m).2;rw[h5]at v;have hq:KH sts p=false:=by unfold KH;rw[ha];rfl
   simp[VDX,hil,q,v,hq]
 ·intro i hi;obtain⟨k,e1,e2,e3⟩:=h1 i hi;have q:=iG e1;have hil:=(zZ.1 e1).1;have v:=uS k (hd k e2).1 (hd k e2).2;rw[e3]at v;have hw:(stW sts)[i]?=some (k.d.length:Int):=by simp[stW,e1]
  have hT:=aL hw;have w3:IntKind.i64.wrap ((i:Int)+1)=i+1:=wrO;have hb:(i+1)*8≤140737488355328:=by omega
  have f1:((stW sts).take i).take i=(stW sts).take i:=by rw[zN,xA]
  have hmin:min i (stW sts).length=i:=by rw[gN];omega
  simp[VDX,hil,q,v,w3,hT,hb,f1,hmin,bZ,aG]
set_option maxHeartbeats 4000000
noncomputable def AEH:FuncId→Option (List AV→StL→Option (AV×StL))
 | 1000000007=>none
 | 4=>none
 | 20=>none
 | 57=>none
 | 21=>none
 | 22=>none
 | 95=>none
 | 96=>none
 | 23=>some (aH CS 23)
 | g=>AAQ g
noncomputable def CI:Ctx:={ P:=Tryz.prog,G:=GS,ownArgs:=AQ1,keepRes:=ANV,eqT:=JZ,prim:=AEH }
@[simp] theorem AnJ:CI.P=Tryz.prog:=(rfl)
@[simp] theorem AnK (f):CI.G f=GS f:=(rfl)
@[simp] theorem AnG (f):CI.ownArgs f=AQ1 f:=(rfl)
@[simp] theorem AnH (f):CI.keepRes f=(keepR f || decide (f=159)):=(rfl)
@[simp] theorem AnI (f):CI.eqT f=JZ f:=(rfl)
@[simp] theorem AnF:CI.tree=false:=(rfl)
theorem AS0:PrimOk CI:=by
 constructor
 ·intro g args st p h;unfold bX at h
  cases hq:CI.prim g with
  | none=>rw[hq]at h;cases h
  | some q =>
   rw[hq]at h;have hq:AEH g=some q:=hq;unfold AEH at hq;split at hq
   all_goals first
    | (cases hq;done)
    | (injection hq with hq;subst hq;exact(bS AKZ).name _ _ _ _ (by decide) h)
    | exact AL6.name g args st p (by unfold bX;rw[show CA.prim g=some q from hq];exact h)
 ·intro g args st r st' h w m φ vs hi hr hb;unfold bX at h
  cases hq:CI.prim g with
  | none=>rw[hq]at h;cases h
  | some q =>
   rw[hq]at h;have hq:AEH g=some q:=hq;unfold AEH at hq;split at hq
   all_goals first
    | (cases hq;done)
    | (injection hq with hq;subst hq;exact(bS AKZ).calls _ _ _ _ _ (by decide) h w m φ vs hi hr hb)
    | exact AL6.calls g args st r st' (by unfold bX;rw[show CA.prim g=some q from hq];exact h) w m φ vs hi hr hb
theorem ARD:SoundOk CI:=nO (C:=CI) ft nt eqS mo AS0
theorem DU (p:Pn) (ws:List Int) (r:Int) (path:List Int):aH CI 26 [.i (.agg p.cells), .i (.isl (aG ws)), .i (.agg [.int r, .isl (aG path)])] []=some (apR (apO p ws r path)):=by rw[aP (p:=DY) rfl];exact AGS p ws r path
@[simp] theorem AG6 (a:List AV) (st:StL):aH CI 23 a st=aH CS 23 a st:=by rw[aP (p:=aH CS 23) rfl]
@[simp] theorem AHF (a:List AV) (st:StL):aH CI 58 a st=aH C0 58 a st:=by rw[aP (p:=aH C0 58) rfl]
@[simp] theorem AT3 (a:List AV) (st:StL):aH CI 59 a st=aH C0 59 a st:=by rw[aP (p:=aH C0 59) rfl]
@[simp] theorem ALT (a:List AV) (st:StL):aH CI 93 a st=aH C0 93 a st:=by rw[aP (p:=aH C0 93) rfl]
@[simp] theorem ALQ (a:List AV) (st:StL):aH CI 70 a st=aH C0 70 a st:=by rw[aP (p:=aH C0 70) rfl]
@[simp] theorem AUR (a:List AV) (st:StL):aH CI 60 a st=aH C0 60 a st:=by rw[aP (p:=aH C0 60) rfl]
end Go.Proofs.YtjdfjgmebalaaaaGreat.P
namespace Go.Av
def ED (sts:List Sts) (ws:List Int) (p:Pn) (b:Bst) (s:Stp):Bool :=
 match apO p ws s.1 s.2 with
 | none=>false
 | some q=>decide (q.cst sts<b.c)
def fI (sts:List Sts) (ws:List Int) (p:Pn) (x:Bst×Bool) (s:Stp):Bst×Bool:=(I1 sts ws p x.1 s,x.2 || ED sts ws p x.1 s)
theorem AFG {sts:List Sts} {ws:List Int} {p:Pn} {b:Bst} {s:Stp} (h:ED sts ws p b s=false):I1 sts ws p b s=b:=by
 unfold ED at h;unfold I1
 cases ha:apO p ws s.1 s.2 with
 | none=>rfl
 | some q=>rw[ha]at h;simp only[x8]at h;simp only;rw[if_neg h]
theorem YA {sts:List Sts} {ws:List Int} {p:Pn} {b:Bst} {s:Stp} (h:ED sts ws p b s=true):(I1 sts ws p b s).s=s:=by
 unfold ED at h;unfold I1
 cases ha:apO p ws s.1 s.2 with
 | none=>rw[ha]at h;cases h
 | some q=>rw[ha]at h;simp only[zP]at h;simp only;rw[if_pos h]
theorem ABE {sts:List Sts} {ws:List Int} {p:Pn} {b:Bst} {c:Bool} {s:Stp} (h:ED sts ws p b s=false):fI sts ws p (b,c) s=(b,c):=by
 unfold fI;simp only[h,AFG h,Bool.or_false]
theorem M5 {sts:List Sts} {ws:List Int} {p:Pn} {b:Bst} {c:Bool} {s:Stp} (h:ED sts ws p b s=true):∃ b',fI sts ws p (b,c) s=(b',true)∧I1 sts ws p b s=b'∧b'.s=s:=by
 refine⟨_,?_,rfl,YA h⟩;unfold fI;simp only[h,Bool.or_true]
theorem AB (sts:List Sts) (ws:List Int) (p:Pn):∀ (l:List Stp) (b:Bst) (c:Bool),(l.foldl (fI sts ws p) (b,c)).1=l.foldl (I1 sts ws p) b
 | [],_,_=>rfl
 | s::l,b,c=>by simp only[xV];exact AB sts ws p l _ _
theorem IM (sts:List Sts) (ws:List Int) (p:Pn):∀ (l:List Stp) (b:Bst) {P:Stp→Prop},(∀ s∈l,P s)→P b.s→(l.foldl (fI sts ws p) (b,true)).2=true∧P (l.foldl (fI sts ws p) (b,true)).1.s
 | [],b,P,_,h=>⟨rfl,h⟩
 | s::l,b,P,hl,h=>by
  simp only[xV]
  cases hi:ED sts ws p b s with
  | false=>rw[ABE hi];exact IM sts ws p l b (fun x hx=>hl x (by simp[hx])) h
  | true =>
   obtain⟨b',e1,e2,e3⟩:=M5 (c:=true) hi;rw[e1];exact IM sts ws p l b' (fun x hx=>hl x (by simp[hx])) (by rw[e3];exact hl s (by simp))
theorem jD (sts:List Sts) (ws:List Int) (p:Pn):∀ (l:List Stp) (b:Bst) {P:Stp→Prop},(∀ s∈l,P s)→l.foldl (fI sts ws p) (b,false)=(b,false)∨∃ b',l.foldl (fI sts ws p) (b,false)=(b',true)∧P b'.s
 | [],b,P,_=>.inl rfl
 | s::l,b,P,hl=>by
  simp only[xV]
  cases hi:ED sts ws p b s with
  | false=>rw[ABE hi];exact jD sts ws p l b fun x hx=>hl x (by simp[hx])
  | true =>
   obtain⟨b',e1,e2,e3⟩:=M5 (c:=false) hi;rw[e1];obtain⟨k1,k2⟩:=IM sts ws p l b' (P:=P) (fun x hx=>hl x (by simp[hx])) (by rw[e3];exact hl s (by simp));exact .inr ⟨(l.foldl (fI sts ws p) (b',true)).1,Prod.ext rfl k1,k2⟩
def bsI (R:Rng) (cs:List AV) (pc:List IV) (sv wv:IV) (b:Bst) (ps:AV):StL :=
 [some (.loop R cs .ready),some (.fbox pc),some (.box [.i sv]),some (.box [.int b.c]),some (.box [.i wv]),some (.box [.int b.p.kind, .int b.p.table, .i (.isl (Ex.aB b.p.exprs)), .i (.isl (aG b.p.cols)), .i (.isl (Pn.aB b.p.kids))]),some (.box [.int b.s.1,ps])]
def SI (R:Rng) (cs:List AV) (pc:List IV) (sv wv:IV):Nat→List Int→Bst×Bool→StL
 | 0,_,x=>if x.1.s.2=[]then bsI R cs pc sv wv x.1 .nils else bsI R cs pc sv wv x.1 (.osl 7 1 0 x.1.s.2.length)++[some (.frz 1 (aG x.1.s.2))]
 | _,P0,(b,false)=>bsI R cs pc sv wv b (.osl 7 1 0 P0.length)++[some (.frz 1 (aG P0))]
 | _,P0,(b,true)=>bsI R cs pc sv wv b (.osl 8 1 0 b.s.2.length)++[some (.frz 1 (aG P0)),some (.frz 1 (aG b.s.2))]
end Go.Av
namespace Go.Proofs.YtjdfjgmebalaaaaGreat.P
open Go Go.Av
set_option maxRecDepth 4000
set_option maxHeartbeats 8000000
structure Yi (R:Rng) (cs:List AV) (pc:List IV) (sv wv:IV) (sts:List Sts) (ws:List Int) (p0:Pn):Prop where
 ids:cs=[.own 1 0, .own 2 0, .own 3 0, .own 4 0, .own 5 0, .own 6 0, .junk, .junk, .junk, .junk, .junk, .junk, .junk]
 z0:∀ (r:Int) (b b':Bst),b.s.2=[]→I1 sts ws p0 b (r,[])=b'→aH CI rH [.fn (.yield 0) [.own 0 0], .agg [.int r, .nils]] (bsI R cs pc sv wv b .nils)=some (.bool true,bsI R cs pc sv wv b' .nils)
 n0:∀ (r:Int) (path:List Int) (b:Bst),path≠[]→path.length≤8→b.s.2=[]→ED sts ws p0 b (r,path)=false→aH CI rH [.fn (.yield 0) [.own 0 0], .agg [.int r, .osl 7 1 0 path.length]] (bsI R cs pc sv wv b .nils++[some (.arr 1 (aG path))])=some (.bool true,bsI R cs pc sv wv b .nils++[some (.frz 1 (aG path))])
 y0:∀ (r:Int) (path:List Int) (b b':Bst),path≠[]→path.length≤8→b.s.2=[]→ED sts ws p0 b (r,path)=true→I1 sts ws p0 b (r,path)=b'→aH CI rH [.fn (.yield 0) [.own 0 0], .agg [.int r, .osl 7 1 0 path.length]] (bsI R cs pc sv wv b .nils++[some (.arr 1 (aG path))])=some (.bool true,bsI R cs pc sv wv b' (.osl 7 1 0 path.length)++[some (.frz 1 (aG path))])
 n1:∀ (r:Int) (path P0:List Int) (b:Bst),path≠[]→path.length≤8→ED sts ws p0 b (r,path)=false→aH CI rH [.fn (.yield 0) [.own 0 0], .agg [.int r, .osl 8 1 0 path.length]] (bsI R cs pc sv wv b (.osl 7 1 0 P0.length)++[some (.frz 1 (aG P0)),some (.arr 1 (aG path))])=some (.bool true,bsI R cs pc sv wv b (.osl 7 1 0 P0.length)++[some (.frz 1 (aG P0)),some (.frz 1 (aG path))])
 y1:∀ (r:Int) (path P0:List Int) (b b':Bst),path≠[]→path.length≤8→ED sts ws p0 b (r,path)=true→I1 sts ws p0 b (r,path)=b'→aH CI rH [.fn (.yield 0) [.own 0 0], .agg [.int r, .osl 8 1 0 path.length]] (bsI R cs pc sv wv b (.osl 7 1 0 P0.length)++[some (.frz 1 (aG P0)),some (.arr 1 (aG path))])=some (.bool true,bsI R cs pc sv wv b' (.osl 8 1 0 path.length)++[some (.frz 1 (aG P0)),some (.frz 1 (aG path))])
set_option maxHeartbeats 16000000
section
variable {sts:List Sts} {ws0:List Int} {p0:Pn} {R:Rng} {cs:List AV} {pc:List IV} {sv wv:IV}
def RIX (R:Rng) (cs:List AV) (pc:List IV) (sv wv:IV) (sts:List Sts) (ws0:List Int) (p0:Pn) (ws path:List Int) (p:Pn) (e:Nat) (P0:List Int) (b:Bst) (i:Nat):AS :=
 { env:=[(0, .i (.iref [.int p.kind, .int p.table, .isl (Ex.aB p.exprs), .isl (aG p.cols), .isl (Pn.aB p.kids)])),(1, .i (.isl (aG ws))),(2, .i (.isl (aG path))),(3, .fn (.yield 0) [.own 0 0]),(8, .bool false),(9, .int ((i:Int)+1)),(11,jk i (.bool (rwL ws (i:Int) (8-path.length) p).isSome)),(12, .junk),(14,jk i (.bool true)),(28,jk i (.bool (!(rwL ws (i:Int) (8-path.length) p).isSome))),(35,jk (AR ws path p i).length (.bool false)),(40, .junk),(41, .junk),(42, .junk),(58, .junk)],
   st:=SI R cs pc sv wv e P0 ((AR ws path p i).foldl (fI sts ws0 p0) (b,false)) }
def KIX (R:Rng) (cs:List AV) (pc:List IV) (sv wv:IV) (sts:List Sts) (ws0:List Int) (p0:Pn) (ws path:List Int) (p:Pn) (e:Nat) (P0:List Int) (b:Bst) (i:Nat):AS :=
 { env:=[(0, .i (.iref [.int p.kind, .int p.table, .isl (Ex.aB p.exprs), .isl (aG p.cols), .isl (Pn.aB p.kids)])),(1, .i (.isl (aG ws))),(2, .i (.isl (aG path))),(3, .fn (.yield 0) [.own 0 0]),(8, .bool false),(9, .int 12),(11, .bool (rwL ws 11 (8-path.length) p).isSome),(12,jk i (.int (i-1))),(14, .bool false),(28, .bool (!(rwL ws 11 (8-path.length) p).isSome)),(35,jk (AR ws path p 11).length (.bool false)),(40, .int p.kids.length),(41, .int i),(42,jk i (.bool true)),(58,jk i (.bool false))],
   st:=SI R cs pc sv wv e P0 ((AR ws path p 11++oP ws path 0 (p.kids.take i)).foldl (fI sts ws0 p0) (b,false)) }
theorem TQ (hY:Yi R cs pc sv wv sts ws0 p0) {ws:List Int} (hw:jS ws=true):∀ (p:Pn) (path:List Int) (e:Nat) (P0:List Int) (b:Bst),path.length≤8→p.wd ws (8-path.length)≠0→(e=0∧b.s.2=[]∨e=1∧P0=b.s.2∧b.s.2≠[]∧path≠[]) →
 aH CI 96 [.i (.iref p.cells), .i (.isl (aG ws)), .i (.isl (aG path)), .fn (.yield 0) [.own 0 0]] (SI R cs pc sv wv e P0 (b,false))=some (.bool true,SI R cs pc sv wv e P0 ((stI ws path p).foldl (fI sts ws0 p0) (b,false))):=by
 obtain⟨rfl,z0,n0,y0,n1,y1⟩:=hY;intro p
 induction p using Pn.ind with
 | h k t es cols ks ih =>
  intro path e P0 b hl hp he;have hp8:(Pn.mk k t es cols ks).wd ws 8≠0:=by rw[Pn.iQ _ _ 8 hp (by omega)];exact hp
  have hkids:=fun h=>MV (p:=.mk k t es cols ks) (lv:=8-path.length) hp h
  have hacc:=V5 ws path (.mk k t es cols ks);generalize hpe:Pn.mk k t es cols ks=p at *
  have hks:ks=p.kids:=by rw[← hpe];rfl
  subst hks
  obtain⟨lv,hlv⟩:∃ lv:Nat,8-path.length=lv:=⟨_,rfl⟩
  have hw8:IntKind.i64.wrap (8-(path.length:Int))=(lv:Int):=by rw[wrO];omega
  have hr:=fun r=>sF hw hp8 r (lv:=lv) (by omega)
  have hcp:=ABQ path;have hmem:=fun i=>jD sts ws0 p0 (AR ws path p i) b (P:=fun s=>s.2=path) fun s h=>P9 h
  rw[hacc,aD rfl Tryz.func96 rfl rfl,Pn.aA];generalize hxe:(AR ws path p 11++oP ws path 0 p.kids).foldl (fI sts ws0 p0) (b,false)=xe;rw[Pn.aA p]at hr
  rcases he with ⟨rfl,hb0⟩|⟨rfl,rfl,hb0,hpath⟩
  ·simp[SI,hb0,bsI];rw[aQ (RIX R [.own 1 0, .own 2 0, .own 3 0, .own 4 0, .own 5 0, .own 6 0, .junk, .junk, .junk, .junk, .junk, .junk, .junk] pc sv wv sts ws0 p0 ws path p 0 P0 b) 11 (by simp[RIX,SI,bsI,hb0,AR])]
   ·rw[aF];have hxy:∀ (l:List Stp) (b:Bst) (c:Bool),(l.foldl (fI sts ws0 p0) (b,c)).1=(l.foldl (fI sts ws0 p0) (b,false)).1:=fun l b c=>by rw[AB,AB]
    have hkid:∀ (i:Nat) (a:Pn),p.kids[i]?=some a→p.kids.length≤2∧∀ (e:Nat) (P0:List Int) (b:Bst),(e=0∧b.s.2=[]∨e=1∧P0=b.s.2∧b.s.2≠[])→aH CI 96 [.i (.iref a.cells), .i (.isl (aG ws)), .i (.isl (aG path++[[.int i]])), .fn (.yield 0) [.own 0 0]] (SI R [.own 1 0, .own 2 0, .own 3 0, .own 4 0, .own 5 0, .own 6 0, .junk, .junk, .junk, .junk, .junk, .junk, .junk] pc sv wv e P0 (b,false))=some (.bool true,SI R [.own 1 0, .own 2 0, .own 3 0, .own 4 0, .own 5 0, .own 6 0, .junk, .junk, .junk, .junk, .junk, .junk, .junk] pc sv wv e P0 ((stI ws (path++[(i:Int)]) a).foldl (fI sts ws0 p0) (b,false))):=fun i a ha=>by
     have hm:=zV ha;obtain⟨hk2,hlv0,hkw⟩:=hkids (by intro h;rw[h]at hm;simp at hm);have hpl:(path++[(i:Int)]).length=path.length+1:=by simp
     refine⟨hk2,fun e P0 b he=>?_⟩
     have:=ih a hm (path++[(i:Int)]) e P0 b (by omega) (by rw[hpl,show 8-(path.length+1)=8-path.length-1 by omega];exact hkw a hm) (by
      rcases he with he|⟨h1,h2,h3⟩
      ·exact .inl he
      ·exact .inr ⟨h1,h2,h3,by simp⟩)
     rw[kM]at this;exact this
    have hl1:path.length<8→(path.length+1)*8≤140737488355328:=by omega
    have hl1':(path.length+1)*8≤140737488355328:=by omega
    have ht1:∀ i:Nat,List.take (path.length+1) (aG path++[[.int (i:Int)]])=aG path++[[.int i]]:=fun i=>zY (by simp)
    simp only[RIX];generalize hx0:(AR ws path p 11).foldl (fI sts ws0 p0) (b,false)=x0;obtain⟨bx,cx⟩:=x0;by_cases hs2:bx.s.2=[]
    ·simp[SI,bsI,hs2];rw[aQ (KIX R [.own 1 0, .own 2 0, .own 3 0, .own 4 0, .own 5 0, .own 6 0, .junk, .junk, .junk, .junk, .junk, .junk, .junk] pc sv wv sts ws0 p0 ws path p 0 P0 b) p.kids.length (by simp[KIX,SI,bsI,hx0,hs2,oP])]
     ·rw[aF];simp only[KIX,xY,hxe];by_cases hse:xe.1.s.2=[]
      ·simp[SI,bsI,hse]
      ·simp[SI,bsI,hse]
     ·intro i hi;have h3:=zX hi;generalize p.kids[i]=a at h3;have r2:=Pn.aO h3;have hsn:=wS ws path h3;obtain⟨hk2,hk⟩:=hkid i a h3;have w2:IntKind.i64.wrap ((i:Int)+1)=i+1:=wrO;simp only[KIX,hsn];generalize hx:(AR ws path p 11++oP ws path 0 (p.kids.take i)).foldl (fI sts ws0 p0) (b,false)=x;have hfe:(AR ws path p 11++(oP ws path 0 (p.kids.take i)++stI ws (path++[(i:Int)]) a)).foldl (fI sts ws0 p0) (b,false)=(stI ws (path++[(i:Int)]) a).foldl (fI sts ws0 p0) x:=by rw[← List.append_assoc,yN,hx]
      rw[hfe];obtain⟨bx,cx⟩:=x;have hz:=hxy (stI ws (path++[(i:Int)]) a) bx cx
      have hpos:∀ s∈stI ws (path++[(i:Int)]) a,s.2≠[]:=fun s hs=>by
       obtain⟨r,hr⟩:=FJ ws a _ s hs;rw[hr];simp
      have hcs:=jD sts ws0 p0 (stI ws (path++[(i:Int)]) a) bx (P:=fun s=>s.2≠[]) hpos;generalize (stI ws (path++[(i:Int)]) a).foldl (fI sts ws0 p0) (bx,cx)=z at hz;obtain⟨bz,cz⟩:=z;simp only at hz;rw[Pn.aA a]at r2 hk;by_cases hs2:bx.s.2=[]
      ·have hk:=hk 0 [] bx (.inl ⟨rfl,hs2⟩)
       rcases hcs with hcs|⟨b',hcs,hb'⟩
       ·rw[hcs]at hk hz;simp only at hz;subst hz;simp[SI,bsI,hs2]at hk
        rcases hcp with rfl|hcp
        ·simp[aG]at hk;simp[SI,bsI,hs2,hi,r2,w2,fF,hk,aG]
        ·have hc:=fO hcp (by omega);simp[SI,bsI,hs2,hi,r2,w2,hc,hk,aG,hl1',ht1]
       ·rw[hcs]at hk hz;simp only at hz;subst hz;simp[SI,bsI,hs2,hb']at hk
        rcases hcp with rfl|hcp
        ·simp[aG]at hk;simp[SI,bsI,hs2,hb',hi,r2,w2,fF,hk,aG]
        ·have hc:=fO hcp (by omega);simp[SI,bsI,hs2,hb',hi,r2,w2,hc,hk,aG,hl1',ht1]
      ·have hk:=hk 1 bx.s.2 bx (.inr ⟨rfl,rfl,hs2⟩)
       rcases hcs with hcs|⟨b',hcs,hb'⟩
       ·rw[hcs]at hk hz;simp only at hz;subst hz;simp[SI,bsI]at hk
        rcases hcp with rfl|hcp
        ·simp[aG]at hk;simp[SI,bsI,hs2,hi,r2,w2,fF,hk,aG]
        ·have hc:=fO hcp (by omega);simp[SI,bsI,hs2,hi,r2,w2,hc,hk,aG,hl1',ht1]
       ·rw[hcs]at hk hz;simp only at hz;subst hz;simp[SI,bsI]at hk
        rcases hcp with rfl|hcp
        ·simp[aG]at hk;simp[SI,bsI,hs2,hb',hi,r2,w2,fF,hk,aG]
        ·have hc:=fO hcp (by omega);simp[SI,bsI,hs2,hb',hi,r2,w2,hc,hk,aG,hl1',ht1]
    ·simp[SI,bsI,hs2];rw[aQ (KIX R [.own 1 0, .own 2 0, .own 3 0, .own 4 0, .own 5 0, .own 6 0, .junk, .junk, .junk, .junk, .junk, .junk, .junk] pc sv wv sts ws0 p0 ws path p 0 P0 b) p.kids.length (by simp[KIX,SI,bsI,hx0,hs2,oP])]
     ·rw[aF];simp only[KIX,xY,hxe];by_cases hse:xe.1.s.2=[]
      ·simp[SI,bsI,hse]
      ·simp[SI,bsI,hse]
     ·intro i hi;have h3:=zX hi;generalize p.kids[i]=a at h3;have r2:=Pn.aO h3;have hsn:=wS ws path h3;obtain⟨hk2,hk⟩:=hkid i a h3;have w2:IntKind.i64.wrap ((i:Int)+1)=i+1:=wrO;simp only[KIX,hsn];generalize hx:(AR ws path p 11++oP ws path 0 (p.kids.take i)).foldl (fI sts ws0 p0) (b,false)=x;have hfe:(AR ws path p 11++(oP ws path 0 (p.kids.take i)++stI ws (path++[(i:Int)]) a)).foldl (fI sts ws0 p0) (b,false)=(stI ws (path++[(i:Int)]) a).foldl (fI sts ws0 p0) x:=by rw[← List.append_assoc,yN,hx]
      rw[hfe];obtain⟨bx,cx⟩:=x;have hz:=hxy (stI ws (path++[(i:Int)]) a) bx cx
      have hpos:∀ s∈stI ws (path++[(i:Int)]) a,s.2≠[]:=fun s hs=>by
       obtain⟨r,hr⟩:=FJ ws a _ s hs;rw[hr];simp
      have hcs:=jD sts ws0 p0 (stI ws (path++[(i:Int)]) a) bx (P:=fun s=>s.2≠[]) hpos;generalize (stI ws (path++[(i:Int)]) a).foldl (fI sts ws0 p0) (bx,cx)=z at hz;obtain⟨bz,cz⟩:=z;simp only at hz;rw[Pn.aA a]at r2 hk;by_cases hs2:bx.s.2=[]
      ·have hk:=hk 0 [] bx (.inl ⟨rfl,hs2⟩)
       rcases hcs with hcs|⟨b',hcs,hb'⟩
       ·rw[hcs]at hk hz;simp only at hz;subst hz;simp[SI,bsI,hs2]at hk
        rcases hcp with rfl|hcp
        ·simp[aG]at hk;simp[SI,bsI,hs2,hi,r2,w2,fF,hk,aG]
        ·have hc:=fO hcp (by omega);simp[SI,bsI,hs2,hi,r2,w2,hc,hk,aG,hl1',ht1]
       ·rw[hcs]at hk hz;simp only at hz;subst hz;simp[SI,bsI,hs2,hb']at hk
        rcases hcp with rfl|hcp
        ·simp[aG]at hk;simp[SI,bsI,hs2,hb',hi,r2,w2,fF,hk,aG]
        ·have hc:=fO hcp (by omega);simp[SI,bsI,hs2,hb',hi,r2,w2,hc,hk,aG,hl1',ht1]
      ·have hk:=hk 1 bx.s.2 bx (.inr ⟨rfl,rfl,hs2⟩)
       rcases hcs with hcs|⟨b',hcs,hb'⟩
       ·rw[hcs]at hk hz;simp only at hz;subst hz;simp[SI,bsI]at hk
        rcases hcp with rfl|hcp
        ·simp[aG]at hk;simp[SI,bsI,hs2,hi,r2,w2,fF,hk,aG]
        ·have hc:=fO hcp (by omega);simp[SI,bsI,hs2,hi,r2,w2,hc,hk,aG,hl1',ht1]
       ·rw[hcs]at hk hz;simp only at hz;subst hz;simp[SI,bsI]at hk
        rcases hcp with rfl|hcp
        ·simp[aG]at hk;simp[SI,bsI,hs2,hb',hi,r2,w2,fF,hk,aG]
        ·have hc:=fO hcp (by omega);simp[SI,bsI,hs2,hb',hi,r2,w2,hc,hk,aG,hl1',ht1]
   ·intro i hi;have hs:=UH (ws:=ws) (path:=path) (p:=p) (i:=i) (by omega);have w2:IntKind.i64.wrap ((i:Int)+1+1)=i+1+1:=wrO;have hi11:(i:Int)+1≤11:=by omega
    have hr1:=hr ((i:Int)+1);have hmi:=hmem i;rw[hlv]at hs
    cases hb:(rwL ws ((i:Int)+1) lv p).isSome with
    | false =>
     rw[hb]at hs hr1;simp at hs;simp only[RIX,hs]
     rcases hmi with hmi|⟨b1,hmi,hbp⟩
     ·rw[hmi];simp[SI,bsI,hb0,hr1,hw8,w2,hi11,hlv,hb]
     ·rw[hmi]
      rcases hcp with rfl|hcp
      ·obtain rfl:lv=8:=by simpa using hlv.symm
       simp at hw8;rw[show((8:Nat):Int)=8 from rfl]at hr1;simp[SI,bsI,hbp,hr1,hw8,w2,hi11,hb,aG]
      ·simp[SI,bsI,hbp,hcp,hr1,hw8,w2,hi11,hlv,hb]
    | true =>
     rw[hb]at hs hr1;simp at hs;simp only[RIX,hs,yN,xV,List.foldl_nil]
     rcases hcp with rfl|hcp
     ·have hc:=fF;obtain rfl:lv=8:=by simpa using hlv.symm
      simp at hw8;rw[show((8:Nat):Int)=8 from rfl]at hr1
      obtain⟨bx,cx,hx,hbx⟩:∃ bx cx,(AR ws [] p i).foldl (fI sts ws0 p0) (b,false)=(bx,cx)∧bx.s.2=[]:=by
       rcases hmi with hmi|⟨b1,hmi,hbp⟩
       ·exact⟨_,_,hmi,hb0⟩
       ·exact⟨_,_,hmi,hbp⟩
      rw[hx];have hy:=z0 ((i:Int)+1) bx _ hbx rfl
      have hz:(I1 sts ws0 p0 bx ((i:Int)+1,[])).s.2=[]:=by
       cases hi:ED sts ws0 p0 bx ((i:Int)+1,[])with
       | false=>rw[AFG hi];exact hbx
       | true=>rw[YA hi]
      simp only[fI];generalize I1 sts ws0 p0 bx ((i:Int)+1,[])=b2 at hy hz;simp[bsI]at hy;simp[SI,bsI,hbx,hz,hr1,hw8,w2,hi11,hb,hc,hy,aG]
     ·have hc:=fO hcp (by omega)
      rcases hmi with hmi|⟨b1,hmi,hbp⟩
      ·rw[hmi]
       cases hi:ED sts ws0 p0 b ((i:Int)+1,path)with
       | false =>
        rw[ABE hi];have hy:=n0 _ path b hcp hl hb0 hi;simp[bsI]at hy;simp[SI,bsI,hb0,hr1,hw8,w2,hi11,hlv,hb,hc,hy]
       | true =>
        obtain⟨b',f1,f2,f3⟩:=M5 (c:=false) hi;rw[f1];have hy:=y0 _ path b b' hcp hl hb0 hi f2;have f4:b'.s.2=path:=by rw[f3]
        simp[bsI]at hy;simp[SI,bsI,hb0,f4,hcp,hr1,hw8,w2,hi11,hlv,hb,hc,hy]
      ·rw[hmi]
       cases hi:ED sts ws0 p0 b1 ((i:Int)+1,path)with
       | false =>
        rw[ABE hi];have hy:=n1 _ path path b1 hcp hl hi;simp[bsI]at hy;simp[SI,bsI,hbp,hcp,hr1,hw8,w2,hi11,hlv,hb,hc,hy]
       | true =>
        obtain⟨b',f1,f2,f3⟩:=M5 (c:=true) hi;rw[f1];have hy:=y1 _ path path b1 b' hcp hl hi f2;have f4:b'.s.2=path:=by rw[f3]
        simp[bsI]at hy;simp[SI,bsI,hbp,f4,hcp,hr1,hw8,w2,hi11,hlv,hb,hc,hy]
  ·have hc:=fO hpath (by omega);simp[SI,bsI];rw[aQ (RIX R [.own 1 0, .own 2 0, .own 3 0, .own 4 0, .own 5 0, .own 6 0, .junk, .junk, .junk, .junk, .junk, .junk, .junk] pc sv wv sts ws0 p0 ws path p 1 b.s.2 b) 11 (by simp[RIX,SI,bsI,AR])]
   ·rw[aF];have hxy:∀ (l:List Stp) (b:Bst) (c:Bool),(l.foldl (fI sts ws0 p0) (b,c)).1=(l.foldl (fI sts ws0 p0) (b,false)).1:=fun l b c=>by rw[AB,AB]
    have hkid:∀ (i:Nat) (a:Pn),p.kids[i]?=some a→p.kids.length≤2∧∀ (e:Nat) (P0:List Int) (b:Bst),(e=0∧b.s.2=[]∨e=1∧P0=b.s.2∧b.s.2≠[])→aH CI 96 [.i (.iref a.cells), .i (.isl (aG ws)), .i (.isl (aG path++[[.int i]])), .fn (.yield 0) [.own 0 0]] (SI R [.own 1 0, .own 2 0, .own 3 0, .own 4 0, .own 5 0, .own 6 0, .junk, .junk, .junk, .junk, .junk, .junk, .junk] pc sv wv e P0 (b,false))=some (.bool true,SI R [.own 1 0, .own 2 0, .own 3 0, .own 4 0, .own 5 0, .own 6 0, .junk, .junk, .junk, .junk, .junk, .junk, .junk] pc sv wv e P0 ((stI ws (path++[(i:Int)]) a).foldl (fI sts ws0 p0) (b,false))):=fun i a ha=>by
     have hm:=zV ha;obtain⟨hk2,hlv0,hkw⟩:=hkids (by intro h;rw[h]at hm;simp at hm);have hpl:(path++[(i:Int)]).length=path.length+1:=by simp
     refine⟨hk2,fun e P0 b he=>?_⟩
     have:=ih a hm (path++[(i:Int)]) e P0 b (by omega) (by rw[hpl,show 8-(path.length+1)=8-path.length-1 by omega];exact hkw a hm) (by
      rcases he with he|⟨h1,h2,h3⟩
      ·exact .inl he
      ·exact .inr ⟨h1,h2,h3,by simp⟩)
     rw[kM]at this;exact this
    have hl1:path.length<8→(path.length+1)*8≤140737488355328:=by omega
    have hl1':(path.length+1)*8≤140737488355328:=by omega
    have ht1:∀ i:Nat,List.take (path.length+1) (aG path++[[.int (i:Int)]])=aG path++[[.int i]]:=fun i=>zY (by simp)
    have hpath2:∀ i,∀ s∈AR ws path p 11++oP ws path 0 (p.kids.take i),s.2≠[]:=fun i s hs=>by
     rcases zT.1 hs with hs|hs
     ·rw[P9 hs];exact hpath
     ·obtain⟨j,r,_,hr⟩:=NA ws _ _ _ s hs;rw[hr];simp
    simp only[RIX]
    rcases hmem 11 with hx0|⟨b1,hx0,hbp⟩
    ·rw[hx0];simp[SI,bsI];rw[aQ (KIX R [.own 1 0, .own 2 0, .own 3 0, .own 4 0, .own 5 0, .own 6 0, .junk, .junk, .junk, .junk, .junk, .junk, .junk] pc sv wv sts ws0 p0 ws path p 1 b.s.2 b) p.kids.length (by simp[KIX,SI,bsI,hx0,oP])]
     ·rw[aF];simp only[KIX,xY,hxe];obtain⟨bf,cf⟩:=xe
      cases cf
      ·simp[SI,bsI]
      ·simp[SI,bsI]
     ·intro i hi;have h3:=zX hi;generalize p.kids[i]=a at h3;have r2:=Pn.aO h3;have hsn:=wS ws path h3;obtain⟨hk2,hk⟩:=hkid i a h3;have w2:IntKind.i64.wrap ((i:Int)+1)=i+1:=wrO;simp only[KIX,hsn];have hcx:=jD sts ws0 p0 (AR ws path p 11++oP ws path 0 (p.kids.take i)) b (P:=fun s=>s.2≠[]) (hpath2 i);generalize hx:(AR ws path p 11++oP ws path 0 (p.kids.take i)).foldl (fI sts ws0 p0) (b,false)=x at hcx;have hfe:(AR ws path p 11++(oP ws path 0 (p.kids.take i)++stI ws (path++[(i:Int)]) a)).foldl (fI sts ws0 p0) (b,false)=(stI ws (path++[(i:Int)]) a).foldl (fI sts ws0 p0) x:=by rw[← List.append_assoc,yN,hx]
      rw[hfe];clear hfe hx
      have hpos:∀ s∈stI ws (path++[(i:Int)]) a,s.2≠[]:=fun s hs=>by
       obtain⟨r,hr⟩:=FJ ws a _ s hs;rw[hr];simp
      rw[Pn.aA a]at r2 hk
      rcases hcx with rfl|⟨b1,rfl,hb1⟩
      ·have hk:=hk 1 b.s.2 b (.inr ⟨rfl,rfl,hb0⟩)
       rcases jD sts ws0 p0 (stI ws (path++[(i:Int)]) a) b (P:=fun s=>s.2≠[]) hpos with hcs|⟨b',hcs,hb'⟩
       ·rw[hcs]at hk ⊢;simp[SI,bsI]at hk;simp[SI,bsI,hi,r2,w2,hc,hk,aG,hl1',ht1]
       ·rw[hcs]at hk ⊢;simp[SI,bsI]at hk;simp[SI,bsI,hi,r2,w2,hc,hk,aG,hl1',ht1]
      ·have hk:=hk 1 b1.s.2 b1 (.inr ⟨rfl,rfl,hb1⟩);have hz:=hxy (stI ws (path++[(i:Int)]) a) b1 true;have hz2:=(IM sts ws0 p0 (stI ws (path++[(i:Int)]) a) b1 (P:=fun s=>s.2≠[]) hpos hb1).1;generalize (stI ws (path++[(i:Int)]) a).foldl (fI sts ws0 p0) (b1,true)=z at hz hz2;obtain⟨bz,cz⟩:=z;simp only at hz hz2;subst hz2
       rcases jD sts ws0 p0 (stI ws (path++[(i:Int)]) a) b1 (P:=fun s=>s.2≠[]) hpos with hcs|⟨b',hcs,hb'⟩
       ·rw[hcs]at hk hz;simp only at hz;subst hz;simp[SI,bsI]at hk;simp[SI,bsI,hi,r2,w2,hc,hk,aG,hl1',ht1]
       ·rw[hcs]at hk hz;simp only at hz;subst hz;simp[SI,bsI]at hk;simp[SI,bsI,hi,r2,w2,hc,hk,aG,hl1',ht1]
    ·rw[hx0];simp[SI,bsI];rw[aQ (KIX R [.own 1 0, .own 2 0, .own 3 0, .own 4 0, .own 5 0, .own 6 0, .junk, .junk, .junk, .junk, .junk, .junk, .junk] pc sv wv sts ws0 p0 ws path p 1 b.s.2 b) p.kids.length (by simp[KIX,SI,bsI,hx0,oP])]
     ·rw[aF];simp only[KIX,xY,hxe];obtain⟨bf,cf⟩:=xe
      cases cf
      ·simp[SI,bsI]
      ·simp[SI,bsI]
     ·intro i hi;have h3:=zX hi;generalize p.kids[i]=a at h3;have r2:=Pn.aO h3;have hsn:=wS ws path h3;obtain⟨hk2,hk⟩:=hkid i a h3;have w2:IntKind.i64.wrap ((i:Int)+1)=i+1:=wrO;simp only[KIX,hsn];have hcx:=jD sts ws0 p0 (AR ws path p 11++oP ws path 0 (p.kids.take i)) b (P:=fun s=>s.2≠[]) (hpath2 i);generalize hx:(AR ws path p 11++oP ws path 0 (p.kids.take i)).foldl (fI sts ws0 p0) (b,false)=x at hcx;have hfe:(AR ws path p 11++(oP ws path 0 (p.kids.take i)++stI ws (path++[(i:Int)]) a)).foldl (fI sts ws0 p0) (b,false)=(stI ws (path++[(i:Int)]) a).foldl (fI sts ws0 p0) x:=by rw[← List.append_assoc,yN,hx]
      rw[hfe];clear hfe hx
      have hpos:∀ s∈stI ws (path++[(i:Int)]) a,s.2≠[]:=fun s hs=>by
       obtain⟨r,hr⟩:=FJ ws a _ s hs;rw[hr];simp
      rw[Pn.aA a]at r2 hk
      rcases hcx with rfl|⟨b1,rfl,hb1⟩
      ·have hk:=hk 1 b.s.2 b (.inr ⟨rfl,rfl,hb0⟩)
       rcases jD sts ws0 p0 (stI ws (path++[(i:Int)]) a) b (P:=fun s=>s.2≠[]) hpos with hcs|⟨b',hcs,hb'⟩
       ·rw[hcs]at hk ⊢;simp[SI,bsI]at hk;simp[SI,bsI,hi,r2,w2,hc,hk,aG,hl1',ht1]
       ·rw[hcs]at hk ⊢;simp[SI,bsI]at hk;simp[SI,bsI,hi,r2,w2,hc,hk,aG,hl1',ht1]
      ·have hk:=hk 1 b1.s.2 b1 (.inr ⟨rfl,rfl,hb1⟩);have hz:=hxy (stI ws (path++[(i:Int)]) a) b1 true;have hz2:=(IM sts ws0 p0 (stI ws (path++[(i:Int)]) a) b1 (P:=fun s=>s.2≠[]) hpos hb1).1;generalize (stI ws (path++[(i:Int)]) a).foldl (fI sts ws0 p0) (b1,true)=z at hz hz2;obtain⟨bz,cz⟩:=z;simp only at hz hz2;subst hz2
       rcases jD sts ws0 p0 (stI ws (path++[(i:Int)]) a) b1 (P:=fun s=>s.2≠[]) hpos with hcs|⟨b',hcs,hb'⟩
       ·rw[hcs]at hk hz;simp only at hz;subst hz;simp[SI,bsI]at hk;simp[SI,bsI,hi,r2,w2,hc,hk,aG,hl1',ht1]
       ·rw[hcs]at hk hz;simp only at hz;subst hz;simp[SI,bsI]at hk;simp[SI,bsI,hi,r2,w2,hc,hk,aG,hl1',ht1]
   ·intro i hi;have hs:=UH (ws:=ws) (path:=path) (p:=p) (i:=i) (by omega);have w2:IntKind.i64.wrap ((i:Int)+1+1)=i+1+1:=wrO;have hi11:(i:Int)+1≤11:=by omega
    have hr1:=hr ((i:Int)+1);have hmi:=hmem i;rw[hlv]at hs
    cases hb:(rwL ws ((i:Int)+1) lv p).isSome with
    | false =>
     rw[hb]at hs hr1;simp at hs;simp only[RIX,hs]
     rcases hmi with hmi|⟨b1,hmi,hbp⟩
     ·rw[hmi];simp[SI,bsI,hr1,hw8,w2,hi11,hlv,hb]
     ·rw[hmi];simp[SI,bsI,hbp,hpath,hr1,hw8,w2,hi11,hlv,hb]
    | true =>
     rw[hb]at hs hr1;simp at hs;simp only[RIX,hs,yN,xV,List.foldl_nil]
     rcases hmi with hmi|⟨b1,hmi,hbp⟩
     ·rw[hmi]
      cases hi:ED sts ws0 p0 b ((i:Int)+1,path)with
      | false =>
       rw[ABE hi];have hy:=n1 _ path b.s.2 b hpath hl hi;simp[bsI]at hy;simp[SI,bsI,hr1,hw8,w2,hi11,hlv,hb,hc,hy]
      | true =>
       obtain⟨b',f1,f2,f3⟩:=M5 (c:=false) hi;rw[f1];have hy:=y1 _ path b.s.2 b b' hpath hl hi f2;have f4:b'.s.2=path:=by rw[f3]
       simp[bsI]at hy;simp[SI,bsI,f4,hpath,hr1,hw8,w2,hi11,hlv,hb,hc,hy]
     ·rw[hmi]
      cases hi:ED sts ws0 p0 b1 ((i:Int)+1,path)with
      | false =>
       rw[ABE hi];have hy:=n1 _ path path b1 hpath hl hi;simp[bsI]at hy;simp[SI,bsI,hbp,hpath,hr1,hw8,w2,hi11,hlv,hb,hc,hy]
      | true =>
       obtain⟨b',f1,f2,f3⟩:=M5 (c:=true) hi;rw[f1];have hy:=y1 _ path path b1 b' hpath hl hi f2;have f4:b'.s.2=path:=by rw[f3]
       simp[bsI]at hy;simp[SI,bsI,hbp,f4,hpath,hr1,hw8,w2,hi11,hlv,hb,hc,hy]
end
end Go.Proofs.YtjdfjgmebalaaaaGreat.P
namespace Go.Av
def imR (sts:List Sts) (p:Pn):AV×StL :=
 if KH sts p=true then(.tup [.i (.agg (AFF sts p (stI (stW sts) [] p)).p.cells), .i (.agg [.int (AFF sts p (stI (stW sts) [] p)).s.1, .isl (aG (AFF sts p (stI (stW sts) [] p)).s.2)])],[])
 else(.tup [.i (.agg Pn.zero.cells), .i (.agg [.int 0, .isl []])],[])
end Go.Av
namespace Go.Proofs.YtjdfjgmebalaaaaGreat.P
open Go Go.Av
set_option maxRecDepth 4000
set_option maxHeartbeats 16000000
theorem ZZ {sts:List Sts} {p0:Pn} {R:Rng} {cs:List AV} {pc:List IV} {sv wv:IV} (hY:Yi R cs pc sv wv sts (stW sts) p0) {ws:List Int} (hw:jS ws=true) {p:Pn} (hp:p.wd ws 8≠0) (b:Bst) (hb:b.s.2=[]) :
 aH CI 95 [.fn (.yield 0) [.own 0 0], .own 7 0, .own 8 0] (bsI R cs pc sv wv b .nils++[some (.box [.i (.iref p.cells)]),some (.box [.i (.isl (aG ws))])]) =
 (fun b':Bst=>some (.tup [],if b'.s.2=[]then bsI R cs pc sv wv b' .nils++[some (.box [.i (.iref p.cells)]),some (.box [.i (.isl (aG ws))])]else bsI R cs pc sv wv b' (.osl 9 1 0 b'.s.2.length)++[some (.box [.i (.iref p.cells)]),some (.box [.i (.isl (aG ws))]),some (.frz 1 (aG b'.s.2))])) ((stI ws [] p).foldl (I1 sts (stW sts) p0) b):=by
 have h:=TQ hY hw p [] 0 [] b (by simp) (by simpa using hp) (.inl ⟨rfl,hb⟩);have hf:=AB sts (stW sts) p0 (stI ws [] p) b false;obtain⟨rfl,_⟩:=hY;rw[aD rfl Tryz.func95 rfl rfl,← hf];generalize (stI ws [] p).foldl (fI sts (stW sts) p0) (b,false)=x at h;by_cases hs:x.1.s.2=[]
 ·simp[SI,bsI,hb,hs,aG]at h;simp[bsI,h,hs]
 ·simp[SI,bsI,hb,hs,aG]at h;simp[bsI,h,hs]
theorem BU {sts:List Sts} {p q:Pn} {r:Int} {path:List Int} (hs:∀ s∈sts,s.ok=true) (hq:apO p (stW sts) r path=some q):AOQ sts q=q.cst sts:=by
 obtain⟨_,h2,h3⟩:=P6 hq;unfold AOQ;rw[if_pos (pQ.2 ⟨hs,by rw[h3];exact h2⟩)]
theorem ACD (p:Pn) (sts:List Sts) (hl:sts.length<1000000) (hd:∀ s∈sts,s.d.length<1000000000∧s.n.length<1000000000):aH CI 21 [.i (.agg p.cells), .i (.isl (oN sts))] []=some (imR sts p):=by
 have c1:=kD p sts hl hd;have c2:=uR sts hl fun s hs=>(hd s hs).1
 have c4:=AI3 p (stW sts);unfold imR;unfold AOQ at c1
 cases hq:KH sts p with
 | false =>
  rw[hq]at c1;rw[aD rfl Tryz.func21 rfl rfl];simp only[Pn.aA p]at c1 ⊢;simp at c1;simp[c1,Pn.zero,Pn.cells,Ex.aB,aG,Pn.aB]
 | true =>
  obtain⟨hs,hw0⟩:=pQ.1 hq;obtain⟨hws,hp8,hpw⟩:=jH hw0;have c3:=TT hp8;have hc0:=kE hs p 8 hp8;have hne:p.cst sts≠-1:=by omega
  have hne2:(p.cst sts == -1)=false:=by simpa using hne
  rw[hq]at c1;have c5:=fun R cs (hY:Yi R cs p.cells (.isl (oN sts)) (.isl (aG (stW sts))) sts (stW sts) p)=>ZZ hY hws hp8 ⟨p,(0,[]),p.cst sts⟩ rfl
  have ea:=fun r path=>DU p (stW sts) r path
  have ec:=fun(q:Pn)=>kD q sts hl hd
  rw[aD rfl Tryz.func21 rfl rfl];simp only[Pn.aA p]at c1 c3 c4 c5 ⊢;simp at c1;simp[c1,c2,c3,c4,hne,hne2,bW,AL4,MZ,AD5,AMH,Op.operands,Call.operands,rH];generalize hR:Rng.mk [0,1,2,3,4,5,6,7,8,9,10,11,12,13,18,26,27,36,42] [2,3,6,7,8,9,10,11,12,13,27,36,42] [27] _ _=R
  have hY:Yi R [.own 1 0, .own 2 0, .own 3 0, .own 4 0, .own 5 0, .own 6 0, .junk, .junk, .junk, .junk, .junk, .junk, .junk] [.int p.kind, .int p.table, .isl (Ex.aB p.exprs), .isl (aG p.cols), .isl (Pn.aB p.kids)] (.isl (oN sts)) (.isl (aG (stW sts))) sts (stW sts) p:=by
   clear c1 c2 c3 c4 c5;rw[Pn.aA p]at ea;refine⟨rfl,?_,?_,?_,?_,?_⟩
   ·intro r b b' hb hi;have e1:=ea r [];subst hR;rw[tN];unfold I1 at hi
    cases hq:apO p (stW sts) r []with
    | none =>
     rw[hq]at e1;simp only[hq]at hi;subst hi;simp[apR,Pn.zero,Pn.cells,Ex.aB,aG,Pn.aB]at e1;simp[bsI,e1]
    | some q =>
     rw[hq]at e1;simp only[hq]at hi;have e2:=ec q;rw[BU hs hq,Pn.aA q]at e2;simp[apR,Pn.aA q,aG]at e1;by_cases hlt:q.cst sts<b.c
     ·rw[if_pos hlt]at hi;subst hi;simp[bsI,e1,e2,hlt]
     ·rw[if_neg hlt]at hi;subst hi;simp[bsI,e1,e2,hlt]
   ·intro r path b hp hl8 hb hi;have e1:=ea r path;subst hR;rw[tN];have ht:path.take path.length=path:=zY (by omega);unfold ED at hi
    cases hq:apO p (stW sts) r path with
    | none =>
     rw[hq]at e1;simp[apR,Pn.zero,Pn.cells,Ex.aB,aG,Pn.aB]at e1;simp[bsI,e1,ht]
    | some q =>
     rw[hq]at e1;simp only[hq,x8]at hi;have e2:=ec q;rw[BU hs hq,Pn.aA q]at e2;simp[apR,Pn.aA q]at e1;simp[bsI,e1,e2,hi,ht]
   ·intro r path b b' hp hl8 hb hi hb';have e1:=ea r path;subst hR;rw[tN];have ht:path.take path.length=path:=zY (by omega);unfold ED at hi;unfold I1 at hb'
    cases hq:apO p (stW sts) r path with
    | none=>simp only[hq]at hi;cases hi
    | some q =>
     rw[hq]at e1;simp only[hq,zP]at hi;simp only[hq,if_pos hi]at hb';subst hb';have e2:=ec q;rw[BU hs hq,Pn.aA q]at e2;simp[apR,Pn.aA q]at e1;simp[bsI,e1,e2,hi,ht]
   ·intro r path P0 b hp hl8 hi;have e1:=ea r path;subst hR;rw[tN];have ht:path.take path.length=path:=zY (by omega);unfold ED at hi
    cases hq:apO p (stW sts) r path with
    | none =>
     rw[hq]at e1;simp[apR,Pn.zero,Pn.cells,Ex.aB,aG,Pn.aB]at e1;simp[bsI,e1,ht]
    | some q =>
     rw[hq]at e1;simp only[hq,x8]at hi;have e2:=ec q;rw[BU hs hq,Pn.aA q]at e2;simp[apR,Pn.aA q]at e1;simp[bsI,e1,e2,hi,ht]
   ·intro r path P0 b b' hp hl8 hi hb';have e1:=ea r path;subst hR;rw[tN];have ht:path.take path.length=path:=zY (by omega);unfold ED at hi;unfold I1 at hb'
    cases hq:apO p (stW sts) r path with
    | none=>simp only[hq]at hi;cases hi
    | some q =>
     rw[hq]at e1;simp only[hq,zP]at hi;simp only[hq,if_pos hi]at hb';subst hb';have e2:=ec q;rw[BU hs hq,Pn.aA q]at e2;simp[apR,Pn.aA q]at e1;simp[bsI,e1,e2,hi,ht]
  have c5:=c5 R _ hY;clear hR;unfold AFF;generalize (stI (stW sts) [] p).foldl (I1 sts (stW sts) p) ⟨p,(0,[]),p.cst sts⟩=B at *
  by_cases hb:B.s.2=[]
  ·simp[bsI,hb]at c5;simp[c5,hb,Pn.aA B.p,aG]
  ·simp[bsI,hb]at c5;simp[c5,hb,Pn.aA B.p]
@[simp] theorem AT1 (a:List AV) (st:StL):aH CI 61 a st=aH C0 61 a st:=by rw[aP (p:=aH C0 61) rfl]
@[simp] theorem AUS (a:List AV) (st:StL):aH CI 63 a st=aH C0 63 a st:=by rw[aP (p:=aH C0 63) rfl]
@[simp] theorem ALP (a:List AV) (st:StL):aH CI 64 a st=aH C0 64 a st:=by rw[aP (p:=aH C0 64) rfl]
@[simp] theorem AT2 (a:List AV) (st:StL):aH CI 65 a st=aH C0 65 a st:=by rw[aP (p:=aH C0 65) rfl]
theorem WR {p:Pn} (hp:p.thin):aH CI 62 [.i (.agg p.cells)] []=some (.i (.agg p.cells),[]):=by
 have:=vU p hp;rw[aP (p:=AJE (aH C0) 62) rfl]at this ⊢;exact this
def IWX (p:Pn) (sts:List Sts) (i:Nat):AS :=
 { env:=[(0, .i (.agg [.int p.kind, .int p.table, .isl (Ex.aB p.exprs), .isl (aG p.cols), .isl (Pn.aB p.kids)])),(1, .i (.isl (oN sts))),(2, .own 0 0),(4, .own 1 0),(5, .own 2 0),(6, .osl 3 1 0 i),(7, .int i),(8, .junk),(9, .junk),(10, .junk),(11, .junk),(12, .junk),(13, .junk),(15, .junk),(19, .bool false),(26,jk i (.bool true)),(50, .junk),(68, .junk)],
   st:=[some (.box [.int p.kind, .int p.table, .i (.isl (Ex.aB p.exprs)), .i (.isl (aG p.cols)), .i (.isl (Pn.aB p.kids))]),some (.box [.int 0, .int 0, .nils, .nils, .nils]),some (.box [.int 0, .nils]),some (.arr 1 (aG ((stW sts).take i)))] }
def qI (sts:List Sts) (p:Pn) (L:List Stp) (i:Nat):Pn:=(apO p (stW sts) ((L[i]?).getD (0,[])).1 ((L[i]?).getD (0,[])).2).getD Pn.zero
def xI (sts:List Sts) (p:Pn) (L:List Stp) (i:Nat):Bst×Bool:=(L.take i).foldl (fI sts (stW sts) p) (⟨p,(0,[]),p.cst sts⟩,false)
def sB (x:Bst×Bool):AV:=if x.2=true then .i (.isl (aG x.1.s.2))else .nils
def ILX (p:Pn) (sts:List Sts) (L:List Stp) (i:Nat):AS :=
 { env:=[(0, .i (.agg [.int p.kind, .int p.table, .isl (Ex.aB p.exprs), .isl (aG p.cols), .isl (Pn.aB p.kids)])),(1, .i (.isl (oN sts))),(2, .own 0 0),(4, .own 1 0),(5, .own 2 0),(6, .osl 3 1 0 sts.length),(7, .int sts.length),(8, .own 4 0),(9, .own 5 0),(10, .int (xI sts p L i).1.c),(11, .i (.isl (o7 L))),(12, .int i),(13,jA i (.own 6 0)),(15,jk i (.int ((qI sts p L (i-1)).cst sts))),(19, .bool false),(26, .bool false),(50,jk i (.bool true)),(68,jk i (.bool (ED sts (stW sts) p (xI sts p L (i-1)).1 ((L[i-1]?).getD (0,[])))))],
   st:=[some (.box [.int p.kind, .int p.table, .i (.isl (Ex.aB p.exprs)), .i (.isl (aG p.cols)), .i (.isl (Pn.aB p.kids))]),some (.box [.int 0, .int 0, .nils, .nils, .nils]),some (.box [.int 0, .nils]),some (.frz 1 (aG (stW sts))),
    some (.box [.int (xI sts p L i).1.p.kind, .int (xI sts p L i).1.p.table, .i (.isl (Ex.aB (xI sts p L i).1.p.exprs)), .i (.isl (aG (xI sts p L i).1.p.cols)), .i (.isl (Pn.aB (xI sts p L i).1.p.kids))]),some (.box [.int (xI sts p L i).1.s.1,sB (xI sts p L i)])]++jkL i [some (.box [.int (qI sts p L (i-1)).kind, .int (qI sts p L (i-1)).table, .i (.isl (Ex.aB (qI sts p L (i-1)).exprs)), .i (.isl (aG (qI sts p L (i-1)).cols)), .i (.isl (Pn.aB (qI sts p L (i-1)).kids))])] }
theorem ADH {p:Pn} {ws:List Int} {s:Stp} (hw:jS ws=true) (hp8:p.wd ws 8≠0) (h0:p.width ws≠0) (h:s∈stI ws [] p):∃ q,apO p ws s.1 s.2=some q∧apS ws s.1 s.2 p=some q∧s.2.length≤8:=by
 have h8:s.2.length≤8:=ZY (p:=p) (ws:=ws) s (by unfold AD9;rw[if_neg h0];exact h);rw[BC (uB hw) hp8,ADF]at h;obtain⟨q,hq⟩:=xS.1 h;exact⟨q,by unfold apO;rw[if_neg h0,AK7 (uB hw) hp8];exact hq,hq,h8⟩
theorem V9 (p:Pn) (hp:p.thin) (sts:List Sts) (hl:sts.length<1000000) (hd:∀ s∈sts,s.d.length<1000000000∧s.n.length<1000000000):aH CI 22 [.i (.agg p.cells), .i (.isl (oN sts))] []=some (imR sts p):=by
 have c1:=BB p hp sts hl hd;unfold imR
 cases hq:KH sts p with
 | false =>
  rw[hq]at c1;rw[aD rfl Tryz.func22 rfl rfl];simp only[Pn.aA p]at c1 ⊢;simp[c1,Pn.zero,Pn.cells,Ex.aB,aG,Pn.aB]
 | true =>
  obtain⟨hs,hw0⟩:=pQ.1 hq;obtain⟨hws,hp8,hpw⟩:=jH hw0;have hsz:=(Pn.wJ p 8 hp8).2;have c2:=WR hp;have c3:=rD hs p 8 hp8 (by omega);have c4:=QE hws hp8;rw[← BC (uB hws) hp8]at c4;rw[hq]at c1;rw[aD rfl Tryz.func22 rfl rfl];simp only[Pn.aA p]at c1 c2 c3 c4 ⊢;simp[c1];rw[aQ (IWX p sts) sts.length (by simp[IWX,aG])]
  ·rw[aF];have e1:(stW sts).take sts.length=stW sts:=zY (by rw[gN];omega);have hle:sts.length≤(stW sts).length:=by rw[gN];omega
   have hz:sts.length≠0:=by
    intro h;have hs0:sts=[]:=zW.1 h;subst hs0;simp[stW,jS]at hws
   have htk:(aG (stW sts)).take sts.length=aG (stW sts):=zY (by simp[gN]);have hmem:∀ s∈stI (stW sts) [] p,∃ q,apO p (stW sts) s.1 s.2=some q∧apS (stW sts) s.1 s.2 p=some q∧s.2.length≤8:=fun s h=>ADH hws hp8 hw0 h
   have hll:=AMR (stW sts) p [];unfold AFF;rw[← AB sts (stW sts) p _ _ false];simp[IWX,e1,hle,hz,htk,bH hz,c2,c3,c4];generalize hL:stI (stW sts) [] p=L at hmem hll;clear c1 c2 c3 c4;rw[aQ (ILX p sts L) L.length (by simp[ILX,xI,sB])]
   ·rw[aF];have hx:xI sts p L L.length=L.foldl (fI sts (stW sts) p) (⟨p,(0,[]),p.cst sts⟩,false):=by unfold xI;rw[xY]
    simp only[ILX,hx];have hcs:=jD sts (stW sts) p L ⟨p,(0,[]),p.cst sts⟩ (P:=fun _=>True) (fun _ _=>trivial);generalize L.foldl (fI sts (stW sts) p) (⟨p,(0,[]),p.cst sts⟩,false)=x at hcs ⊢;by_cases hz2:L.length=0
    ·rcases hcs with rfl|⟨b',rfl,-⟩
     ·simp[hz2,sB,Pn.aA p,aG]
     ·simp[hz2,sB,Pn.aA b'.p]
    ·rcases hcs with rfl|⟨b',rfl,-⟩
     ·simp[hz2,bH hz2,kL hz2,LP hz2,sB,Pn.aA p,aG]
     ·simp[hz2,bH hz2,kL hz2,LP hz2,sB,Pn.aA b'.p]
   ·intro i hi
    obtain⟨s,hsx⟩:∃ s,L[i]?=some s:=⟨_,zX hi⟩
    have hg:=(zZ.1 hsx).2;obtain⟨q,hq1,hq2,hq3⟩:=hmem s (zV hsx);have r1:=AD8 hsx;simp only[AMJ]at r1;have c5:=tV hws hp8 s.1 (path:=s.2) (by omega);rw[hq2]at c5;simp only[ACP,yY]at c5;obtain⟨t1,t2,t3⟩:=P6 hq1;have hq0:q.width (stW sts)≠0:=by rw[t3];exact t2
    obtain⟨-,hq8,-⟩:=jH hq0;have hqz:=(Pn.wJ q 8 hq8).2;have c6:=rD hs q 8 hq8 (by omega);rw[Pn.aA q]at c6;rw[Pn.aA p,Pn.aA q]at c5;simp at c5;have w3:IntKind.i64.wrap ((i:Int)+1)=i+1:=wrO;have hq4:qI sts p L i=q:=by unfold qI;rw[hsx];simp only[yY];rw[hq1];rfl
    have hx1:xI sts p L (i+1)=fI sts (stW sts) p (xI sts p L i) s:=by unfold xI;rw[aL hsx,yN];rfl
    have hgd:(L[i]?).getD (0,[])=s:=by rw[hsx];rfl
    simp only[ILX,hx1,Nat.add_sub_cancel,hq4,hgd];generalize xI sts p L i=x;obtain⟨b,cb⟩:=x;simp only;have hid:ED sts (stW sts) p b s=decide (q.cst sts<b.c):=by unfold ED;rw[hq1]
    have him:I1 sts (stW sts) p b s=if q.cst sts<b.c then⟨q,s,q.cst sts⟩else b:=by unfold I1;rw[hq1]
    simp only[fI,hid,him];by_cases hlt:q.cst sts<b.c
    ·cases cb<;>by_cases hi0:i=0
     ·subst hi0;simp[sB,hle,e1,hi,r1,c5,c6,hlt,bN,hsx,hg]
     ·simp[sB,hle,e1,hi,r1,c5,c6,hlt,w3,hi0,bH hi0,kL hi0,LP hi0,hsx,hg]
     ·subst hi0;simp[sB,hle,e1,hi,r1,c5,c6,hlt,bN,hsx,hg]
     ·simp[sB,hle,e1,hi,r1,c5,c6,hlt,w3,hi0,bH hi0,kL hi0,LP hi0,hsx,hg]
    ·cases cb<;>by_cases hi0:i=0
     ·subst hi0;simp[sB,hle,e1,hi,r1,c5,c6,hlt,bN,hsx,hg]
     ·simp[sB,hle,e1,hi,r1,c5,c6,hlt,w3,hi0,bH hi0,kL hi0,LP hi0,hsx,hg]
     ·subst hi0;simp[sB,hle,e1,hi,r1,c5,c6,hlt,bN,hsx,hg]
     ·simp[sB,hle,e1,hi,r1,c5,c6,hlt,w3,hi0,bH hi0,kL hi0,LP hi0,hsx,hg]
  ·intro i hi
   obtain⟨s,hsx⟩:∃ s,sts[i]?=some s:=⟨_,zX hi⟩
   have q:=iG hsx;have hw:(stW sts)[i]?=some (s.d.length:Int):=by simp[stW,hsx]
   have hT:=aL hw;have w3:IntKind.i64.wrap ((i:Int)+1)=i+1:=wrO;have hb:(i+1)*8≤140737488355328:=by omega
   have e1:((stW sts).take i).take i=(stW sts).take i:=by rw[zN,xA]
   have hmin:min i (stW sts).length=i:=by rw[gN];omega
   simp[IWX,hi,q,hT,w3,hb,e1,hmin,bZ,aG]
end Go.Proofs.YtjdfjgmebalaaaaGreat.P
namespace Go.Av
abbrev LeK (cs:List Int) (a b:List Val):Prop:=jQ (ANK cs a) (ANK cs b)=true
theorem LeK.refl (cs:List Int) (a:List Val):LeK cs a a:=KR _
theorem LeK.trans {cs:List Int} {a b c:List Val} (h1:LeK cs a b) (h2:LeK cs b c):LeK cs a c:=mP h1 h2
theorem GU {C:Ctx} {G:List Nat} {na:Nat} {b:Code} {Q:AExit×AS→Prop} (I:Nat→AS→Prop) (hs:∀ k S,I k S→(∃ S1 k',dI C G na b S=some (.normal,S1)∧k'<k∧I k' S1)∨(∃ e T,dI C G na b S=some (e,T)∧e≠.normal∧Q (e,T))) :
 ∀ k S,I k S→∃ r,dI C G na (.loop b) S=some r∧Q r:=by
 intro k
 induction k using Nat.strongRecOn with
 | ind k ih =>
  intro S h
  rcases hs k S h with ⟨S1,k',h1,h2,h3⟩|⟨e,T,h1,h2,h3⟩
  ·obtain⟨r,h4,h5⟩:=ih k' h2 S1 h3;exact⟨r,AF1 h1 h4,h5⟩
  ·exact⟨_,AF2 h1 h2,h3⟩
end Go.Av
namespace Go.Proofs.YtjdfjgmebalaaaaGreat
open Go Go.Av
set_option maxRecDepth 4000
set_option maxHeartbeats 2000000
theorem CW:∀ a b:List Val,∃ j,(∀ i,i<j→∃ x y,a[i]?=some x∧b[i]?=some y∧Val.cmp x y=0)∧((a.length=j∧b.length=j∧fZ a b=0)∨(a.length=j∧j<b.length∧fZ a b=-1)∨(j<a.length∧b.length=j∧fZ a b=1)∨(∃ x y,a[j]?=some x∧b[j]?=some y∧Val.cmp x y≠0∧fZ a b=Val.cmp x y))
 | [],[]=>⟨0,by omega, .inl ⟨rfl,rfl,rfl⟩⟩
 | [],_::_=>⟨0,by omega, .inr (.inl ⟨rfl,by simp,rfl⟩)⟩
 | _::_,[]=>⟨0,by omega, .inr (.inr (.inl ⟨by simp,rfl,rfl⟩))⟩
 | x::a,y::b=>by
  by_cases h:Val.cmp x y=0
  ·obtain⟨j,h1,h2⟩:=CW a b;refine⟨j+1,?_,?_⟩
   ·intro i hi
    cases i with
    | zero=>exact⟨x,y,rfl,rfl,h⟩
    | succ i=>exact h1 i (by omega)
   ·simp only[fZ,h,if_true,zQ,yB]
    rcases h2 with ⟨e1,e2,e3⟩|⟨e1,e2,e3⟩|⟨e1,e2,e3⟩|h2
    ·exact .inl ⟨by omega,by omega,e3⟩
    ·exact .inr (.inl ⟨by omega,by omega,e3⟩)
    ·exact .inr (.inr (.inl ⟨by omega,by omega,e3⟩))
    ·exact .inr (.inr (.inr h2))
  ·exact⟨0,by omega, .inr (.inr (.inr ⟨x,y,rfl,rfl,h,by simp[fZ,h]⟩))⟩
def SCX (a b:List Val) (i:Nat):AS :=
 { env:=[(0, .i (.isl (eB a))),(1, .i (.isl (eB b))),(4, .int 0),(5, .int i),(6,jk i (.int 0)),(16,jk i (.bool true)),(29,jk i (.bool false))],st:=[] }
theorem rY (a b:List Val) (hl:a.length=b.length) (ha:a.length<1000000) (oa:a.all Val.ok=true) (ob:b.all Val.ok=true):aH C0 186 [.i (.isl (eB a)), .i (.isl (eB b))] []=some (.int (fZ a b),[]):=by
 rw[aD rfl Tryz.func186 rfl rfl];obtain⟨j,h1,h2⟩:=CW a b;have hoa:=zS.1 oa;have hob:=zS.1 ob;have w0:=AQO;simp;rw[aQ (SCX a b) j (by simp[SCX])]
 ·rw[aF]
  rcases h2 with ⟨e1,e2,e3⟩|⟨e1,e2,e3⟩|⟨e1,e2,e3⟩|⟨x,y,e1,e2,e3,e4⟩
  ·simp[SCX,e1,e2,e3,w0]
  ·omega
  ·omega
  ·have r1:=iZ e1;have r2:=iZ e2;have l1:=(zZ.1 e1).1;have l2:=(zZ.1 e2).1;have hc:=oQ x y (hoa _ (zV e1)) (hob _ (zV e2));simp[SCX,e3,e4,r1,r2,l1,l2,hc]
 ·intro i hi;obtain⟨x,y,e1,e2,e3⟩:=h1 i hi;have r1:=iZ e1;have r2:=iZ e2;obtain⟨l1,g1⟩:=zZ.1 e1;obtain⟨l2,g2⟩:=zZ.1 e2;have hc:=oQ x y (hoa _ (zV e1)) (hob _ (zV e2));have w2:IntKind.i64.wrap ((i:Int)+1)=i+1:=wrO;simp[SCX,e3,r1,r2,l1,l2,hc,w2]
def SVX (a:List Val) (i:Nat):AS :=
 { env:=[(0, .i (.isl (eB a))),(2, .bool false),(3, .int i),(7,jk i (.bool true)),(15,jk i (.bool false))],st:=[] }
theorem ABO (a:List Val) (ha:a.length<1000000) (hn:a≠[]):aH C0 201 [.i (.isl (eB a))] []=some (.osl 0 2 0 a.length,[some (.arr 2 (eB a))]):=by
 rw[aD rfl Tryz.func201 rfl rfl];have hb:a.length*16≤140737488355328:=by omega
 simp[hn,hb]
theorem AOG {l:List (List Val)} {r:List Val}:∀ (k:Nat),k≤l.length→(∀ i x,i<k→l[i]?=some x→jQ x r=true)→(∀ x,l[k]?=some x→jQ x r=false)→ACO l r=l.take k++r::l.drop k:=by
 intro k hk h1 h2;unfold ACO
 suffices H:l.takeWhile (fun x=>jQ x r)=l.take k∧l.dropWhile (fun x=>jQ x r)=l.drop k by rw[H.1,H.2]
 induction k generalizing l with
 | zero =>
  cases l with
  | nil=>simp
  | cons a l=>have:=h2 a rfl;simp[this]
 | succ k ih =>
  cases l with
  | nil=>simp at hk
  | cons a l =>
   have ha:=h1 0 a (by omega) rfl;obtain⟨i1,i2⟩:=ih (l:=l) (by simpa using hk) (fun i x hi hx=>h1 (i+1) x (by omega) (by simpa using hx)) (fun x hx=>h2 x (by simpa using hx));simp[ha,i1,i2]
def ISX (l:List (List Val)) (r:List Val) (n lo hi:Nat) (m:Int) (c:Bool) (g:AV):AS :=
 { env:=[(0, .i (.isl (dV l))),(1, .i (.isl (eB r))),(4, .nils),(5, .int lo),(6, .int hi),(7,jk n (.int m)),(8, .junk),(13,g),(24,jk n (.bool c))],st:=[] }
theorem AN0 {l:List (List Val)} (hs:Srt l) {i j:Nat} {x y:List Val} (hi:l[i]?=some x) (hj:l[j]?=some y) (h:i≤j):jQ x y=true:=by
 obtain⟨h1,rfl⟩:=zZ.1 hi;obtain⟨h2,rfl⟩:=zZ.1 hj;by_cases e:i=j
 ·subst e;exact KR _
 ·exact List.pairwise_iff_getElem.1 hs i j h1 h2 (by omega)
theorem TE (l:List (List Val)) (r:List Val) (hl:l.length<1000000) (hr:r.all Val.ok=true) (hrl:r.length<1000000) (hr0:r≠[]) (hrows:∀ x∈l,x.all Val.ok=true∧x.length=r.length) (hs:Srt l):aH C0 188 [.i (.isl (dV l)), .i (.isl (eB r))] []=some (.osl 0 1 0 (l.length+1),[some (.arr 1 (dV (ACO l r)))]):=by
 rw[aD rfl Tryz.func188 rfl rfl];simp;generalize hX:dI C0 _ _ (Code.loop _) _=X
 have key:∃ rr,X=some rr∧∃ (n k:Nat) (m:Int) (c:Bool),rr=(.exit 0,ISX l r n k k m c (.bool false))∧k≤l.length∧(∀ i x,i<k→l[i]?=some x→jQ x r=true)∧(∀ x,l[k]?=some x→jQ x r=false):=by
  rw[← hX];refine GU (fun d S=>∃ (n lo hi:Nat) (m:Int) (c:Bool),S=ISX l r n lo hi m c (jk n (.bool true))∧lo≤hi∧hi≤l.length∧d=hi-lo∧(∀ i x,i<lo→l[i]?=some x→jQ x r=true)∧(∀ x,hi<l.length→l[hi]?=some x→jQ x r=false)) ?_ l.length _ ⟨0,0,l.length,0,true,by simp[ISX],by omega,by omega,by omega,by omega,by omega⟩;rintro d S ⟨n,lo,hi,m,c,rfl,a1,a2,a3,a4,a5⟩;by_cases hlt:lo<hi
  ·left
   obtain⟨x,hx⟩:∃ x,l[(lo+hi) / 2]?=some x:=⟨_,zX (by omega)⟩
   have hxm:=hrows x (zV hx);have r1:=rZ hx;have hc:=rY x r hxm.2 (by omega) hxm.1 hr;have w1:IntKind.i64.wrap ((lo:Int)+hi)=lo+hi:=wrO
   have w2:IntKind.i64.wrap (((lo:Int)+hi).tdiv 2)=(((lo+hi) / 2:Nat):Int):=by
    have e:((lo:Int)+hi).tdiv 2=(((lo+hi) / 2:Nat):Int):=by
     rw[zB0 (by omega)];omega
    rw[e];exact wrO
   have w3:IntKind.i64.wrap ((((lo+hi) / 2:Nat):Int)+1)=(((lo+hi) / 2+1:Nat):Int):=by rw[wrO];omega
   have hmid:(lo+hi) / 2<l.length:=by omega
   have hlo:lo≤(lo+hi) / 2:=by omega
   have hhi:(lo+hi) / 2<hi:=by omega
   generalize (lo+hi) / 2=mid at *
   by_cases hle:fZ x r≤0
   ·refine⟨ISX l r 1 (mid+1) hi mid true (.bool true),hi-(mid+1),?_,by omega,1,mid+1,hi,mid,true,rfl,by omega,a2,rfl,fun i y hi' hy=>?_,a5⟩
    ·simp[ISX,hlt,w1,w2,w3,hmid,r1,hc,hle]
    ·exact mP (AN0 hs hy hx (by omega)) (by unfold jQ;simpa using hle)
   ·refine⟨ISX l r 1 lo mid mid false (.bool true),mid-lo,?_,by omega,1,lo,mid,mid,false,rfl,by omega,by omega,rfl,a4,fun y _ hy=>?_⟩
    ·simp[ISX,hlt,w1,w2,w3,hmid,r1,hc,hle]
    ·rw[hx]at hy;injection hy with hy;subst hy;unfold jQ;simpa using hle
  ·right;obtain rfl:lo=hi:=by omega
   refine⟨.exit 0,ISX l r n lo lo m c (.bool false),?_,by simp,n,lo,m,c,rfl,a2,a4,fun x hx=>a5 x (zZ.1 hx).1 hx⟩;simp[ISX]
 obtain⟨rr,rfl,n,k,m,c,rfl,k1,k2,k3⟩:=key;have hcp:=ABO r hrl hr0;have hb1:k*24≤140737488355328:=by omega
 have hb2:(k+1)*24≤140737488355328:=by omega
 have hb3:(k+1+(l.length-k))*24≤140737488355328:=by omega
 have hkl:(k:Int)≤l.length:=by omega
 have hmin:min k l.length=k:=by omega
 have hT:(l.take k).length=k:=by simp;omega
 rw[AOG k k1 k2 k3];have e1:(l.take k).take k=l.take k:=by rw[zN,xA]
 have e2:List.take (k+1) (dV (l.take k)++[[.isl (eB r)]])=dV (l.take k)++[[.isl (eB r)]]:=zY (by simp;omega);have e3:List.take (l.length-k) (l.drop k)=l.drop k:=zY (by simp);have e4:k+1+(l.length-k)=l.length+1:=by omega
 have hb4:(l.length+1)*24≤140737488355328:=by omega
 simp[ISX,hcp,hkl,k1,hmin,hb1,hb2,hb3,sD,oU,e1,e2,e3,e4,hb4]
end Go.Proofs.YtjdfjgmebalaaaaGreat

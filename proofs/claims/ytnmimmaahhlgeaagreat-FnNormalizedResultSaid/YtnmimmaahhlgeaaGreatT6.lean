/- Part 6 of what the proof rests on: the executor and what it is worth, and the program's functions as it runs them. No condition. -/
import Derived.Test.YtnmimmaahhlgeaaGreatT5
set_option linter.unusedVariables false
set_option linter.unusedSimpArgs false
namespace Go.Proofs.YtnmimmaahhlgeaaGreat.P
open Go Go.Av
set_option maxRecDepth 4000
set_option maxHeartbeats 8000000
def bl (n:Nat):Nat:=if n=0 then 0 else 1
def rX (b:Nat) (P:Pn):AV:=.agg [.int P.kind, .int P.table,gro b 5 P.exprs.length,gro (b+bl P.exprs.length) 1 P.cols.length,gro (b+bl P.exprs.length+bl P.cols.length) 5 P.kids.length]
def rS (P:Pn):StL:=vN 5 (Ex.aB P.exprs) P.exprs.length++(vN 1 (aH P.cols) P.cols.length++vN 5 (Pn.aB P.kids) P.kids.length)
@[simp] theorem Ad7 (a:List AV) (st:StL):aG CQ 129 a st=aG CP 129 a st:=by rw[aN (p:=aG CP 129) rfl]
@[simp] theorem AV9 (a:List AV) (st:StL):aG CQ 130 a st=pU C0 true 130 a st:=by rw[aN (p:=pU C0 true 130) rfl]
@[simp] theorem AS1 (a:List AV) (st:StL):aG CQ 45 a st=aG CP 45 a st:=by rw[aN (p:=WR (aG C0) 45) rfl,aN (p:=WR (aG C0) 45) rfl]
@[simp] theorem AVA (a:List AV) (st:StL):aG CQ 128 a st=aG CP 128 a st:=by rw[aN (p:=ARR (aG C0) 128) rfl,aN (p:=ARR (aG C0) 128) rfl]
@[simp] theorem Ad8 (a:List AV) (st:StL):aG CQ 40 a st=aG C0 40 a st:=by rw[aN (p:=aG C0 40) rfl]
@[simp] theorem AeF (a:List AV) (st:StL):aG CQ 81 a st=aG C0 81 a st:=by rw[aN (p:=aG C0 81) rfl]
@[simp] theorem AdA (a:List AV) (st:StL):aG CQ 131 a st=aG C0 131 a st:=by rw[aN (p:=aG C0 131) rfl]
@[simp] theorem Ad9 (a:List AV) (st:StL):aG CQ 132 a st=aG C0 132 a st:=by rw[aN (p:=aG C0 132) rfl]
theorem eO (e:Ex) (p:Pn):pU C0 true 130 [.i (.agg e.cells), .i (.agg p.cells)] []=some (.agg [.int 2, .int 0, .osl 0 5 0 1, .nils, .osl 1 5 0 1],[some (.arr 5 [e.cells]),some (.arr 5 [p.cells])]):=by
 rw[eF Tryz.func130 rfl rfl,Ex.aA,Pn.aA];simp
def YQ (l:List UInt8) (ws:List Int) (k d j c:Nat):Prop:=∀ p u:Int,0≤p→p+c<300000000→0≤u→u≤1→∃ (P:Pn) (p' u':Int) (j':Nat),
    pU CQ true 129 [.own 0 0, .int d] (PSt l ws k j u p)=some (rX 3 P,PSt l ws k j' u' p'++rS P)∧Th P j j' u u'∧p≤p'∧p'≤p+c∧j'≤j∧0≤u'∧u'≤1∧P.exprs.length≤2∧P.cols.length≤1
theorem AIJ {l:List UInt8} {ws:List Int} {k:Nat} {d j:Nat} {p u t:Int} (hd:d<100) (ht:aG C0 40 [.own 0 0, .int k] [Rd l p]=some (.int t,[Rd l (p+1)])) (hv:aG C0 40 [.own 0 0, .int 6] [Rd l (p+1)]=some (.int 0,[Rd l (p+1+1)])) :
 pU CQ true 129 [.own 0 0, .int ((d+1:Nat):Int)] (PSt l ws k j u p)=some (rX 3 (Pn.scan t),PSt l ws k j u (p+1+1)++rS (Pn.scan t)):=by
 have wn:¬ ((d:Int)+1=0):=by omega
 rw[eF Tryz.func129 rfl rfl];simp[PSt,ht,hv,wn,rX,rS,bl,Pn.scan]
abbrev RtC (l:List UInt8) (ws:List Int) (k d j c2:Nat) (p u p1:Int) (j1:Nat):Prop:=∃ (P:Pn) (p' u':Int) (j':Nat),pU CQ true 129 [.own 0 0, .int ((d+1:Nat):Int)] (PSt l ws k j u p)=some (rX 3 P,PSt l ws k j' u' p'++rS P)∧Th P j j' u u'∧p1≤p'∧p'≤p1+400+c2∧j'≤j1∧0≤u'∧u'≤1∧P.exprs.length≤2∧P.cols.length≤1
theorem VE {l:List UInt8} (hl:l.length≤2000) {ws:List Int} {k:Nat} {d j c2:Nat} {p u t v W kk p1 u1:Int} {j1:Nat} {K:Pn} (H:PlH l ws k d j c2 p u t v W kk p1 u1 j1 K) (hq:kk=0):RtC l ws k d j c2 p u p1 j1:=by
 obtain⟨hd,h1,hp1,hu0,hu1,hW0,hW6,hKB,ht,hv,v0,hkid,hW,hkk⟩:=H;have we:IntKind.i64.wrap (d:Int)=d:=wrO;have hK:=hKB.1;have wn:¬ ((d:Int)+1=0):=by omega
 simp only[PSt]at hkid;rw[Pn.aA K]at hkid hW;obtain⟨e,p2,he,a1,a2,a3⟩:=aQ l hl W (p1+1) (by omega) (by omega);have hf:=eO e K;rw[Pn.aA K,Ex.aA e]at hf;rw[Ex.aA e]at he;refine⟨bZ e K,p2,u1,j1,?_,Th.one (d9 (by omega) hK) hKB,by omega,by omega,by omega,by omega,by omega,by simp[bZ,Pn.scan],by simp[bZ,Pn.scan]⟩;rw[eF Tryz.func129 rfl rfl];simp[PSt,ht,hv,v0,we,hkid,hW,hkk,wn,hq,rX,rS,bl,he,hf,bZ,Ex.aB,aH,Pn.aB,Pn.aA K,Ex.aA e]
theorem VD {l:List UInt8} (hl:l.length≤2000) {ws:List Int} {k:Nat} {d j c2:Nat} {p u t v W kk p1 u1:Int} {j1:Nat} {K:Pn} (H:PlH l ws k d j c2 p u t v W kk p1 u1 j1 K) (hq:kk=1):RtC l ws k d j c2 p u p1 j1:=by
 obtain⟨hd,h1,hp1,hu0,hu1,hW0,hW6,hKB,ht,hv,v0,hkid,hW,hkk⟩:=H;have we:IntKind.i64.wrap (d:Int)=d:=wrO;have hK:=hKB.1;have wn:¬ ((d:Int)+1=0):=by omega
 simp only[PSt]at hkid;rw[Pn.aA K]at hkid hW;obtain⟨e,p2,he,a1,a2,a3⟩:=aQ l hl W (p1+1) (by omega) (by omega);have hf:=eO e K;rw[Pn.aA K,Ex.aA e]at hf;rw[Ex.aA e]at he;refine⟨bZ e K,p2,u1,j1,?_,Th.one (d9 (by omega) hK) hKB,by omega,by omega,by omega,by omega,by omega,by simp[bZ,Pn.scan],by simp[bZ,Pn.scan]⟩;rw[eF Tryz.func129 rfl rfl];simp[PSt,ht,hv,v0,we,hkid,hW,hkk,wn,hq,rX,rS,bl,he,hf,bZ,Ex.aB,aH,Pn.aB,Pn.aA K,Ex.aA e]
theorem VC {l:List UInt8} (hl:l.length≤2000) {ws:List Int} {k:Nat} {d j c2:Nat} {p u t v W kk p1 u1:Int} {j1:Nat} {K:Pn} (H:PlH l ws k d j c2 p u t v W kk p1 u1 j1 K) (hq:kk=2):RtC l ws k d j c2 p u p1 j1:=by
 obtain⟨hd,h1,hp1,hu0,hu1,hW0,hW6,hKB,ht,hv,v0,hkid,hW,hkk⟩:=H;have we:IntKind.i64.wrap (d:Int)=d:=wrO;have hK:=hKB.1;have wn:¬ ((d:Int)+1=0):=by omega
 simp only[PSt]at hkid;rw[Pn.aA K]at hkid hW;obtain⟨e,p2,he,a1,a2,a3⟩:=aQ l hl W (p1+1) (by omega) (by omega);have hf:=eO e K;rw[Pn.aA K,Ex.aA e]at hf;rw[Ex.aA e]at he;refine⟨bZ e K,p2,u1,j1,?_,Th.one (d9 (by omega) hK) hKB,by omega,by omega,by omega,by omega,by omega,by simp[bZ,Pn.scan],by simp[bZ,Pn.scan]⟩;rw[eF Tryz.func129 rfl rfl];simp[PSt,ht,hv,v0,we,hkid,hW,hkk,wn,hq,rX,rS,bl,he,hf,bZ,Ex.aB,aH,Pn.aB,Pn.aA K,Ex.aA e]
theorem RG {l:List UInt8} (hl:l.length≤2000) {ws:List Int} {k:Nat} {d j c2:Nat} {p u t v W kk p1 u1:Int} {j1:Nat} {K:Pn} (H:PlH l ws k d j c2 p u t v W kk p1 u1 j1 K) (hq:kk=8):RtC l ws k d j c2 p u p1 j1:=by
 obtain⟨hd,h1,hp1,hu0,hu1,hW0,hW6,hKB,ht,hv,v0,hkid,hW,hkk⟩:=H;have we:IntKind.i64.wrap (d:Int)=d:=wrO;have hK:=hKB.1;have wn:¬ ((d:Int)+1=0):=by omega
 simp only[PSt]at hkid;rw[Pn.aA K]at hkid hW;refine⟨.mk 7 0 [] [] [K],p1+1,u1,j1,?_,Th.one (by simp[Pn.thin,Pn.kC,hK]) hKB,by omega,by omega,by omega,by omega,by omega,by simp[bZ,Pn.scan],by simp[bZ,Pn.scan]⟩;rw[eF Tryz.func129 rfl rfl];simp[PSt,ht,hv,v0,we,hkid,hW,hkk,wn,hq,rX,rS,bl,Pn.cells,Ex.aB,aH,Pn.aB,Pn.aA K]
theorem VB {l:List UInt8} (hl:l.length≤2000) {ws:List Int} {k:Nat} {d j c2:Nat} {p u t v W kk p1 u1:Int} {j1:Nat} {K:Pn} (H:PlH l ws k d j c2 p u t v W kk p1 u1 j1 K) (hj:j1=0) (hq:kk=5):RtC l ws k d j c2 p u p1 j1:=by
 obtain⟨hd,h1,hp1,hu0,hu1,hW0,hW6,hKB,ht,hv,v0,hkid,hW,hkk⟩:=H;have we:IntKind.i64.wrap (d:Int)=d:=wrO;have hK:=hKB.1;have wn:¬ ((d:Int)+1=0):=by omega
 simp only[PSt]at hkid;rw[Pn.aA K]at hkid hW;obtain⟨e,p2,he,a1,a2,a3⟩:=aQ l hl W (p1+1) (by omega) (by omega);have hf:=eO e K;rw[Pn.aA K,Ex.aA e]at hf;rw[Ex.aA e]at he;refine⟨bZ e K,p2,u1,j1,?_,Th.one (d9 (by omega) hK) hKB,by omega,by omega,by omega,by omega,by omega,by simp[bZ,Pn.scan],by simp[bZ,Pn.scan]⟩;rw[eF Tryz.func129 rfl rfl];simp[PSt,ht,hv,v0,we,hkid,hW,hkk,wn,hq,rX,rS,bl,he,hf,bZ,Ex.aB,aH,Pn.aB,Pn.aA K,Ex.aA e,hj]
theorem AEP {l:List UInt8} (hl:l.length≤2000) {ws:List Int} {k:Nat} {d j c2:Nat} {p u t v W kk p1 u1:Int} {j1:Nat} {K:Pn} (H:PlH l ws k d j c2 p u t v W kk p1 u1 j1 K) (hj:j1≠0) (hw4:¬ W≤4) (hq:kk=5):RtC l ws k d j c2 p u p1 j1:=by
 obtain⟨hd,h1,hp1,hu0,hu1,hW0,hW6,hKB,ht,hv,v0,hkid,hW,hkk⟩:=H;have we:IntKind.i64.wrap (d:Int)=d:=wrO;have hK:=hKB.1;have wn:¬ ((d:Int)+1=0):=by omega
 simp only[PSt]at hkid;rw[Pn.aA K]at hkid hW;have hj':0<j1:=by omega
 obtain⟨e,p2,he,a1,a2,a3⟩:=aQ l hl W (p1+1) (by omega) (by omega);have hf:=eO e K;rw[Pn.aA K,Ex.aA e]at hf;rw[Ex.aA e]at he;refine⟨bZ e K,p2,u1,j1,?_,Th.one (d9 (by omega) hK) hKB,by omega,by omega,by omega,by omega,by omega,by simp[bZ,Pn.scan],by simp[bZ,Pn.scan]⟩;rw[eF Tryz.func129 rfl rfl];simp[PSt,ht,hv,v0,we,hkid,hW,hkk,wn,hq,rX,rS,bl,he,hf,bZ,Ex.aB,aH,Pn.aB,Pn.aA K,Ex.aA e,hj',hj,hw4]
theorem VA {l:List UInt8} (hl:l.length≤2000) {ws:List Int} {k:Nat} {d j c2:Nat} {p u t v W kk p1 u1:Int} {j1:Nat} {K:Pn} (H:PlH l ws k d j c2 p u t v W kk p1 u1 j1 K) (hj:j1=0) (hq:kk=6):RtC l ws k d j c2 p u p1 j1:=by
 obtain⟨hd,h1,hp1,hu0,hu1,hW0,hW6,hKB,ht,hv,v0,hkid,hW,hkk⟩:=H;have we:IntKind.i64.wrap (d:Int)=d:=wrO;have hK:=hKB.1;have wn:¬ ((d:Int)+1=0):=by omega
 simp only[PSt]at hkid;rw[Pn.aA K]at hkid hW;obtain⟨e,p2,he,a1,a2,a3⟩:=aQ l hl W (p1+1) (by omega) (by omega);have hf:=eO e K;rw[Pn.aA K,Ex.aA e]at hf;rw[Ex.aA e]at he;refine⟨bZ e K,p2,u1,j1,?_,Th.one (d9 (by omega) hK) hKB,by omega,by omega,by omega,by omega,by omega,by simp[bZ,Pn.scan],by simp[bZ,Pn.scan]⟩;rw[eF Tryz.func129 rfl rfl];simp[PSt,ht,hv,v0,we,hkid,hW,hkk,wn,hq,rX,rS,bl,he,hf,bZ,Ex.aB,aH,Pn.aB,Pn.aA K,Ex.aA e,hj]
theorem AEO {l:List UInt8} (hl:l.length≤2000) {ws:List Int} {k:Nat} {d j c2:Nat} {p u t v W kk p1 u1:Int} {j1:Nat} {K:Pn} (H:PlH l ws k d j c2 p u t v W kk p1 u1 j1 K) (hj:j1≠0) (hw4:¬ W≤4) (hq:kk=6):RtC l ws k d j c2 p u p1 j1:=by
 obtain⟨hd,h1,hp1,hu0,hu1,hW0,hW6,hKB,ht,hv,v0,hkid,hW,hkk⟩:=H;have we:IntKind.i64.wrap (d:Int)=d:=wrO;have hK:=hKB.1;have wn:¬ ((d:Int)+1=0):=by omega
 simp only[PSt]at hkid;rw[Pn.aA K]at hkid hW;have hj':0<j1:=by omega
 obtain⟨e,p2,he,a1,a2,a3⟩:=aQ l hl W (p1+1) (by omega) (by omega);have hf:=eO e K;rw[Pn.aA K,Ex.aA e]at hf;rw[Ex.aA e]at he;refine⟨bZ e K,p2,u1,j1,?_,Th.one (d9 (by omega) hK) hKB,by omega,by omega,by omega,by omega,by omega,by simp[bZ,Pn.scan],by simp[bZ,Pn.scan]⟩;rw[eF Tryz.func129 rfl rfl];simp[PSt,ht,hv,v0,we,hkid,hW,hkk,wn,hq,rX,rS,bl,he,hf,bZ,Ex.aB,aH,Pn.aB,Pn.aA K,Ex.aA e,hj',hj,hw4]
theorem V9 {l:List UInt8} (hl:l.length≤2000) {ws:List Int} {k:Nat} {d j c2:Nat} {p u t v W kk p1 u1:Int} {j1:Nat} {K:Pn} (H:PlH l ws k d j c2 p u t v W kk p1 u1 j1 K) (hu:¬ 0<u1) (hq:kk=7):RtC l ws k d j c2 p u p1 j1:=by
 obtain⟨hd,h1,hp1,hu0,hu1,hW0,hW6,hKB,ht,hv,v0,hkid,hW,hkk⟩:=H;have we:IntKind.i64.wrap (d:Int)=d:=wrO;have hK:=hKB.1;have wn:¬ ((d:Int)+1=0):=by omega
 simp only[PSt]at hkid;rw[Pn.aA K]at hkid hW;obtain⟨e,p2,he,a1,a2,a3⟩:=aQ l hl W (p1+1) (by omega) (by omega);have hf:=eO e K;rw[Pn.aA K,Ex.aA e]at hf;rw[Ex.aA e]at he;refine⟨bZ e K,p2,u1,j1,?_,Th.one (d9 (by omega) hK) hKB,by omega,by omega,by omega,by omega,by omega,by simp[bZ,Pn.scan],by simp[bZ,Pn.scan]⟩;rw[eF Tryz.func129 rfl rfl];simp[PSt,ht,hv,v0,we,hkid,hW,hkk,wn,hq,rX,rS,bl,he,hf,bZ,Ex.aB,aH,Pn.aB,Pn.aA K,Ex.aA e,hu]
theorem AEQ {l:List UInt8} (hl:l.length≤2000) {ws:List Int} {k:Nat} {d j c2:Nat} {p u t v W kk p1 u1:Int} {j1:Nat} {K:Pn} (H:PlH l ws k d j c2 p u t v W kk p1 u1 j1 K) (hu:0<u1) (hq:kk=7):RtC l ws k d j c2 p u p1 j1:=by
 obtain⟨hd,h1,hp1,hu0,hu1,hW0,hW6,hKB,ht,hv,v0,hkid,hW,hkk⟩:=H;have we:IntKind.i64.wrap (d:Int)=d:=wrO;have hK:=hKB.1;have wn:¬ ((d:Int)+1=0):=by omega
 simp only[PSt]at hkid;rw[Pn.aA K]at hkid hW;obtain⟨e,p2,he,a1,a2,a3⟩:=aQ l hl W (p1+1) (by omega) (by omega);have hf:=eO e K;have hc:=MN K hK;have wu:IntKind.i64.wrap (u1-1)=u1-1:=wrO;rw[Pn.aA K,Ex.aA e]at hf;rw[Pn.aA K]at hc;rw[Ex.aA e]at he;refine⟨.mk 6 0 [] [] [K,bZ e K],p2,u1-1,j1,?_,Th.un (by have:=d9 (e:=e) (by omega) hK;unfold bZ at this;simp[Pn.thin,Pn.kC,hK]at this ⊢;exact this) hKB,by omega,by omega,by omega,by omega,by omega,by simp[bZ,Pn.scan],by simp[bZ,Pn.scan]⟩;rw[eF Tryz.func129 rfl rfl];simp[PSt,ht,hv,v0,we,hkid,hW,hkk,wn,hq,rX,rS,bl,he,hf,bZ,Ex.aB,aH,Pn.aB,Pn.aA K,Ex.aA e,hu,hc,wu,Pn.aZ,Ex.aB,aH,Pn.aB]
theorem ZM {l:List UInt8} (hl:l.length≤2000) {ws:List Int} {k:Nat} {d j c2:Nat} {p u t v W kk p1 u1:Int} {j1:Nat} {K:Pn} (H:PlH l ws k d j c2 p u t v W kk p1 u1 j1 K) (hw1:¬ 1<W) (hq:kk=9):RtC l ws k d j c2 p u p1 j1:=by
 obtain⟨hd,h1,hp1,hu0,hu1,hW0,hW6,hKB,ht,hv,v0,hkid,hW,hkk⟩:=H;have we:IntKind.i64.wrap (d:Int)=d:=wrO;have hK:=hKB.1;have wn:¬ ((d:Int)+1=0):=by omega
 simp only[PSt]at hkid;rw[Pn.aA K]at hkid hW;refine⟨.mk 8 0 [] [] [K],p1+1,u1,j1,?_,Th.one (by simp[Pn.thin,Pn.kC,hK]) hKB,by omega,by omega,by omega,by omega,by omega,by simp[bZ,Pn.scan],by simp[bZ,Pn.scan]⟩;rw[eF Tryz.func129 rfl rfl];simp[PSt,ht,hv,v0,we,hkid,hW,hkk,wn,hq,rX,rS,bl,hw1,Pn.aZ,Ex.aB,aH,Pn.aB,Pn.aA K]
theorem ZL {l:List UInt8} (hl:l.length≤2000) {ws:List Int} {k:Nat} {d j c2:Nat} {p u t v W kk p1 u1:Int} {j1:Nat} {K:Pn} (H:PlH l ws k d j c2 p u t v W kk p1 u1 j1 K) (hw1:1<W) (hq:kk=9):RtC l ws k d j c2 p u p1 j1:=by
 obtain⟨hd,h1,hp1,hu0,hu1,hW0,hW6,hKB,ht,hv,v0,hkid,hW,hkk⟩:=H;have we:IntKind.i64.wrap (d:Int)=d:=wrO;have hK:=hKB.1;have wn:¬ ((d:Int)+1=0):=by omega
 simp only[PSt]at hkid;rw[Pn.aA K]at hkid hW;obtain⟨g,hg,-,-⟩:=bK l (p1+1) W (by omega) (by omega) hl;refine⟨.mk 8 0 [] [g] [K],p1+1+1,u1,j1,?_,Th.one (by simp[Pn.thin,Pn.kC,hK]) hKB,by omega,by omega,by omega,by omega,by omega,by simp[bZ,Pn.scan],by simp[bZ,Pn.scan]⟩;rw[eF Tryz.func129 rfl rfl];simp[PSt,ht,hv,v0,we,hkid,hW,hkk,wn,hq,rX,rS,bl,hg,hw1,Pn.aZ,Ex.aB,aH,Pn.aB,Pn.aA K]
theorem AEU {l:List UInt8} (hl:l.length≤2000) {ws:List Int} (hw:∀ w∈ws,0≤w∧w≤6) (hwl:ws.length<1000000) {k:Nat} (hk0:0<k) (hkl:k≤ws.length) {d j c2:Nat} {p u t v W kk p1 u1:Int} {j1:Nat} {K:Pn} (H:PlH l ws k d j c2 p u t v W kk p1 u1 j1 K) (hj:j1≠0) (hjb:j1<1000) (hw4:W≤4) (hoth:∀ y:Nat,y≤1→pJ l ws k y (j1-1) c2) (hq:kk=5):RtC l ws k d j c2 p u p1 j1:=by
 obtain⟨hd,h1,hp1,hu0,hu1,hW0,hW6,hKB,ht,hv,v0,hkid,hW,hkk⟩:=H;have we:IntKind.i64.wrap (d:Int)=d:=wrO;have hK:=hKB.1;have wn:¬ ((d:Int)+1=0):=by omega
 simp only[PSt]at hkid;rw[Pn.aA K]at hkid hW;have hj':0<j1:=by omega
 have wj:IntKind.i64.wrap ((j1:Int)-1)=((j1-1:Nat):Int):=by rw[wrO];omega
 obtain⟨x,hx,hx1,-⟩:=bK l (p1+1) 2 (by omega) (by omega) hl;obtain⟨x0,x1⟩:=hx1 (by omega)
 obtain⟨y,rfl⟩:∃ y:Nat,x=y:=⟨x.toNat,by omega⟩
 obtain⟨O,p2,u2,j2,hO,hOt,b1,b2,b3,b4,b5⟩:=hoth y (by omega) (p1+1+1) u1 (by omega) (by omega) hu0 hu1;have hV:=iR hw hwl hk0 hkl O hOt.1;have hVr:=Pn.mH (ws:=ws.take k) (fun w hm=>hw w (zH hm)) O 8;generalize O.wd (ws.take k) 8=V at hV hVr;have wv:IntKind.i64.wrap (W+V)=W+V:=wrO;simp only[PSt]at hO;rw[Pn.aA O]at hO hV;by_cases hs:W+V≤6
 ·have h1:=rJ l p2 (by omega) (by omega) hl [[.int 4],[.int 5]] (by simp) (by simp) (by simp);obtain⟨z,hz,hzm⟩:=h1;obtain⟨e,p3,he,a1,a2,a3⟩:=aQ l hl (W+V) (p2+1) (by omega) (by omega);rw[Ex.aA e]at he;simp only[zI,yJ,zB,Nat.reduceAdd]at hz;have het:=Ex.dJ e (by omega);refine⟨.mk z 0 [e] [] [K,O],p3,u2,j2,?_,Th.jn (by simp[Pn.thin,Pn.kC,hK,hOt.1,het]) hj hKB hOt,by omega,by omega,by omega,by omega,by omega,by simp[bZ,Pn.scan],by simp[bZ,Pn.scan]⟩;rw[eF Tryz.func129 rfl rfl];simp[PSt,ht,hv,v0,we,hkid,hW,hkk,wn,hq,hj',hj,hw4,wj,hx,hO,hV,wv,hs,hz,he,rX,rS,bl,Pn.aZ,Ex.aB,aH,Pn.aB,Pn.aA K,Pn.aA O,Ex.aA e]
 ·obtain⟨e,p3,he,a1,a2,a3⟩:=aQ l hl W p2 (by omega) (by omega);have hf:=eO e K;rw[Pn.aA K,Ex.aA e]at hf;rw[Ex.aA e]at he;refine⟨bZ e K,p3,u2,j2,?_,Th.skip (d9 (by omega) hK) hKB (by omega) hOt.2.1.2.1,by omega,by omega,by omega,by omega,by omega,by simp[bZ,Pn.scan],by simp[bZ,Pn.scan]⟩;rw[eF Tryz.func129 rfl rfl];simp[PSt,ht,hv,v0,we,hkid,hW,hkk,wn,hq,hj',hj,hw4,wj,hx,hO,hV,wv,hs,rX,rS,bl,he,hf,bZ,Ex.aB,aH,Pn.aB,Pn.aA K,Ex.aA e]
theorem AET {l:List UInt8} (hl:l.length≤2000) {ws:List Int} (hw:∀ w∈ws,0≤w∧w≤6) (hwl:ws.length<1000000) {k:Nat} (hk0:0<k) (hkl:k≤ws.length) {d j c2:Nat} {p u t v W kk p1 u1:Int} {j1:Nat} {K:Pn} (H:PlH l ws k d j c2 p u t v W kk p1 u1 j1 K) (hj:j1≠0) (hjb:j1<1000) (hw4:W≤4) (hoth:∀ y:Nat,y≤1→pJ l ws k y (j1-1) c2) (hq:kk=6):RtC l ws k d j c2 p u p1 j1:=by
 obtain⟨hd,h1,hp1,hu0,hu1,hW0,hW6,hKB,ht,hv,v0,hkid,hW,hkk⟩:=H;have we:IntKind.i64.wrap (d:Int)=d:=wrO;have hK:=hKB.1;have wn:¬ ((d:Int)+1=0):=by omega
 simp only[PSt]at hkid;rw[Pn.aA K]at hkid hW;have hj':0<j1:=by omega
 have wj:IntKind.i64.wrap ((j1:Int)-1)=((j1-1:Nat):Int):=by rw[wrO];omega
 obtain⟨x,hx,hx1,-⟩:=bK l (p1+1) 2 (by omega) (by omega) hl;obtain⟨x0,x1⟩:=hx1 (by omega)
 obtain⟨y,rfl⟩:∃ y:Nat,x=y:=⟨x.toNat,by omega⟩
 obtain⟨O,p2,u2,j2,hO,hOt,b1,b2,b3,b4,b5⟩:=hoth y (by omega) (p1+1+1) u1 (by omega) (by omega) hu0 hu1;have hV:=iR hw hwl hk0 hkl O hOt.1;have hVr:=Pn.mH (ws:=ws.take k) (fun w hm=>hw w (zH hm)) O 8;generalize O.wd (ws.take k) 8=V at hV hVr;have wv:IntKind.i64.wrap (W+V)=W+V:=wrO;simp only[PSt]at hO;rw[Pn.aA O]at hO hV;by_cases hs:W+V≤6
 ·have h1:=rJ l p2 (by omega) (by omega) hl [[.int 4],[.int 5]] (by simp) (by simp) (by simp);obtain⟨z,hz,hzm⟩:=h1;obtain⟨e,p3,he,a1,a2,a3⟩:=aQ l hl (W+V) (p2+1) (by omega) (by omega);rw[Ex.aA e]at he;simp only[zI,yJ,zB,Nat.reduceAdd]at hz;have het:=Ex.dJ e (by omega);refine⟨.mk z 0 [e] [] [K,O],p3,u2,j2,?_,Th.jn (by simp[Pn.thin,Pn.kC,hK,hOt.1,het]) hj hKB hOt,by omega,by omega,by omega,by omega,by omega,by simp[bZ,Pn.scan],by simp[bZ,Pn.scan]⟩;rw[eF Tryz.func129 rfl rfl];simp[PSt,ht,hv,v0,we,hkid,hW,hkk,wn,hq,hj',hj,hw4,wj,hx,hO,hV,wv,hs,hz,he,rX,rS,bl,Pn.aZ,Ex.aB,aH,Pn.aB,Pn.aA K,Pn.aA O,Ex.aA e]
 ·obtain⟨e,p3,he,a1,a2,a3⟩:=aQ l hl W p2 (by omega) (by omega);have hf:=eO e K;rw[Pn.aA K,Ex.aA e]at hf;rw[Ex.aA e]at he;refine⟨bZ e K,p3,u2,j2,?_,Th.skip (d9 (by omega) hK) hKB (by omega) hOt.2.1.2.1,by omega,by omega,by omega,by omega,by omega,by simp[bZ,Pn.scan],by simp[bZ,Pn.scan]⟩;rw[eF Tryz.func129 rfl rfl];simp[PSt,ht,hv,v0,we,hkid,hW,hkk,wn,hq,hj',hj,hw4,wj,hx,hO,hV,wv,hs,rX,rS,bl,he,hf,bZ,Ex.aB,aH,Pn.aB,Pn.aA K,Ex.aA e]
theorem AES {l:List UInt8} (hl:l.length≤2000) {ws:List Int} {k:Nat} {d j c2:Nat} {p u t v W kk p1 u1:Int} {j1:Nat} {K:Pn} (H:PlH l ws k d j c2 p u t v W kk p1 u1 j1 K) (hq:kk=3):RtC l ws k d j c2 p u p1 j1:=by
 obtain⟨hd,h1,hp1,hu0,hu1,hW0,hW6,hKB,ht,hv,v0,hkid,hW,hkk⟩:=H;have we:IntKind.i64.wrap (d:Int)=d:=wrO;have hK:=hKB.1;have wn:¬ ((d:Int)+1=0):=by omega
 simp only[PSt]at hkid;rw[Pn.aA K]at hkid hW;obtain⟨m,hm,hm1,-⟩:=bK l (p1+1) 2 (by omega) (by omega) hl;obtain⟨m0,m1⟩:=hm1 (by omega);have w2:IntKind.i64.wrap (2:Int)=2:=wrO;have w1:=bD;have w0:IntKind.i64.wrap (0:Int)=0:=wrO;obtain⟨x1,hx1,hy1,-⟩:=bK l (p1+1+1) 2 (by omega) (by omega) hl;obtain⟨x1a,x1b⟩:=hy1 (by omega)
 obtain⟨y1,rfl⟩:∃ y:Nat,x1=y:=⟨x1.toNat,by omega⟩
 have hc1:lF y1≤9:=by rcases(show y1=0∨y1=1 by omega)with h|h<;>simp[h,lF]
 obtain⟨e1,q1,he1,c1a,c1b,c1c⟩:=rE l hl W y1 (by omega) (by omega) ((p1+1+1)+1) (by omega) (by omega);rw[Ex.aA e1]at he1;have t1:=Ex.dJ e1 (by omega)
 rcases(show m=0∨m=1 by omega)with rfl|rfl
 ·refine⟨.mk 3 0 [e1] [] [K],q1,u1,j1,?_,Th.one (by simp[Pn.thin,Pn.kC,hK,t1]) hKB,by omega,by omega,by omega,by omega,by omega,by simp[bZ,Pn.scan],by simp[bZ,Pn.scan]⟩;rw[eF Tryz.func129 rfl rfl];simp[PSt,ht,hv,v0,we,hkid,hW,hkk,wn,hq,hm,w1];rw[aF];simp[hx1,he1,w0];rw[aF];simp[rX,rS,bl,Pn.aZ,Ex.aB,aH,Pn.aB,Pn.aA K,Ex.aA e1,PSt]
 ·obtain⟨x2,hx2,hy2,-⟩:=bK l q1 2 (by omega) (by omega) hl;obtain⟨x2a,x2b⟩:=hy2 (by omega)
  obtain⟨y2,rfl⟩:∃ y:Nat,x2=y:=⟨x2.toNat,by omega⟩
  have hc2:lF y2≤9:=by rcases(show y2=0∨y2=1 by omega)with h|h<;>simp[h,lF]
  obtain⟨e2,q2,he2,c2a,c2b,c2c⟩:=rE l hl W y2 (by omega) (by omega) (q1+1) (by omega) (by omega);rw[Ex.aA e2]at he2;have t2:=Ex.dJ e2 (by omega);refine⟨.mk 3 0 [e1,e2] [] [K],q2,u1,j1,?_,Th.one (by simp[Pn.thin,Pn.kC,hK,t1,t2]) hKB,by omega,by omega,by omega,by omega,by omega,by simp[bZ,Pn.scan],by simp[bZ,Pn.scan]⟩;rw[eF Tryz.func129 rfl rfl];simp[PSt,ht,hv,v0,we,hkid,hW,hkk,wn,hq,hm,w2];rw[aF];simp[hx1,he1,w1];rw[aF];simp[hx2,he2,w0];rw[aF];simp[rX,rS,bl,Pn.aZ,Ex.aB,aH,Pn.aB,Pn.aA K,Ex.aA e1,Ex.aA e2,PSt]
theorem AER {l:List UInt8} (hl:l.length≤2000) {ws:List Int} {k:Nat} {d j c2:Nat} {p u t v W kk p1 u1:Int} {j1:Nat} {K:Pn} (H:PlH l ws k d j c2 p u t v W kk p1 u1 j1 K) (hq:kk=4):RtC l ws k d j c2 p u p1 j1:=by
 obtain⟨hd,h1,hp1,hu0,hu1,hW0,hW6,hKB,ht,hv,v0,hkid,hW,hkk⟩:=H;have we:IntKind.i64.wrap (d:Int)=d:=wrO;have hK:=hKB.1;have wn:¬ ((d:Int)+1=0):=by omega
 simp only[PSt]at hkid;rw[Pn.aA K]at hkid hW;obtain⟨m,hm,hm1,-⟩:=bK l (p1+1) 2 (by omega) (by omega) hl;obtain⟨m0,m1⟩:=hm1 (by omega);have w2:IntKind.i64.wrap (2:Int)=2:=wrO;have w1:=bD;have w0:IntKind.i64.wrap (0:Int)=0:=wrO;obtain⟨x1,hx1,hy1,-⟩:=bK l (p1+1+1) 2 (by omega) (by omega) hl;obtain⟨x1a,x1b⟩:=hy1 (by omega)
 obtain⟨y1,rfl⟩:∃ y:Nat,x1=y:=⟨x1.toNat,by omega⟩
 have hc1:lF y1≤9:=by rcases(show y1=0∨y1=1 by omega)with h|h<;>simp[h,lF]
 obtain⟨e1,q1,he1,c1a,c1b,c1c⟩:=rE l hl W y1 (by omega) (by omega) ((p1+1+1)+1) (by omega) (by omega);rw[Ex.aA e1]at he1;have t1:=Ex.dJ e1 (by omega)
 rcases(show m=0∨m=1 by omega)with rfl|rfl
 ·refine⟨.mk 3 0 [e1] [] [K],q1,u1,j1,?_,Th.one (by simp[Pn.thin,Pn.kC,hK,t1]) hKB,by omega,by omega,by omega,by omega,by omega,by simp[bZ,Pn.scan],by simp[bZ,Pn.scan]⟩;rw[eF Tryz.func129 rfl rfl];simp[PSt,ht,hv,v0,we,hkid,hW,hkk,wn,hq,hm,w1];rw[aF];simp[hx1,he1,w0];rw[aF];simp[rX,rS,bl,Pn.aZ,Ex.aB,aH,Pn.aB,Pn.aA K,Ex.aA e1,PSt]
 ·obtain⟨x2,hx2,hy2,-⟩:=bK l q1 2 (by omega) (by omega) hl;obtain⟨x2a,x2b⟩:=hy2 (by omega)
  obtain⟨y2,rfl⟩:∃ y:Nat,x2=y:=⟨x2.toNat,by omega⟩
  have hc2:lF y2≤9:=by rcases(show y2=0∨y2=1 by omega)with h|h<;>simp[h,lF]
  obtain⟨e2,q2,he2,c2a,c2b,c2c⟩:=rE l hl W y2 (by omega) (by omega) (q1+1) (by omega) (by omega);rw[Ex.aA e2]at he2;have t2:=Ex.dJ e2 (by omega);refine⟨.mk 3 0 [e1,e2] [] [K],q2,u1,j1,?_,Th.one (by simp[Pn.thin,Pn.kC,hK,t1,t2]) hKB,by omega,by omega,by omega,by omega,by omega,by simp[bZ,Pn.scan],by simp[bZ,Pn.scan]⟩;rw[eF Tryz.func129 rfl rfl];simp[PSt,ht,hv,v0,we,hkid,hW,hkk,wn,hq,hm,w2];rw[aF];simp[hx1,he1,w1];rw[aF];simp[hx2,he2,w0];rw[aF];simp[rX,rS,bl,Pn.aZ,Ex.aB,aH,Pn.aB,Pn.aA K,Ex.aA e1,Ex.aA e2,PSt]
theorem AII {l:List UInt8} (hl:l.length≤2000) {ws:List Int} (hw:∀ w∈ws,0≤w∧w≤6) (hwl:ws.length<1000000) {k:Nat} (hk0:0<k) (hkl:k≤ws.length) {d j c c2:Nat} (hd:d<100) (hjb:j<1000) (ih:pJ l ws k d j c) (hoth:∀ i:Nat,i<j→∀ y:Nat,y≤1→pJ l ws k y i c2):YQ l ws k (d+1) j (c+c2+500):=by
 intro p u h0 h1 hu0 hu1;obtain⟨t,ht,-,-⟩:=bK l p k h0 (by omega) hl;obtain⟨v,hv,-,-⟩:=bK l (p+1) 6 (by omega) (by omega) hl;by_cases v0:v=0
 ·subst v0;exact⟨.scan t,p+1+1,u,j,AIJ hd ht hv,Th.scan (Pn.K6 t) _ _,by omega,by omega,by omega,by omega,by omega,by simp[Pn.scan],by simp[Pn.scan]⟩
 obtain⟨K,p1,u1,j1,hkid,hK,a1,a2,a3,a4,a5⟩:=ih (p+1+1) u (by omega) (by omega) hu0 hu1;have hW:=iR hw hwl hk0 hkl K hK.1;have hWr:=Pn.mH (ws:=ws.take k) (fun w hm=>hw w (zH hm)) K 8;generalize K.wd (ws.take k) 8=W at hW hWr;obtain⟨kk,hkk,hkk1,-⟩:=bK l p1 10 (by omega) (by omega) hl;obtain⟨kk0,kk9⟩:=hkk1 (by omega)
 suffices H:∃ (P:Pn) (p' u':Int) (j':Nat),pU CQ true 129 [.own 0 0, .int ((d+1:Nat):Int)] (PSt l ws k j u p)=some (rX 3 P,PSt l ws k j' u' p'++rS P)∧Th P j j' u u'∧p1≤p'∧p'≤p1+400+c2∧j'≤j1∧0≤u'∧u'≤1∧P.exprs.length≤2∧P.cols.length≤1 by
  obtain⟨P,p',u',j',b1,b2,b3,b4,b5,b6,b7,b8⟩:=H;exact⟨P,p',u',j',b1,b2,by omega,by omega,by omega,b6,b7,b8⟩
 have hb:p1+400+c2<300000000:=by omega
 have hp1:0≤p1:=by omega
 have H:PlH _ _ _ _ _ _ _ _ _ _ _ _ _ _ _ _:=⟨hd,hb,hp1,a4,a5,hWr.1,hWr.2,hK,ht,hv,v0,hkid,hW,hkk⟩
 by_cases q0:kk=0
 ·exact VE hl H q0
 by_cases q1:kk=1
 ·exact VD hl H q1
 by_cases q2:kk=2
 ·exact VC hl H q2
 by_cases q3:kk=3
 ·exact AES hl H q3
 by_cases q4:kk=4
 ·exact AER hl H q4
 by_cases q5:kk=5
 ·by_cases hj:j1=0
  ·exact VB hl H hj q5
  by_cases hw4:W≤4
  ·exact AEU hl hw hwl hk0 hkl H hj (by omega) hw4 (fun y hy=>hoth (j1-1) (by omega) y hy) q5
  ·exact AEP hl H hj hw4 q5
 by_cases q6:kk=6
 ·by_cases hj:j1=0
  ·exact VA hl H hj q6
  by_cases hw4:W≤4
  ·exact AET hl hw hwl hk0 hkl H hj (by omega) hw4 (fun y hy=>hoth (j1-1) (by omega) y hy) q6
  ·exact AEO hl H hj hw4 q6
 by_cases q7:kk=7
 ·by_cases hu:0<u1
  ·exact AEQ hl H hu q7
  ·exact V9 hl H hu q7
 by_cases q8:kk=8
 ·exact RG hl H q8
 have q9:kk=9:=by omega
 by_cases hw1:1<W
 ·exact ZL hl H hw1 q9
 ·exact ZM hl H hw1 q9
theorem YQ.le {l:List UInt8} {ws:List Int} {k:Nat} {d j c c':Nat} (h:YQ l ws k d j c) (hc:c≤c'):YQ l ws k d j c':=by
 intro p u h0 h1 hu0 hu1;obtain⟨P,p',u',j',b1,b2,b3,b4,b5,b6,b7,b8⟩:=h p u h0 (by omega) hu0 hu1;exact⟨P,p',u',j',b1,b2,b3,by omega,b5,b6,b7,b8⟩
theorem AO3 {l:List UInt8} (hl:l.length≤2000) {ws:List Int} (hw:∀ w∈ws,0≤w∧w≤6) (hwl:ws.length<1000000) {k:Nat} (hk0:0<k) (hkl:k≤ws.length) (d:Nat) (h:d+1<50):YQ l ws k (d+1) 1 (2000*(d+1)+1) :=
 (AII hl hw hwl hk0 hkl (c2:=501) (by omega) (by omega) (AC0 hl hw hwl hk0 hkl d (by omega)) (fun i hi y hy=>by
  obtain rfl:i=0:=by omega
  exact(KM hl hw hwl hk0 hkl y (by omega)).le (by omega))).le (by omega)
@[simp] theorem Ad4 (a:List AV) (st:StL):aG CR 129 a st=pU CQ true 129 a st:=by rw[aN (p:=pU CQ true 129) rfl]
@[simp] theorem AV8 (a:List AV) (st:StL):aG CR 130 a st=pU C0 true 130 a st:=by rw[aN (p:=pU C0 true 130) rfl]
@[simp] theorem AS0 (a:List AV) (st:StL):aG CR 45 a st=AFF (aG C0) 45 a st:=by rw[aN (p:=AFF (aG C0) 45) rfl]
@[simp] theorem Ad5 (a:List AV) (st:StL):aG CR 40 a st=aG C0 40 a st:=by rw[aN (p:=aG C0 40) rfl]
@[simp] theorem AeE (a:List AV) (st:StL):aG CR 81 a st=aG C0 81 a st:=by rw[aN (p:=aG C0 81) rfl]
@[simp] theorem Ad6 (a:List AV) (st:StL):aG CR 131 a st=aG C0 131 a st:=by rw[aN (p:=aG C0 131) rfl]
@[simp] theorem AX6 (a:List AV) (st:StL):aG CR 82 a st=aG C0 82 a st:=by rw[aN (p:=aG C0 82) rfl]
theorem dF {α:Type} (l:List α):l=[]∨(l.length≠0∧l≠[]∧0<l.length):=by cases l<;>simp
theorem KH {l:List UInt8} (hl:l.length≤2000) {ws:List Int} (hw:∀ w∈ws,0≤w∧w≤6) (hwl:ws.length<1000000) (hk0:0<ws.length) (p:Int) (h0:0≤p) (h1:p+20000<200000000):∃ (P:Pn) (p':Int),
 aG CR 80 [.own 0 0, .osl 1 1 0 ws.length] [Rd l p,some (.arr 1 (aH ws))]=some (rX 2 P,[Rd l p',some (.arr 1 (aH ws))]++rS P)∧Rt P∧p≤p'∧p'≤p+20000∧P.exprs.length≤2∧P.cols.length≤1:=by
 obtain⟨v,hv,hv1,-⟩:=bK l p 4 h0 (by omega) hl;obtain⟨v0,v1⟩:=hv1 (by omega)
 obtain⟨y,rfl⟩:∃ y:Nat,v=y:=⟨v.toNat,by omega⟩
 have w1:IntKind.i64.wrap (1+(y:Int))=((y+1:Nat):Int):=by rw[wrO];omega
 obtain⟨P,p1,u',j',hP,hPt,b1,b2,b3,b4,b5,b6,b7⟩:=AO3 hl hw hwl hk0 (zL _) y (by omega) (p+1) 1 (by omega) (by omega) (by omega) (by omega);simp only[PSt,Int.natCast_one,zG9]at hP;obtain⟨z,hz,-,-⟩:=bK l p1 2 (by omega) (by omega) hl;have te:P.exprs.take P.exprs.length=P.exprs:=zZ (by simp);have tc:P.cols.take P.cols.length=P.cols:=zZ (by simp);have tk:P.kids.take P.kids.length=P.kids:=zZ (by simp);by_cases hz0:z=0
 ·have hW:=sK hw (by omega) P (Pn.J3 P hPt.1) 8 (by omega);have twd:ws.take ws.length=ws:=zZ (by simp);obtain⟨e,p2,he,a1,a2,a3⟩:=aQ l hl (P.wd ws 8) (p1+1) (by omega) (by omega);have hf:=eO e P;refine⟨bZ e P,p2,?_,Rt.one (AKW a3 hPt.1) (hPt.rt b4),by omega,by omega,by simp[bZ],by simp[bZ]⟩;rw[aD rfl Tryz.func80 rfl rfl];rw[Pn.aA P,Ex.aA e]at hf;rw[Ex.aA e]at he;rw[Pn.aA P]at hW
  rcases dF P.exprs with ce|⟨ce,ce',ce''⟩<;>rcases dF P.cols with cc|⟨cc,cc',cc''⟩<;>rcases dF P.kids with ck|⟨ck,ck',ck''⟩ <;>
   (simp[rX,rS,bl, *,aM,aI,Ex.aB,aH,Pn.aB]at hP hW hf
    simp[hv,w1,hP,hz,hz0,hW,he,hf,rX,rS,bl,bZ,AFF,CY,U8,G7,U9,R3,pF, *,Ex.aB,aH,Pn.aB,Pn.aA P,Ex.aA e])
 ·refine⟨P,p1+1,?_,hPt.rt b4,by omega,by omega,b6,b7⟩;rw[aD rfl Tryz.func80 rfl rfl]
  rcases dF P.exprs with ce|⟨ce,ce',ce''⟩<;>rcases dF P.cols with cc|⟨cc,cc',cc''⟩<;>rcases dF P.kids with ck|⟨ck,ck',ck''⟩ <;>
   (simp[rX,rS,bl, *,aM,aI,Ex.aB,aH,Pn.aB]at hP
    simp[hv,w1,hP,hz,hz0,rX,rS,bl, *,aM,aI])
theorem IY (l:List UInt8) (hl:l.length≤2000) (p:Int) (h0:0≤p) (h1:p<900000000):∃ (a b:Int) (r:List Int) (p':Int),aG C0 37 [.own 0 0] [Rd l p]=some (.osl 1 1 0 (r.length+2),[Rd l p',some (.arr 1 (aH (a::b::r)))])∧p≤p'∧p'≤p+4∧1≤a∧a≤2∧1≤b∧b≤2∧r.length≤1∧∀ w∈r,1≤w∧w≤2:=by
 obtain⟨n,hn,hn1,-⟩:=bK l p 2 h0 (by omega) hl;obtain⟨a,ha,ha1,-⟩:=bK l (p+1) 2 (by omega) (by omega) hl;obtain⟨b,hb,hb1,-⟩:=bK l (p+1+1) 2 (by omega) (by omega) hl;have wa:IntKind.i64.wrap (1+a)=1+a:=wrO;have wb:IntKind.i64.wrap (1+b)=1+b:=wrO;have w2:IntKind.i64.wrap (2:Int)=2:=wrO;have w3:IntKind.i64.wrap (3:Int)=3:=wrO;have w1:=bD;have w0:IntKind.i64.wrap (0:Int)=0:=wrO;obtain⟨n0,n1⟩:=hn1 (by omega);have hn2:n=0∨n=1:=by omega
 rcases hn2 with rfl|rfl
 ·refine⟨1+a,1+b,[],p+1+1+1,?_,by omega,by omega,by omega,by omega,by omega,by omega,by simp,by simp⟩;rw[aD rfl Tryz.func37 rfl rfl];simp[hn,w2];rw[aF];simp[ha,wa,w1];rw[aF];simp[hb,wb,w0];rw[aF];simp[aH]
 ·obtain⟨c,hc,hc1,-⟩:=bK l (p+1+1+1) 2 (by omega) (by omega) hl;have wc:IntKind.i64.wrap (1+c)=1+c:=wrO;refine⟨1+a,1+b,[1+c],p+1+1+1+1,?_,by omega,by omega,by omega,by omega,by omega,by omega,by simp,by simp;omega⟩;rw[aD rfl Tryz.func37 rfl rfl];simp[hn,w3];rw[aF];simp[ha,wa,w2];rw[aF];simp[hb,wb,w1];rw[aF];simp[hc,wc,w0];rw[aF];simp[aH]
theorem Pn.UH {P:Pn} (h:P.thin) (k t:Int):(Pn.mk k t P.exprs P.cols P.kids).thin:=by
 rw[Pn.kN]at h ⊢;exact h
theorem Pn.AHP {P:Pn} (h:P.thin) (c:List Int) (hc:c.length<1000000000):(Pn.mk P.kind P.table P.exprs c P.kids).thin:=by
 rw[Pn.kN]at h ⊢;exact⟨h.1,h.2.1,hc,h.2.2.2⟩
theorem Pn.ADY {P:Pn} (h:P.thin) {e:Ex} (he:e.thin) (hl:P.exprs.length+1<1000000000):(Pn.mk P.kind P.table (P.exprs++[e]) P.cols P.kids).thin:=by
 rw[Pn.kN]at h ⊢;refine⟨by simpa [Pn.exprs]using hl,fun x hx=>?_,h.2.2⟩;simp only[Pn.exprs,zT,yA]at hx
 rcases hx with hx|rfl
 ·exact h.2.1 x hx
 ·exact he
theorem YK {l:List UInt8} (hl:l.length≤2000) {ws:List Int} (hw:∀ w∈ws,0≤w∧w≤6) (hwl:ws.length<1000000) (hk0:0<ws.length) (p:Int) (h0:0≤p) (h1:p+30000<200000000):∃ (P:Pn) (p':Int),
 aG CR 38 [.own 0 0, .osl 1 1 0 ws.length] [Rd l p,some (.arr 1 (aH ws))]=some (rX 2 P,[Rd l p',some (.arr 1 (aH ws))]++rS P)∧(P.thin∧BdV P)∧p≤p'∧p'≤p+30000:=by
 obtain⟨P,p1,hP,hPt,b1,b2,b6,b7⟩:=KH hl hw hwl hk0 p h0 (by omega);obtain⟨k,hk,-,-⟩:=bK l p1 18 (by omega) (by omega) hl;have te:P.exprs.take P.exprs.length=P.exprs:=zZ (by simp);have tc:P.cols.take P.cols.length=P.cols:=zZ (by simp);have hthin:=(Pn.kN P).1 hPt.1;by_cases k0:k=0
 ·obtain⟨x,hx,-⟩:=rJ l (p1+1) (by omega) (by omega) hl [[.int 0],[.int 9],[.int 1],[.int 4]] (by simp) (by simp) (by simp);simp only[zI,yJ,zB,Nat.reduceAdd]at hx;refine⟨.mk x P.table P.exprs P.cols P.kids,p1+1+1,?_,⟨Pn.UH hPt.1 _ _,hPt.head⟩,by omega,by omega⟩;rw[aD rfl Tryz.func38 rfl rfl]
  rcases dF P.exprs with ce|⟨ce,ce',ce''⟩<;>rcases dF P.cols with cc|⟨cc,cc',cc''⟩<;>rcases dF P.kids with ck|⟨ck,ck',ck''⟩ <;>
   (simp[rX,rS,bl,ce,cc,ck,aM,aI]at hP
    simp[hP,hk,k0,hx,rX,rS,bl,ce,cc,ck,aM,aI])
 by_cases k1:k=1
 ·obtain⟨x,hx,-⟩:=rJ l (p1+1) (by omega) (by omega) hl [[.int (-1)],[.int 4],[.int 1]] (by simp) (by simp) (by simp);simp only[zI,yJ,zB,Nat.reduceAdd]at hx;refine⟨.mk P.kind x P.exprs P.cols P.kids,p1+1+1,?_,⟨Pn.UH hPt.1 _ _,hPt.head⟩,by omega,by omega⟩;rw[aD rfl Tryz.func38 rfl rfl]
  rcases dF P.exprs with ce|⟨ce,ce',ce''⟩<;>rcases dF P.cols with cc|⟨cc,cc',cc''⟩<;>rcases dF P.kids with ck|⟨ck,ck',ck''⟩ <;>
   (simp[rX,rS,bl,ce,cc,ck,aM,aI]at hP
    simp[hP,hk,k0,k1,hx,rX,rS,bl,ce,cc,ck,aM,aI])
 by_cases k2:k=2
 ·obtain⟨x,hx,-⟩:=rJ l (p1+1) (by omega) (by omega) hl [[.int 0],[.int 9]] (by simp) (by simp) (by simp);simp only[zI,yJ,zB,Nat.reduceAdd]at hx;refine⟨.mk P.kind P.table P.exprs (P.cols++[x]) P.kids,p1+1+1,?_,⟨Pn.AHP hPt.1 _ (by simp;omega),hPt.head⟩,by omega,by omega⟩;have hl1:(P.cols.length+1)*8≤140737488355328:=by omega
  rw[aD rfl Tryz.func38 rfl rfl]
  rcases dF P.exprs with ce|⟨ce,ce',ce''⟩<;>rcases dF P.cols with cc|⟨cc,cc',cc''⟩<;>rcases dF P.kids with ck|⟨ck,ck',ck''⟩ <;>
   (simp[rX,rS,bl,ce,cc,ck,aM,aI]at hP
    simp[hP,hk,k0,k1,k2,hx,rX,rS,bl,ce,cc,ck,aM,aI,aH,iI,hl1,tc])
 by_cases k3:k=3
 ·obtain⟨e,p2,he,a1,a2,a3⟩:=AGW l hl 2 (p1+1) (by omega) (by omega);refine⟨.mk P.kind P.table (P.exprs++[e]) P.cols P.kids,p2,?_,⟨Pn.ADY hPt.1 (Ex.dJ _ (by omega)) (by omega),AQ1 hPt.2.1 hPt.2.2⟩,by omega,by omega⟩;have hl1:(P.exprs.length+1)*56≤140737488355328:=by omega
  rw[aD rfl Tryz.func38 rfl rfl];rw[Ex.aA e]at he
  rcases dF P.exprs with ce|⟨ce,ce',ce''⟩<;>rcases dF P.cols with cc|⟨cc,cc',cc''⟩<;>rcases dF P.kids with ck|⟨ck,ck',ck''⟩ <;>
   (simp[rX,rS,bl,ce,cc,ck,aM,aI]at hP
    simp[hP,hk,k0,k1,k2,k3,he,rX,rS,bl,ce,cc,ck,aM,aI,Ex.aB,Ex.o6,hl1,te,Ex.aA e])
 ·refine⟨P,p1+1,?_,⟨hPt.1,hPt.all⟩,by omega,by omega⟩;rw[aD rfl Tryz.func38 rfl rfl]
  rcases dF P.exprs with ce|⟨ce,ce',ce''⟩<;>rcases dF P.cols with cc|⟨cc,cc',cc''⟩<;>rcases dF P.kids with ck|⟨ck,ck',ck''⟩ <;>
   (simp[rX,rS,bl,ce,cc,ck,aM,aI]at hP
    simp[hP,hk,k0,k1,k2,k3,rX,rS,bl,ce,cc,ck,aM,aI])
end Go.Proofs.YtnmimmaahhlgeaaGreat.P
namespace Go.Av
end Go.Av
namespace Go.Proofs.YtnmimmaahhlgeaaGreat.P
open Go Go.Av
set_option maxRecDepth 4000
set_option maxHeartbeats 4000000
def YV (ws:List Int) (p:Pn) (P:List (List Int)) (i:Nat):List Stp:=(P.take i).flatMap (atS ws p)
end Go.Proofs.YtnmimmaahhlgeaaGreat.P
namespace Go.Av
theorem AC4 {ws:List Int} (h:pO ws=true):∀ w∈ws,0≤w∧w≤6:=by
 intro w hw;unfold pO at h;simp only[zU]at h;have:=zS.1 h.2 w hw;unfold bH at this;simp at this;omega
end Go.Av
namespace Go.Proofs.YtnmimmaahhlgeaaGreat.P
open Go Go.Av
set_option maxRecDepth 4000
set_option maxHeartbeats 8000000
set_option maxHeartbeats 4000000
end Go.Proofs.YtnmimmaahhlgeaaGreat.P
namespace Go.Av
def AN8 (st:Store):AV→Option IV
 | .own id 0=>match st id with
  | some (.box cs)=>bnd (G7 st cs) fun l=>some (.iref l)
  | _=>none
 | v=>U8 st v
def JJ (st:Store):List AV→Option (List AV)
 | []=>some []
 | c::r=>bnd (AN8 st c) fun v=>bnd (JJ st r) fun l=>some (.i v::l)
theorem Z5 {w:World} {m:Mem} {φ:Pl} {st:Store} {c:AV} {x:Value} {iv:IV} (hi:Inv w m φ st) (hr:Rep m φ c x) (h:AN8 st c=some iv):IRep (jQ w) iv x:=by
 unfold AN8 at h;split at h
 ·rename_i id;split at h
  ·rename_i cs hs;obtain⟨l,h1,h2⟩:=aL.1 h;injection h2 with h2;subst h2
   cases hr with
   | @own _ _ b n e =>
    obtain⟨hb,hok⟩:=eQ hi e hs
    cases hok with
    | @box T _ vs hh hl hrc hm =>
     refine .iref (IAt.mk 0 (uL hi hrc h1) fun j v hj=>?_);show w.cell? ⟨b,0+j,none⟩=some v;rw[bR hh,zB];exact hj
  ·cases h
 ·exact JG hi hr h
theorem G8 {w:World} {m:Mem} {φ:Pl} {st:Store} (hi:Inv w m φ st):∀ {cs us:List AV} {xs:List Value},RepL m φ cs xs→JJ st cs=some us→RepL (jQ w) (fun _=>none) us xs
 | [],us,_, .nil,h=>by simp[JJ]at h;subst h;exact .nil
 | c::cs,us,_, .cons a b,h=>by
  simp only[JJ]at h;obtain⟨v,h1,h2⟩:=aL.1 h;obtain⟨l',h3,h4⟩:=aL.1 h2;injection h4 with h4;subst h4;exact .cons (.i (Z5 hi a h1)) (G8 hi b h3)
def kvK (stl:StL):AV→Option IV
 | .i (.lit v)=>some (.lit v)
 | .nils=>some (.isl [])
 | .osl id k off len=>match bJ stl id with
  | some (.frz k' es)=>tst (decide (k'=k∧off=0∧len≤es.length∧0<len)) (tst (es.all F9) (some (.isl (es.take len))))
  | _=>none
 | _=>none
def ARK (stl:StL):List AV→Option (List IV)
 | []=>some []
 | c::r=>bnd (kvK stl c) fun v=>bnd (ARK stl r) fun l=>some (v::l)
def kvA (stl:StL):AV→Option IV
 | .agg cs=>bnd (ARK stl cs) fun l=>some (.agg l)
 | v=>kvK stl v
def ARL (stl:StL):List AV→Option (List AV)
 | []=>some []
 | c::r=>bnd (kvA stl c) fun v=>bnd (ARL stl r) fun l=>some (.i v::l)
def kvT (stl:StL):AV→Option AV
 | .tup cs=>bnd (ARL stl cs) fun l=>some (.tup l)
 | v=>bnd (kvA stl v) fun l=>some (.i l)
section
variable {w w':World} {m m':Mem} {φ':Pl} {stl:StL}
def YT (w:World) (m m':Mem):Mem:=fun b o=>if b<w.heap.size then m b o else m' b o
theorem ACA {b:Nat} (h:w.heap.size≤b) (o:Nat):YT w m m' b o=m' b o:=by unfold YT;rw[if_neg (by omega)]
theorem RZ {b:Nat} (h:b<w.heap.size) (o:Nat):YT w m m' b o=m b o:=by unfold YT;rw[if_pos h]
theorem AM6 {b:Nat} (hb:∀ o,YT w m m' b o=m' b o):∀ {cs:List IV} {o:Nat},F9 cs=true→IAt m' b o cs→IAt (YT w m m') b o cs
 | [],o,_,_=>.nil b o
 | c::cs,o,hl, .cons e a q r=>by
  simp only[F9,zU]at hl;refine .cons ((hb o).trans e) ?_ q (AM6 hb hl.2 r)
  cases c with
  | lit v=>rw[oP a];exact .lit _
  | isl es=>simp[AMT]at hl
  | agg cs=>simp[AMT]at hl
  | iref cs=>simp[AMT]at hl
theorem QE {b:Nat} (hb:∀ o,YT w m m' b o=m' b o) {k:Nat}:∀ {es:List (List IV)} {o:Nat},es.all F9=true→IElems m' b o k es→IElems (YT w m m') b o k es
 | [],o,_,_=>.nil b o k
 | e::es,o,hl, .cons a hk r=>by
  simp only[zF9,zU]at hl;exact .cons (AM6 hb hl.1 a) hk (QE hb hl.2 r)
theorem WU (hi:Inv w' m' φ' (bJ stl)) (hadv:Adv w (jQ w) (fun _=>none) w' m' φ') {c:AV} {x:Value} {iv:IV} (hr:Rep m' φ' c x) (h:kvK stl c=some iv):IRep (YT w m m') iv x:=by
 unfold kvK at h;split at h
 ·injection h with h;subst h;rw[hr.dG];exact .lit _
 ·injection h with h;subst h
  cases hr;exact .isl0 _ _ fun _=>rfl
 ·rename_i id k off len;split at h
  ·rename_i k' es hs;obtain⟨h1,h2⟩:=aT.1 h;obtain⟨h3,h4⟩:=aT.1 h2;simp only[zR]at h1;obtain⟨rfl,rfl,hle,hpos⟩:=h1;injection h4 with h4;subst h4
   cases hr with
   | @osl _ _ _ _ cap b n ao e hlc hkl hao hao2 =>
    obtain⟨hb,hok⟩:=eQ hi e hs
    cases hok with
    | frz hk0 he =>
     have hnew:w.heap.size≤b:=by
      rcases hadv.pnew id b n b e hb.1 with h|h
      ·exact h
      ·exact absurd (fun _ _ _ e=>by cases e) h
     have hcap:cap≠0:=by omega
     have:=hao hcap;subst this;have he2:=QE (m:=m) (fun o=>ACA hnew o) h3 he;have hlen:(es.take len).length=len:=by simp;omega
     have hne:es.take len≠[]:=fun h=>by rw[h]at hlen;simp at hlen;omega
     have he3:=wR len he2;have:=IRep.isl (cap:=cap) hne he3 (by omega);rw[hlen]at this;simpa using this
  ·cases h
 ·cases h
theorem PQ (hi:Inv w' m' φ' (bJ stl)) (hadv:Adv w (jQ w) (fun _=>none) w' m' φ'):∀ {cs:List AV} {xs:List Value} {l:List IV},RepC m' φ' cs xs→ARK stl cs=some l→ICells (YT w m m') l xs
 | [],_,l, .nil,h=>by simp[ARK]at h;subst h;exact .nil
 | c::cs,_,l, .cons a o b,h=>by
  simp only[ARK]at h;obtain⟨v,h1,h2⟩:=aL.1 h;obtain⟨l',h3,h4⟩:=aL.1 h2;injection h4 with h4;subst h4;exact .cons (WU hi hadv a h1) o (PQ hi hadv b h3)
theorem WV (hi:Inv w' m' φ' (bJ stl)) (hadv:Adv w (jQ w) (fun _=>none) w' m' φ') {c:AV} {x:Value} {iv:IV} (hr:Rep m' φ' c x) (h:kvA stl c=some iv):IRep (YT w m m') iv x:=by
 unfold kvA at h;split at h
 ·obtain⟨l,h1,h2⟩:=aL.1 h;injection h2 with h2;subst h2
  cases hr with|agg r=>exact .agg (PQ hi hadv r h1)
 ·exact WU hi hadv hr h
theorem PR {φ:Pl} (hi:Inv w' m' φ' (bJ stl)) (hadv:Adv w (jQ w) (fun _=>none) w' m' φ'):∀ {cs us:List AV} {xs:List Value},RepL m' φ' cs xs→ARL stl cs=some us→RepL (YT w m m') φ us xs
 | [],us,_, .nil,h=>by simp[ARL]at h;subst h;exact .nil
 | c::cs,us,_, .cons a b,h=>by
  simp only[ARL]at h;obtain⟨v,h1,h2⟩:=aL.1 h;obtain⟨l',h3,h4⟩:=aL.1 h2;injection h4 with h4;subst h4;exact .cons (.i (WV hi hadv a h1)) (PR hi hadv b h3)
theorem AK9 {φ:Pl} (hi:Inv w' m' φ' (bJ stl)) (hadv:Adv w (jQ w) (fun _=>none) w' m' φ') {c r:AV} {x:Value} (hr:Rep m' φ' c x) (h:kvT stl c=some r):Rep (YT w m m') φ r x:=by
 unfold kvT at h;split at h
 ·obtain⟨l,h1,h2⟩:=aL.1 h;injection h2 with h2;subst h2
  cases hr with|tup r=>exact .tup (PR hi hadv r h1)
 ·obtain⟨l,h1,h2⟩:=aL.1 h;injection h2 with h2;subst h2;exact .i (WV hi hadv hr h1)
end
def AK2 (f:List AV→StL→Option (AV×StL)) (args:List AV) (st:StL):Option (AV×StL) :=
 bnd (JJ (bJ st) args) fun us=>match f us []with
  | some (r,stl)=>bnd (kvT stl r) fun v=>some (v,st)
  | none=>none
theorem LB {C:Ctx} {g:FuncId} {f:List AV→StL→Option (AV×StL)} (hf:∀ args stl r stl',f args stl=some (r,stl')→(∃ fn,C.P.funcs[g]?=some fn∧fn.name≠ "runtime.NumGoroutine"∧fn.body.isSome=true)∧∀ (w:World) (m:Mem) (φ:Pl) (vs:List Value),Inv w m φ (bJ stl)→RepL m φ args vs→(∀ id,φ id≠none→id<stl.length)→Calls C.P g vs.toArray w (bY w m φ r stl'))
 {args:List AV} {stl stl':StL} {r:AV} (h:AK2 f args stl=some (r,stl')) :
 (∃ fn,C.P.funcs[g]?=some fn∧fn.name≠ "runtime.NumGoroutine"∧fn.body.isSome=true)∧∀ (w:World) (m:Mem) (φ:Pl) (vs:List Value),Inv w m φ (bJ stl)→RepL m φ args vs→(∀ id,φ id≠none→id<stl.length) →
  Calls C.P g vs.toArray w (bY w m φ r stl'):=by
 unfold AK2 at h;obtain⟨us,h1,h2⟩:=aL.1 h;split at h2
 ·rename_i r0 stl0 h3;obtain⟨v0,h4,h5⟩:=aL.1 h2;injection h5 with h5;injection h5 with h5 h6;subst h5;subst h6;obtain⟨q1,q2⟩:=hf _ _ _ _ h3;refine⟨q1,fun w m φ vs hi hr h0=>?_⟩;refine(q2 w (jQ w) (fun _=>none) vs (inv0 w) (G8 hi hr h1) (fun id h=>absurd rfl h)).mono ?_;rintro e w' ⟨v,m',φ',rfl,j1,j2,j3,j4⟩;have hlt:∀ b o u,m b o=some u→b<w.heap.size:=fun b o u e=>hi.mem.lt e
  have hsame:∀ f,f<w.heap.size→w'.heap[f]?=w.heap[f]?:=fun f hf=>j3.block f hf fun id b n e=>by cases e
  have hle:MLe m (YT w m m'):=fun b o u e=>by rw[RZ (hlt b o u e)];exact e
  have hmem:o8 w' (YT w m m'):=fun b o u e=>by
   by_cases hb:b<w.heap.size
   ·rw[RZ hb]at e;rw[cell_of_heap (hsame b hb)];exact hi.mem b o u e
   ·rw[ACA (by omega)]at e;exact j2.mem b o u e
  have ha:Adv w m (fun _=>none) w' (YT w m m') (fun _=>none):=⟨j3.size,j3.os,j3.tape,j3.output,fun b hb _=>hsame b hb,hle,fun b hb _ o=>RZ hb o, .refl _,fun _ _ _ _ e=>by cases e⟩
  obtain⟨i2,a2⟩:=hi.AZA ha hmem;exact⟨v,_,φ,rfl,AK9 j2 j3 j1 h4,i2,a2,h0⟩
 ·cases h2
noncomputable def AGJ (C:Ctx) (g:FuncId) (args:List AV) (st:StL):Option (AV×StL) :=
 match C.P.funcs[g]? with
 | none=>none
 | some fn =>
  match fn.body with
  | none=>none
  | some c=>ACW { C with tree:=true } true fn.results.toList st.length (cK C (C.G g) st.length c (enter (C.G g) args st))
theorem APS {C:Ctx} {f:FuncId} {fn:Func} {c:Code} {rs:List ResultVar} (hf:C.P.funcs[f]?=some fn) (hb:fn.body=some c) (hr:fn.results.toList=rs) (args:List AV) (st:StL) :
 AGJ C f args st=ACW { C with tree:=true } true rs st.length (cK C (C.G f) st.length c (enter (C.G f) args st)):=by
 subst hr;unfold AGJ;rw[hf];simp only[hb]
theorem MV {C:Ctx} (hS:SoundOk C) {g:FuncId} {args:List AV} {stl stl':StL} {r:AV} (h:AGJ C g args stl=some (r,stl')) :
 (∃ fn,C.P.funcs[g]?=some fn∧fn.name≠ "runtime.NumGoroutine"∧fn.body.isSome=true)∧∀ (w:World) (m:Mem) (φ:Pl) (vs:List Value),Inv w m φ (bJ stl)→RepL m φ args vs→(∀ id,φ id≠none→id<stl.length) →
  Calls C.P g vs.toArray w (bY w m φ r stl'):=by
 unfold AGJ at h;split at h
 ·cases h
 rename_i fn hf;split at h
 ·cases h
 rename_i c hb;have hst:=(hS.fns g fn c hf hb).2;refine⟨⟨fn,hf,(hS.fns g fn c hf hb).1,by rw[hb];rfl⟩,fun w m φ vs hi hargs hid=>?_⟩;have ih:=bI hS
 have hrel:QV [] w m φ fn.ntmps stl.length (enter (C.G g) args stl) { tmps:=vs.toArray++Array.replicate (fn.ntmps-vs.toArray.size) undef,defers:=[] } w:=by
  refine⟨⟨⟨m,φ,hi,?_, .refl _ _ _,hid, .nil _ _ _⟩,by simp;omega,rfl⟩,zL _⟩;intro t;unfold enter;simp only;generalize C.G g=G
  induction G with
  | nil=>exact .junk _
  | cons u G ihG =>
   simp only[MK,aW];by_cases e:t=u
   ·subst e;simp only[if_true];exact nA _ hargs t
   ·simp only[e,if_false];exact ihG
 refine callsIn_wide.1 (callsIn_of_wp_marks (n:=0) hf hb trivial ?_)
 have done:∀ S e,cK C (C.G g) stl.length c (enter (C.G g) args stl)=some (e,S)→finish { C with tree:=true } true fn.results.toList stl.length S=some (r,stl')→(e=.normal∨e=.ret) →
  c.wpIn Fence.wide 0 C.P (bodyPostM Fence.wide 0 C.P fn (bY w m φ r stl')) { tmps:=vs.toArray++Array.replicate (fn.ntmps-vs.toArray.size) undef,defers:=[] } w:=by
  intro S e hS' hfin he;obtain⟨n,hS'⟩:=(dU _).1 hS';refine wpIn_mono (dM (ρ:=none) hS.ctx ih (hS.draw _ ih) hid n c _ S e [] _ w hst (.inl rfl) hS' hrel) ?_;rintro e' a' w' ⟨rfl,ds,k,_⟩
  have hl:LeavesInM Fence.wide 0 C.P fn a'.tmps (bY w m φ r stl') a'.defers .returning w':=by
   rw[k.1.defers];refine sZ k fun a2 w2 _ k2=>?_
   obtain⟨v,k3,k4⟩:=iJ (C:={ C with tree:=true }) hid k2 hfin;exact⟨v,k3,k4⟩
  rcases he with rfl|rfl
  ·exact hl
  ·exact hl
 unfold ACW at h;split at h
 ·rename_i S hS';exact done S .normal hS' h (.inl rfl)
 ·rename_i S hS';exact done S .ret hS' h (.inr rfl)
 ·cases h
 ·cases h
def AFE (r:Int):Bool:=decide (r≠2∧r≠5∧r≠6)
def qU (l:List Stp):Option Stp:=l.find? fun s=>AFE s.1
theorem tH (a b:List Stp):qU (a++b)=(qU a).or (qU b):=by unfold qU;exact List.find?_append
def NS0 (R:Rng) (cs:List AV):StL:=[some (.loop R cs .ready),some (.box [.int 0, .nils]),some (.box [.bool false])]
def NS1 (R:Rng) (cs:List AV) (s:Stp):StL:=some (.loop R cs (.over .ret))::some (.box [.int s.1,if s.2=[]then .nils else .osl 3 1 0 s.2.length])::some (.box [.bool true])::(if s.2=[]then []else [some (.frz 1 (aH s.2))])
def NSr (R:Rng) (cs:List AV):Option Stp→Option (AV×StL)
 | none=>some (.bool true,NS0 R cs)
 | some s=>some (.bool false,NS1 R cs s)
theorem NC {ws path:List Int} {p:Pn}:∀ {j:Nat},j≤11→(∀ i,i<j→((rwL ws ((i:Int)+1) (8-path.length) p).isSome && AFE ((i:Int)+1))=false)→qU (QS ws path p j)=none
 | 0,_,_=>rfl
 | j+1,hj,h=>by
  rw[EJ (by omega),tH,NC (by omega) fun i hi=>h i (by omega)];have:=h j (by omega);split
  ·rename_i hs;rw[hs]at this;simp only[zB9]at this;simp[qU,this]
  ·rfl
theorem YM {ws path:List Int} {p:Pn} {s:Stp}:∀ (k j:Nat),j+k≤11→qU (QS ws path p j)=some s→qU (QS ws path p (j+k))=some s
 | 0,j,_,h=>h
 | k+1,j,hj,h=>by
  rw[← y7,EJ (by omega),tH,YM k j (by omega) h];rfl
theorem AME {ws path:List Int} {p:Pn} {j:Nat} (hj:j<11) (h:∀ i,i<j→((rwL ws ((i:Int)+1) (8-path.length) p).isSome && AFE ((i:Int)+1))=false) (hb:((rwL ws ((j:Int)+1) (8-path.length) p).isSome && AFE ((j:Int)+1))=true):qU (QS ws path p 11)=some ((j:Int)+1,path):=by
 have h1:qU (QS ws path p (j+1))=some ((j:Int)+1,path):=by
  simp only[zU]at hb;rw[EJ hj,tH,NC (by omega) h,if_pos hb.1];simp[qU,hb.2]
 have:=YM (10-j) (j+1) (by omega) h1
 rwa [show j+1+(10-j)=11 by omega]at this
theorem AAJ (q:Nat→Bool) (n:Nat):∃ j,j≤n∧(∀ i,i<j→q i=false)∧(j=n∨q j=true):=by
 induction n with
 | zero=>exact⟨0,zL _,fun i hi=>by omega, .inl rfl⟩
 | succ n ih =>
  obtain⟨j,h1,h2,h3⟩:=ih
  rcases h3 with rfl|h3
  ·cases hq:q j with
   | true=>exact⟨j,by omega,h2, .inr hq⟩
   | false=>exact⟨j+1,zL _,fun i hi=>by
    by_cases e:i=j
    ·subst e;exact hq
    ·exact h2 i (by omega), .inl rfl⟩
  ·exact⟨j,by omega,h2, .inr h3⟩
theorem JW {ws path:List Int} {l:List Pn}:∀ {i:Nat},i≤l.length→(∀ k,k<i→qU (stI ws (path++[(k:Int)]) ((l[k]?).getD Pn.zero))=none)→qU (NF ws path 0 (l.take i))=none
 | 0,_,_=>by simp[NF,qU]
 | i+1,hi,h=>by
  have h3:=zX (show i<l.length by omega);have h4:=h i (by omega);rw[h3]at h4;rw[UR ws path h3,tH,JW (by omega) fun k hk=>h k (by omega)];exact h4
theorem AEB {ws path:List Int} {l:List Pn} {j:Nat} {a:Pn} {s:Stp} (h3:l[j]?=some a) (h:∀ k,k<j→qU (stI ws (path++[(k:Int)]) ((l[k]?).getD Pn.zero))=none) (hs:qU (stI ws (path++[(j:Int)]) a)=some s):qU (NF ws path 0 l)=some s:=by
 have hj:=(zY.1 h3).1;have he:=BF ws path (l.take (j+1)) (l.drop (j+1)) 0;rw[zA]at he;rw[he,tH,UR ws path h3,tH,JW (by omega) h,hs];rfl
theorem AP7 {ws path:List Int} {p:Pn} {s:Stp} (h:qU (stI ws path p)=some s):∃ r,s.2=path++r:=AI1 ws p path s (List.mem_of_find?_eq_some h)
end Go.Av
namespace Go.Proofs.YtnmimmaahhlgeaaGreat.P
open Go Go.Av
set_option maxRecDepth 4000
set_option maxHeartbeats 8000000
theorem nX (r:Int) (path:List Int):aG C0 73 [.i (.agg [.int r, .isl (aH path)])] []=some (.bool (AFE r),[]):=by
 rw[aD rfl Tryz.func73 rfl rfl];unfold AFE;by_cases h2:r=2
 ·simp[h2]
 ·by_cases h5:r=5
  ·simp[h5]
  ·by_cases h6:r=6
   ·simp[h6]
   ·simp[h2,h5,h6]
structure Yn (R:Rng) (cs:List AV):Prop where
 ids:cs=[.own 1 0, .own 2 0, .junk, .junk, .junk]
 n0:∀ r:Int,AFE r=false→aG C0 sF [.fn (.yield 0) [.own 0 0], .agg [.int r, .nils]] (NS0 R cs)=some (.bool true,NS0 R cs)
 n1:∀ (r:Int) (path:List Int),path≠[]→AFE r=false→aG C0 sF [.fn (.yield 0) [.own 0 0], .agg [.int r, .osl 3 1 0 path.length]] (NS0 R cs++[some (.arr 1 (aH path))])=some (.bool true,NS0 R cs++[some (.frz 1 (aH path))])
 y0:∀ r:Int,AFE r=true→aG C0 sF [.fn (.yield 0) [.own 0 0], .agg [.int r, .nils]] (NS0 R cs)=some (.bool false,NS1 R cs (r,[]))
 y1:∀ (r:Int) (path:List Int),path≠[]→AFE r=true→aG C0 sF [.fn (.yield 0) [.own 0 0], .agg [.int r, .osl 3 1 0 path.length]] (NS0 R cs++[some (.arr 1 (aH path))])=some (.bool false,NS1 R cs (r,path))
def RNX (R:Rng) (cs:List AV) (ws path:List Int) (p:Pn) (i:Nat):AS :=
 { env:=[(0, .i (.iref [.int p.kind, .int p.table, .isl (Ex.aB p.exprs), .isl (aH p.cols), .isl (Pn.aB p.kids)])),(1, .i (.isl (aH ws))),(2, .i (.isl (aH path))),(3, .fn (.yield 0) [.own 0 0]),(8, .bool false),(9, .int ((i:Int)+1)),(11,jk i (.bool (rwL ws (i:Int) (8-path.length) p).isSome)),(12, .junk),(14,jk i (.bool true)),(28,jk i (.bool (!(rwL ws (i:Int) (8-path.length) p).isSome))),(35,if QS ws path p i=[]then .junk else .bool false),(40, .junk),(41, .junk),(42, .junk),(58, .junk)],
   st:=NS0 R cs }
def KNX (R:Rng) (cs:List AV) (ws path:List Int) (p:Pn) (i:Nat):AS :=
 { env:=[(0, .i (.iref [.int p.kind, .int p.table, .isl (Ex.aB p.exprs), .isl (aH p.cols), .isl (Pn.aB p.kids)])),(1, .i (.isl (aH ws))),(2, .i (.isl (aH path))),(3, .fn (.yield 0) [.own 0 0]),(8, .bool false),(9, .int 12),(11, .bool (rwL ws 11 (8-path.length) p).isSome),(12,jk i (.int (i-1))),(14, .bool false),(28, .bool (!(rwL ws 11 (8-path.length) p).isSome)),(35,if QS ws path p 11=[]then .junk else .bool false),(40, .int p.kids.length),(41, .int i),(42,jk i (.bool true)),(58,jk i (.bool false))],
   st:=NS0 R cs }
theorem XP {R:Rng} {cs:List AV} (hY:Yn R cs) {ws:List Int} (hw:pO ws=true):∀ (p:Pn) (path:List Int),path.length≤8→p.wd ws (8-path.length)≠0 →
 aG C0 123 [.i (.iref p.cells), .i (.isl (aH ws)), .i (.isl (aH path)), .fn (.yield 0) [.own 0 0]] (NS0 R cs)=NSr R cs (qU (stI ws path p)):=by
 obtain⟨rfl,n0,n1,y0,y1⟩:=hY;intro p
 induction p using Pn.ind with
 | h k t es cols ks ih =>
  intro path hl hp;have hp8:(Pn.mk k t es cols ks).wd ws 8≠0:=by rw[Pn.gF _ _ 8 hp (by omega)];exact hp
  have hkids:=fun h=>AHF (p:=.mk k t es cols ks) (lv:=8-path.length) hp h
  have hacc:=AI2 ws path (.mk k t es cols ks);generalize hpe:Pn.mk k t es cols ks=p at *
  have hks:ks=p.kids:=by rw[← hpe];rfl
  subst hks
  obtain⟨lv,hlv⟩:∃ lv:Nat,8-path.length=lv:=⟨_,rfl⟩
  have hw8:IntKind.i64.wrap (8-(path.length:Int))=(lv:Int):=by rw[wrO];omega
  have hr:=fun r=>uV hw hp8 r (lv:=lv) (by omega)
  have hcp:=AG8 path;obtain⟨j,hj,h1,h2⟩:=AAJ (fun i=>(rwL ws ((i:Int)+1) (8-path.length) p).isSome && AFE ((i:Int)+1)) 11;rw[hacc,tH,aD rfl Tryz.func123 rfl rfl,Pn.aA];rw[Pn.aA p]at hr;simp[NS0];rw[aS (RNX R [.own 1 0, .own 2 0, .junk, .junk, .junk] ws path p) j (by simp[RNX,NS0,QS])]
  ·rw[aF];by_cases hj11:j=11
   ·subst hj11;rw[NC (by omega) h1];obtain⟨j2,hj2,g1,g2⟩:=AAJ (fun i=>(qU (stI ws (path++[(i:Int)]) ((p.kids[i]?).getD Pn.zero))).isSome) p.kids.length;have g1':∀ k,k<j2→qU (stI ws (path++[(k:Int)]) ((p.kids[k]?).getD Pn.zero))=none:=fun k hk=>by simpa using g1 k hk
    have hkid:∀ (i:Nat) (a:Pn),p.kids[i]?=some a→p.kids.length≤2∧path.length+1≤8∧aG C0 123 [.i (.iref a.cells), .i (.isl (aH ws)), .i (.isl (aH path++[[.int i]])), .fn (.yield 0) [.own 0 0]] (NS0 R [.own 1 0, .own 2 0, .junk, .junk, .junk])=NSr R [.own 1 0, .own 2 0, .junk, .junk, .junk] (qU (stI ws (path++[(i:Int)]) a)):=fun i a ha=>by
     have hm:=zV ha;obtain⟨hk2,hlv0,hkw⟩:=hkids (by intro h;rw[h]at hm;simp at hm);have hpl:(path++[(i:Int)]).length=path.length+1:=by simp
     have:=ih a hm (path++[(i:Int)]) (by omega) (by rw[hpl,show 8-(path.length+1)=8-path.length-1 by omega];exact hkw a hm);rw[AFN]at this;exact⟨hk2,by omega,this⟩
    have hl1:(path.length+1)*8≤140737488355328:=by omega
    have ht1:∀ i:Nat,List.take (path.length+1) (aH path++[[.int (i:Int)]])=aH path++[[.int i]]:=fun i=>zZ (by simp)
    by_cases ha:QS ws path p 11=[]
    all_goals
     simp[RNX,NS0,ha];rw[aS (KNX R [.own 1 0, .own 2 0, .junk, .junk, .junk] ws path p) j2 (by simp[KNX,NS0,ha])]
     ·rw[aF];by_cases hjk:j2=p.kids.length
      ·have hz:qU (NF ws path 0 p.kids)=none:=by
        have:=JW (ws:=ws) (path:=path) (l:=p.kids) (i:=p.kids.length) (zL _) (by rw[← hjk];exact g1')
        rwa [zE1]at this
       rw[hz];simp[KNX,NS0,NSr,ha,hjk]
      ·have hjl:j2<p.kids.length:=by omega
       have h3:=zX hjl;generalize p.kids[j2]=a at h3;have r2:=Pn.aV h3;obtain⟨hk2,hpl8,hk⟩:=hkid j2 a h3;have hb:=g2.resolve_left hjk;rw[h3]at hb
       cases hf:qU (stI ws (path++[(j2:Int)]) a)with
       | none=>simp[hf]at hb
       | some s =>
        obtain⟨r,hr2⟩:=AP7 hf;have hs0:s.2≠[]:=by rw[hr2];simp
        rw[AEB h3 g1' hf];rw[hf]at hk;simp[NSr,NS0,NS1,hs0]at hk;rw[Pn.aA a]at r2 hk
        rcases hcp with rfl|hcp
        ·simp[aH]at hk;simp[KNX,NS0,NSr,NS1,ha,hjl,r2,qI,hk,aH,hs0]
        ·have hc:=tK hcp (by omega);simp[KNX,NS0,NSr,NS1,ha,hjl,r2,hc,hk,aH,hs0,hl1,ht1]
     ·intro i hi;have hil:i<p.kids.length:=by omega
      have h3:=zX hil;generalize p.kids[i]=a at h3;have r2:=Pn.aV h3;obtain⟨hk2,hpl8,hk⟩:=hkid i a h3;have hn:=g1' i hi;rw[h3]at hn;simp only[zC]at hn;rw[hn]at hk;simp[NSr,NS0]at hk;have w2:IntKind.i64.wrap ((i:Int)+1)=i+1:=wrO;rw[Pn.aA a]at r2 hk
      rcases hcp with rfl|hcp
      ·simp[aH]at hk;simp[KNX,NS0,ha,hil,r2,w2,qI,hk,aH]
      ·have hc:=tK hcp (by omega);simp[KNX,NS0,ha,hil,r2,w2,hc,hk,aH,hl1,ht1]
   ·have hb:=(h2.resolve_left hj11)
    have hjl:j<11:=by omega
    rw[AME hjl h1 hb];simp only[zU]at hb;obtain⟨hb1,hb2⟩:=hb;have hr1:=hr ((j:Int)+1);rw[hlv]at hb1;rw[hb1]at hr1;have hi11:(j:Int)+1≤11:=by omega
    rcases hcp with rfl|hcp
    ·have hc:=qI;have hy:=y0 _ hb2;obtain rfl:lv=8:=by simpa using hlv.symm
     simp at hw8;rw[show((8:Nat):Int)=8 from rfl]at hr1;simp[NS0,NS1]at hy;by_cases ha:QS ws [] p j=[]<;>simp[RNX,NS0,NSr,NS1,ha,hr1,hw8,hi11,hc,hy,aH]
    ·have hc:=tK hcp (by omega);have hy:=y1 _ path hcp hb2;simp[NS0,NS1,hcp]at hy;by_cases ha:QS ws path p j=[]<;>simp[RNX,NS0,NSr,NS1,ha,hr1,hw8,hi11,hlv,hc,hy,hcp]
  ·intro i hi;have hs:=EJ (ws:=ws) (path:=path) (p:=p) (i:=i) (by omega);have w2:IntKind.i64.wrap ((i:Int)+1+1)=i+1+1:=wrO;have hi11:(i:Int)+1≤11:=by omega
   have hr1:=hr ((i:Int)+1);have hnb:=h1 i hi;rw[hlv]at hs hnb
   cases hb:(rwL ws ((i:Int)+1) lv p).isSome with
   | false =>
    rw[hb]at hs hr1;simp at hs;by_cases ha:QS ws path p i=[]<;>simp[RNX,NS0,hs,ha,hr1,hw8,w2,hi11,hlv,hb]
   | true =>
    rw[hb]at hs hr1 hnb;simp at hs hnb
    rcases hcp with rfl|hcp
    ·have hc:=qI;have hy:=n0 _ hnb;obtain rfl:lv=8:=by simpa using hlv.symm
     simp at hw8;rw[show((8:Nat):Int)=8 from rfl]at hr1;simp[NS0]at hy;by_cases ha:QS ws [] p i=[]<;>simp[RNX,NS0,hs,ha,hr1,hw8,w2,hi11,hb,hc,hy,aH]
    ·have hc:=tK hcp (by omega);have hy:=n1 _ path hcp hnb;simp[NS0]at hy;by_cases ha:QS ws path p i=[]<;>simp[RNX,NS0,hs,ha,hr1,hw8,w2,hi11,hlv,hb,hc,hy]
def AWI:Option Stp→IV
 | none=>.agg [.int 0, .isl []]
 | some s=>.agg [.int s.1, .isl (aH s.2)]
theorem AE6 {R:Rng} {cs:List AV} (hY:Yn R cs) {ws:List Int} (hw:pO ws=true) {p:Pn} (hp:p.wd ws 8≠0):aG C0 122 [.fn (.yield 0) [.own 0 0], .own 3 0, .own 4 0] [some (.loop R cs .ready),some (.box [.int 0, .nils]),some (.box [.bool false]),some (.box [.i (.iref p.cells)]),some (.box [.i (.isl (aH ws))])] =
 match qU (stI ws [] p)with
 | none=>some (.tup [],[some (.loop R cs .ready),some (.box [.int 0, .nils]),some (.box [.bool false]),some (.box [.i (.iref p.cells)]),some (.box [.i (.isl (aH ws))])])
 | some s=>some (.tup [],some (.loop R cs (.over .ret))::some (.box [.int s.1,if s.2=[]then .nils else .osl 5 1 0 s.2.length])::some (.box [.bool true])::some (.box [.i (.iref p.cells)])::some (.box [.i (.isl (aH ws))])::(if s.2=[]then []else [some (.frz 1 (aH s.2))])):=by
 have h:=XP hY hw p [] (by simp) (by simpa using hp);obtain⟨rfl,_⟩:=hY;rw[aD rfl Tryz.func122 rfl rfl]
 cases hf:qU (stI ws [] p)with
 | none =>
  simp[hf,NSr,NS0,aH]at h;simp[h]
 | some s =>
  by_cases hs:s.2=[]
  ·simp[hf,NSr,NS0,NS1,hs,aH]at h;simp[h,hs]
  ·simp[hf,NSr,NS0,NS1,hs,aH]at h;simp[h,hs]
set_option maxHeartbeats 4000000
theorem N7 {args:List AV} {st:StL} {q:AV×StL} (h:BB args st=some q):∃ fn,Tryz.prog.funcs[9]?=some fn∧fn.name≠ "runtime.NumGoroutine"∧fn.body.isSome=true:=⟨Tryz.f9,Tryz.func9,by decide,rfl⟩
theorem IL {args:List AV} {st st':StL} {r:AV} (h:BB args st=some (r,st')):∀ (w:World) (m:Mem) (φ:Pl) (vs:List Value),Inv w m φ (bJ st)→RepL m φ args vs→(∀ id,φ id≠none→id<st.length)→Calls Tryz.prog 9 vs.toArray w (bY w m φ r st'):=by
 intro w m φ vs hi hr h0;obtain⟨p,ws,k,path,rfl,rfl,hq⟩:=AB9 h
 cases ho:apO p ws k path with
 | none =>
  rw[ho]at hq;injection hq with h1 h2;subst h1;subst h2
  have hn:p.width ws=0∨apI ws k path p=none:=by
   unfold apO at ho;by_cases hw:p.width ws=0
   ·exact .inl hw
   ·rw[if_neg hw]at ho;exact .inr ho
  exact(bI dB).calls _ _ _ _ _ (by decide) (AGV hn) w m φ vs hi hr h0
 | some q =>
  rw[ho]at hq;injection hq with h1 h2;subst h1;subst h2;unfold apO at ho;by_cases hw:p.width ws=0
  ·rw[if_pos hw]at ho;cases ho
  ·rw[if_neg hw]at ho
   obtain rfl:φ=fun _=>none:=by
    funext id
    cases h:φ id with
    | none=>rfl
    | some p=>exact absurd (h0 id (by rw[h];simp)) (zB5 _)
   exact AGU hw ho hi hr
def AaY:FuncId→Bool
 | 32=>true
 | g=>AH8 g
@[simp] theorem Ac5 (g:FuncId):AaY g=if g=32 then true else AH8 g:=by
  unfold AaY;split
  ·rfl
  ·rename_i h;rw[if_neg h]
noncomputable def AJC:FuncId→Option (List AV→StL→Option (AV×StL))
 | 5=>none
 | 16=>none
 | 9=>some BB
 | 32=>some (AK2 (AGJ C0 32))
 | 33=>some (aG CR 33)
 | g=>AEY g
noncomputable def CA:Ctx:={ P:=Tryz.prog,G:=GS,ownArgs:=AaY,keepRes:=AOT,eqT:=MJ,prim:=AJC }
@[simp] theorem Aw3:CA.P=Tryz.prog:=(rfl)
@[simp] theorem Aw4 (f):CA.G f=GS f:=(rfl)
@[simp] theorem Aw0 (f):CA.ownArgs f=AaY f:=(rfl)
@[simp] theorem Aw1 (f):CA.keepRes f=(keepR f || decide (f=80)):=(rfl)
@[simp] theorem Aw2 (f):CA.eqT f=MJ f:=(rfl)
@[simp] theorem AvZ:CA.tree=false:=(rfl)
theorem AYR:PrimOk CA:=by
 constructor
 ·intro g args st p h;unfold dE at h
  cases hq:CA.prim g with
  | none=>rw[hq]at h;cases h
  | some q =>
   rw[hq]at h;have hq:AJC g=some q:=hq;unfold AJC at hq;split at hq
   all_goals first
    | (cases hq;done)
    | (injection hq with hq;subst hq;exact N7 h)
    | (injection hq with hq;subst hq;exact(LB (C:=CA) (fun args stl r stl' h=>MV dB h) (r:=p.1) (stl':=p.2) h).1)
    | (injection hq with hq;subst hq;exact(bI AI3).name _ _ _ _ (by decide) h)
    | exact AJ8.name g args st p (by unfold dE;rw[show CR.prim g=some q from hq];exact h)
 ·intro g args st r st' h w m φ vs hi hr hb;unfold dE at h
  cases hq:CA.prim g with
  | none=>rw[hq]at h;cases h
  | some q =>
   rw[hq]at h;have hq:AJC g=some q:=hq;unfold AJC at hq;split at hq
   all_goals first
    | (cases hq;done)
    | (injection hq with hq;subst hq;exact IL h w m φ vs hi hr hb)
    | (injection hq with hq;subst hq;exact(LB (C:=CA) (fun args stl r stl' h=>MV dB h) h).2 w m φ vs hi hr hb)
    | (injection hq with hq;subst hq;exact(bI AI3).calls _ _ _ _ _ (by decide) h w m φ vs hi hr hb)
    | exact AJ8.calls g args st r st' (by unfold dE;rw[show CR.prim g=some q from hq];exact h) w m φ vs hi hr hb
theorem ATC:SoundOk CA:=mI (C:=CA) ft nt eqS mo AYR
theorem YA (p:Pn) (ws:List Int) (r:Int) (path:List Int):aG CA 9 [.i (.agg p.cells), .i (.isl (aH ws)), .i (.agg [.int r, .isl (aH path)])] []=some (apR (apO p ws r path)):=by rw[aN (p:=BB) rfl];exact YH p ws r path
@[simp] theorem ASA (a:List AV) (st:StL):aG CA 26 a st=aG C0 26 a st:=by rw[aN (p:=aG C0 26) rfl]
end Go.Proofs.YtnmimmaahhlgeaaGreat.P
namespace Go.Av
theorem ER {ws:List Int} {lv:Nat} {p:Pn} (h:Shape ws lv p):(p.kind=2→∃ e a,p=filt e a)∧(p.kind=3→∃ es a,p=proj es a)∧(∀ k,k=4∨k=5→p.kind=k→∃ e a b,p=aX k e a b)∧(p.kind=6→∃ a b,p=bU a b)∧(p.kind=7→∃ a,p=.mk 7 0 [] [] [a]):=by
 cases h with
 | scan t=>exact⟨fun h=>by simp[Pn.scan,Pn.kind]at h,fun h=>by simp[Pn.scan,Pn.kind]at h,fun k h1 h=>by simp[Pn.scan,Pn.kind]at h;omega,fun h=>by simp[Pn.scan,Pn.kind]at h,fun h=>by simp[Pn.scan,Pn.kind]at h⟩
 | filt m e a=>exact⟨fun _=>⟨e,a,rfl⟩,fun h=>by simp[filt,Pn.kind]at h,fun k h1 h=>by simp[filt,Pn.kind]at h;omega,fun h=>by simp[filt,Pn.kind]at h,fun h=>by simp[filt,Pn.kind]at h⟩
 | proj m es a=>exact⟨fun h=>by simp[proj,Pn.kind]at h,fun _=>⟨es,a,rfl⟩,fun k h1 h=>by simp[proj,Pn.kind]at h;omega,fun h=>by simp[proj,Pn.kind]at h,fun h=>by simp[proj,Pn.kind]at h⟩
 | pair m k e a b hm hk=>exact⟨fun h=>by simp[aX,Pn.kind]at h;omega,fun h=>by simp[aX,Pn.kind]at h;omega,fun k' h1 h=>⟨e,a,b,by simp[aX,Pn.kind]at h;rw[h]⟩,fun h=>by simp[aX,Pn.kind]at h;omega,fun h=>by simp[aX,Pn.kind]at h;omega⟩
 | union m a b=>exact⟨fun h=>by simp[bU,Pn.kind]at h,fun h=>by simp[bU,Pn.kind]at h,fun k h1 h=>by simp[bU,Pn.kind]at h;omega,fun _=>⟨a,b,rfl⟩,fun h=>by simp[bU,Pn.kind]at h⟩
 | dist m a=>exact⟨fun h=>by simp[Pn.kind]at h,fun h=>by simp[Pn.kind]at h,fun k h1 h=>by simp[Pn.kind]at h;omega,fun h=>by simp[Pn.kind]at h,fun _=>⟨a,rfl⟩⟩
 | group m cs a=>exact⟨fun h=>by simp[Pn.kind]at h,fun h=>by simp[Pn.kind]at h,fun k h1 h=>by simp[Pn.kind]at h;omega,fun h=>by simp[Pn.kind]at h,fun h=>by simp[Pn.kind]at h⟩
@[simp] theorem AI9 (t:Int) (e:Ex) (a:Pn):scP t (filt e a)=scP t a:=by simp[filt,scP,AMP,Pn.hit,Pn.kind]
@[simp] theorem RD (t:Int) (es:List Ex) (a:Pn):scP t (proj es a)=scP t a:=by simp[proj,scP,AMP,Pn.hit,Pn.kind]
theorem qP (t k:Int) (hk:k=4∨k=5) (e:Ex) (a b:Pn):scP t (aX k e a b)=(scP t a || scP t b):=by
 have:k≠1:=by omega
 simp[aX,scP,AMP,Pn.hit,Pn.kind,this]
@[simp] theorem AaU (t:Int) (a b:Pn):scP t (bU a b)=(scP t a || scP t b):=by simp[bU,scP,AMP,Pn.hit,Pn.kind]
@[simp] theorem ATI (t:Int) (a:Pn):scP t (.mk 7 0 [] [] [a])=scP t a:=by simp[scP,AMP,Pn.hit,Pn.kind]
theorem AY4 {ws:List Int} {r:Int} {e:Ex} {k q:Pn} {m:Nat} (hk:k.wd ws m≠0) (h:rwF ws r e k=some q) (t:Int):scP t q=scP t k:=by
 obtain⟨s2,s3,s45,s6,s7⟩:=ER (kM hk);unfold rwF at h;split at h
 ·rename_i hc;obtain⟨e2,a,rfl⟩:=s2 hc.2;injection h with h;subst h;simp[filt,Pn.kid0,Pn.kids];simp[scP,AMP,Pn.hit,Pn.kind]
 split at h
 ·injection h with h;subst h;simp
 split at h
 ·rename_i hc;obtain⟨e2,a,b,hk2⟩:=s45 _ hc.2.1 rfl;have hkd:=hc.2.1;generalize k.kind=kd at *
  subst hk2;injection h with h;subst h;rw[qP t kd hkd,qP t kd hkd];simp[aX,Pn.kid0,Pn.DY,Pn.kids]
 split at h
 ·rename_i hc;obtain⟨e2,a,b,rfl⟩:=s45 4 (.inl rfl) hc.2.1;injection h with h;subst h;rw[qP t 4 (.inl rfl),qP t 4 (.inl rfl)];simp[aX,Pn.kid0,Pn.DY,Pn.kids]
 split at h
 ·rename_i hc;obtain⟨e2,a,b,rfl⟩:=s45 4 (.inl rfl) hc.2;injection h with h;subst h;rw[qP t 4 (.inl rfl),qP t 4 (.inl rfl)];simp[aX,Pn.kid0,Pn.DY,Pn.kids]
 split at h
 ·rename_i hc;obtain⟨e2,a,b,rfl⟩:=s45 5 (.inr rfl) hc.2.1;injection h with h;subst h;rw[AI9,qP t 4 (.inl rfl),qP t 5 (.inr rfl)];simp[aX,Pn.kid0,Pn.DY,Pn.kids]
 split at h
 ·rename_i hc;obtain⟨a,b,rfl⟩:=s6 hc.2;injection h with h;subst h;simp;simp[bU,Pn.kid0,Pn.DY,Pn.kids]
 split at h
 ·rename_i hc;obtain⟨es,a,rfl⟩:=s3 hc.2;injection h with h;subst h;simp;simp[proj,Pn.kid0,Pn.kids]
 ·cases h
theorem AY2 {ws:List Int} {r:Int} {p q:Pn} {m:Nat} (hp:p.wd ws m≠0) (h:rwP ws r p=some q) (t:Int):scP t q=scP t p:=by
 have hs:=kM hp;obtain⟨s2,s3,s45,s6,s7⟩:=ER hs;unfold rwP at h;split at h
 ·rename_i hc;obtain⟨e,k,rfl⟩:=s2 hc;rw[AI9]
  cases hs with
  | filt m' _ _ _ hk _=>exact AY4 hk h t
 split at h
 ·rename_i hc;obtain⟨e,a,b,rfl⟩:=s45 4 (.inl rfl) hc.2;injection h with h;subst h;rw[RD,qP t 4 (.inl rfl),qP t 4 (.inl rfl),Bool.or_comm];simp[aX,Pn.kid0,Pn.DY,Pn.kids]
 split at h
 ·rename_i hc;obtain⟨a,rfl⟩:=s7 hc.2.1;injection h with h;subst h;rw[ATI];rfl
 split at h
 ·rename_i hc;obtain⟨es,a,rfl⟩:=s3 hc.2.1;injection h with h;subst h;rw[RD,RD]
  cases hs with
  | proj m' _ _ _ ha _ _ =>
   obtain⟨es2,b,rfl⟩:=(ER (kM ha)).2.1 hc.2.2;rw[RD];rfl
 ·cases h
theorem ABQ (t:Int):∀ l:List Pn,AMP t l=l.any (scP t)
 | []=>rfl
 | p::l=>by simp[AMP,ABQ t l]
theorem AM8 {α:Type} (f:α→Bool):∀ (l:List α) (i:Nat) (a b:α),l[i]?=some a→f b=f a→(l.set i b).any f=l.any f
 | [],i,a,b,h,_=>by simp at h
 | x::l,0,a,b,h,hf=>by simp at h;subst h;simp[hf]
 | x::l,i+1,a,b,h,hf=>by simp[AM8 f l i a b (by simpa using h) hf]
theorem AR8 {t:Int} {q:Pn}:∀ (path:List Int) (p a:Pn),Pn.at path p=some a→scP t q=scP t a→scP t (Pn.put path p q)=scP t p
 | [],p,a,h,hq=>by simp only[Pn.at,Option.some.injEq]at h;subst h;simpa [Pn.put]using hq
 | i::r,p,a,h,hq=>by
  obtain⟨n,rfl,b,hb,hr⟩:=Pn.tT h;have:=AR8 r b a hr hq;obtain⟨k,tb,es,cs,ks⟩:=p;have hb:ks[n]?=some b:=hb;have e:Pn.put ((n:Int)::r) (Pn.mk k tb es cs ks) q=.mk k tb es cs (ks.set n (Pn.put r b q)):=by simp[Pn.put,Pn.kind,Pn.table,Pn.exprs,Pn.cols,Pn.kids,hb]
  rw[e];simp only[scP,ABQ,AM8 (scP t) _ _ _ _ hb this];rfl
theorem Aa8 {p q:Pn} {ws:List Int} {r:Int} {path:List Int} (h:apO p ws r path=some q) (t:Int):scP t q=scP t p:=by
 unfold apO at h;split at h
 ·cases h
 rename_i h0;obtain⟨hw,hp8⟩:=uH h0;unfold apI at h;split at h
 ·rename_i hl
  cases ha:Pn.at path p with
  | none=>simp[ha]at h
  | some a =>
   obtain⟨-,hv⟩:=TT path p 8 a hp8 ha;simp only[ha,yT,rwL]at h
   cases hr:rwP ws r a with
   | none=>simp[hr]at h
   | some x =>
    simp only[hr,yT]at h;by_cases hx:x.wd ws (8-path.length)=0
    ·simp[hx]at h
    ·simp[hx]at h;subst h;exact AR8 path p a ha (AY2 hv hr t)
 ·cases h
def aps (ws:List Int):List (Int×List Int)→Pn→Option Pn
 | [],p=>some p
 | s::l,p=>(apO p ws s.1 s.2).bind (aps ws l)
theorem YG {ws:List Int}:∀ (l:List (Int×List Int)) (p q:Pn),aps ws l p=some q→q.width ws=p.width ws∧(∀ t,scP t q=scP t p)∧(p.width ws≠0→q.wd ws 8≠0)
 | [],p,q,h=>by
  simp only[aps,Option.some.injEq]at h;subst h;exact⟨rfl,fun _=>rfl,fun h=>(uH h).2⟩
 | s::l,p,q,h=>by
  simp only[aps]at h
  cases hx:apO p ws s.1 s.2 with
  | none=>rw[hx]at h;cases h
  | some x =>
   rw[hx]at h;obtain⟨h1,h2,h3⟩:=YG l x q h
   have hw:x.width ws=p.width ws:=by
    have hx':=hx;unfold apO at hx';split at hx'
    ·cases hx'
    ·rename_i h0;obtain⟨hw,hp8⟩:=uH h0
     have hr:∀ w∈ws,0≤w∧w≤6:=fun w hm=>by
      unfold pO at hw;simp only[zU]at hw;have:=zS.1 hw.2 w hm;unfold bH at this;simp at this;omega
     rw[AM7 hr hp8]at hx';have:=ASE hr hp8 hx';unfold Pn.width;rw[if_pos hw,if_pos hw];exact this
   exact⟨h1.trans hw,fun t=>(h2 t).trans (Aa8 hx t),fun h=>h3 (by rw[hw];exact h)⟩
def jkL (i:Nat) (l:StL):StL:=if i=0 then []else l
@[simp] theorem AjT (l:StL):jkL 0 l=[]:=(rfl)
@[simp] theorem Ab9 (i:Nat) (l:StL):jkL (i+1) l=l:=(rfl)
theorem AA6 {i:Nat} (h:i≠0) (l:StL):jkL i l=l:=by unfold jkL;rw[if_neg h]
def jA (i:Nat) (v:AV):AV:=if i=0 then .junk else v
@[simp] theorem ArW (v:AV):jA 0 v=.junk:=(rfl)
@[simp] theorem AcI (i:Nat) (v:AV):jA (i+1) v=v:=(rfl)
theorem AKE {i:Nat} (h:i≠0) (v:AV):jA i v=v:=by unfold jA;rw[if_neg h]
theorem ABF {ws:List Int} {p:Pn} (h:p.wd ws 8≠0):p.tiny∧p.size<512:=by
 have:=Pn.JF p 8 h;exact⟨this.1,by omega⟩
end Go.Av
namespace Go.Proofs.YtnmimmaahhlgeaaGreat.P
open Go Go.Av
set_option maxRecDepth 4000
set_option maxHeartbeats 1000000
@[simp] theorem AZW (a:List AV) (st:StL):aG CA 29 a st=aG C0 29 a st:=by rw[aN (p:=aG C0 29) rfl]
theorem XZ {p:Pn} {ws:List Int} (h:p.wd ws 8≠0):aG C0 29 [.i (.iref p.cells)] []=some (.i (.agg p.cells),[]):=by
 rw[aN (p:=XY) rfl];exact AD3 ⟨by have:=(ABF h).2;omega,YZ p 8 h,(ABF h).1⟩
def zpB:Option Blk:=some (.box [.int 0, .int 0, .nils, .nils, .nils])
def stB (s:Int×List Int):Option Blk:=some (.box [.i (.int s.1), .i (.isl (aH s.2))])
theorem uQ (l:List Stp):(oJ l).length=l.length:=by simp[oJ]
set_option maxHeartbeats 4000000
end Go.Proofs.YtnmimmaahhlgeaaGreat.P
namespace Go.Av
end Go.Av
namespace Go.Proofs.YtnmimmaahhlgeaaGreat.P
open Go Go.Av
set_option maxRecDepth 4000
set_option maxHeartbeats 4000000
structure SSt where
 q:Pn
 L:List Stp
 p:Int
 b:Bool
set_option maxHeartbeats 8000000
set_option maxHeartbeats 2000000
theorem AOS (p:Pn) (i:Nat):aG C0 12 [.i (.agg p.cells), .int i] []=some (.i (.agg ((p.kids[i]?).getD Pn.zero).cells),[]):=by
 rw[aD rfl Tryz.func12 rfl rfl,Pn.aA p];by_cases h:i<p.kids.length
 ·have q1:=zX h;have r2:=Pn.aV q1;rw[q1];simp only[zC];generalize p.kids[i]=a at r2;rw[Pn.aA a]at r2 ⊢;have hn:¬ p.kids.length≤i:=by omega
  simp[hn,h,r2]
 ·have hn:p.kids.length≤i:=by omega
  rw[zD6 hn];simp[hn,Pn.zero,Pn.cells,Ex.aB,aH,Pn.aB]
end Go.Proofs.YtnmimmaahhlgeaaGreat.P
namespace Go.Av
theorem AE5 {p:Pn} {ws:List Int} {s:Stp}:s∈ABL p ws↔(apO p ws s.1 s.2).isSome=true:=by
 unfold ABL apO;by_cases h0:p.width ws=0
 ·simp[h0]
 ·obtain⟨hw,hp8,hv⟩:=EN h0;rw[if_neg h0,if_neg h0,AE4 (AC4 hw) hp8,AT3,AM7 (AC4 hw) hp8]
end Go.Av
namespace Go.Proofs.YtnmimmaahhlgeaaGreat.P
open Go Go.Av
set_option maxRecDepth 4000
set_option maxHeartbeats 2000000
end Go.Proofs.YtnmimmaahhlgeaaGreat.P
namespace Go.Av
def nP (ws:List Int) (p:Pn):Nat→Pn
 | 0=>p
 | i+1=>match qU (stI ws [] (nP ws p i))with
  | some s=>AP5 (apO (nP ws p i) ws s.1 s.2)
  | none=>nP ws p i
def nL (ws:List Int) (p:Pn):Nat→List Stp
 | 0=>[]
 | i+1=>match qU (stI ws [] (nP ws p i))with
  | some s=>nL ws p i++[s]
  | none=>nL ws p i
theorem SK {ws:List Int} {p:Pn} {s:Stp} (h0:p.width ws≠0) (h:qU (stI ws [] p)=some s):∃ q,apO p ws s.1 s.2=some q∧s∈stI ws [] p∧AFE s.1=true:=by
 have hm:s∈stI ws [] p:=List.mem_of_find?_eq_some h
 have hl:AFE s.1=true:=by
  have:=List.find?_some h;simpa using this
 have:s∈ABL p ws:=by unfold ABL;rw[if_neg h0];exact hm
 have:=AE5.1 this
 cases hq:apO p ws s.1 s.2 with
 | none=>rw[hq]at this;cases this
 | some q=>exact⟨q,rfl,hm,hl⟩
theorem Aa7 {p q:Pn} {ws:List Int} {r:Int} {path:List Int} (h:apO p ws r path=some q):q.width ws=p.width ws:=by
 have:=YG (ws:=ws) [(r,path)] p q (by simp[aps,h]);exact this.1
theorem AC7 {ws:List Int} {p:Pn} (h0:p.width ws≠0):∀ i,(nP ws p i).width ws=p.width ws
 | 0=>rfl
 | i+1=>by
  have ih:=AC7 h0 i;simp only[nP]
  cases hf:qU (stI ws [] (nP ws p i))with
  | none=>exact ih
  | some s =>
   obtain⟨q,hq,_,_⟩:=SK (by rw[ih];exact h0) hf;simp only[hq,AP5,zC];exact(Aa7 hq).trans ih
theorem AJT {ws:List Int} {p:Pn}:∀ j,(∀ i,i<j→(qU (stI ws [] (nP ws p i))).isSome=true)→(nL ws p j).length=j
 | 0,_=>rfl
 | j+1,h=>by
  have ih:=AJT j fun i hi=>h i (by omega)
  have:=h j (by omega);simp only[nL]
  cases hf:qU (stI ws [] (nP ws p j))with
  | none=>rw[hf]at this;cases this
  | some s=>simp[ih]
theorem AJS {ws:List Int} {p:Pn} {j:Nat} (h:qU (stI ws [] (nP ws p j))=none):∀ k,nP ws p (j+k)=nP ws p j∧nL ws p (j+k)=nL ws p j
 | 0=>⟨rfl,rfl⟩
 | k+1=>by
  obtain⟨h1,h2⟩:=AJS h k;rw[← y7];simp only[nP,nL,h1,h,h2,and_self]
theorem AJN (ws:List Int) (p:Pn):∃ j,j≤40∧(∀ i,i<j→∃ s,qU (stI ws [] (nP ws p i))=some s)∧(j=40∨qU (stI ws [] (nP ws p j))=none)∧nP ws p 40=nP ws p j∧nL ws p 40=nL ws p j∧(nL ws p j).length=j:=by
 obtain⟨j,h1,h2,h3⟩:=AAJ (fun i=>(qU (stI ws [] (nP ws p i))).isNone) 40
 have h2':∀ i,i<j→∃ s,qU (stI ws [] (nP ws p i))=some s:=fun i hi=>by
  have:=h2 i hi
  cases hf:qU (stI ws [] (nP ws p i))with
  | none=>rw[hf]at this;cases this
  | some s=>exact⟨s,rfl⟩
 have hl:=AJT (ws:=ws) (p:=p) j fun i hi=>by obtain⟨s,hs⟩:=h2' i hi;rw[hs];rfl
 rcases h3 with rfl|h3
 ·exact⟨40,h1,h2', .inl rfl,rfl,rfl,hl⟩
 ·have hn:qU (stI ws [] (nP ws p j))=none:=by
   cases hf:qU (stI ws [] (nP ws p j))with
   | none=>rfl
   | some s=>rw[hf]at h3;cases h3
  have:=AJS hn (40-j);rw[show j+(40-j)=40 by omega]at this;exact⟨j,h1,h2', .inr hn,this.1,this.2,hl⟩
end Go.Av
namespace Go.Proofs.YtnmimmaahhlgeaaGreat.P
open Go Go.Av
set_option maxRecDepth 4000
set_option maxHeartbeats 4000000
theorem AFO {l:List Int} {x:List IV} (h:x∈aH l):∃ n:Int,x=[.int n]:=by
 induction l with
 | nil=>simp[aH]at h
 | cons a l ih =>
  simp only[aH,zP]at h
  rcases h with rfl|h
  ·exact⟨a,rfl⟩
  ·exact ih h
theorem AJO {ws:List Int} (hw:pO ws=true) {p:Pn} (hp:p.wd ws 8≠0):aG CA 32 [.own 0 0, .i (.isl (aH ws))] [AGI p]=some (.tup [.i (AWI (qU (stI ws [] p))), .bool (qU (stI ws [] p)).isSome],[AGI p]):=by
 rw[aN (p:=AK2 (AGJ C0 32)) rfl];unfold AK2
 have hb:JJ (bJ [AGI p]) [.own 0 0, .i (.isl (aH ws))]=some [.i (.iref p.cells), .i (.isl (aH ws))]:=by
  rw[Pn.aA];simp[AGI,JJ,AN8,U8,G7,U9,R3,bJ,bnd]
 rw[hb];simp only[gK];have c3:=fun R cs (hY:Yn R cs)=>AE6 hY hw hp
 have c2:=ANM p ws;rw[APS Tryz.func32 rfl rfl];simp only[Pn.aA p]at c2 c3 ⊢;simp[c2,cZ,VG,IQ,OM,ADV,Op.operands,Call.operands,sF];generalize hR:Rng.mk [0,1,4,5,6,9,10,12] _ [10] _ _=R
 have hY:Yn R [.own 1 0, .own 2 0, .junk, .junk, .junk]:=by
  clear c2 c3;refine⟨rfl,?_,?_,?_,?_⟩
  ·intro r h;have hn:=nX r [];rw[h]at hn;simp[aH]at hn;subst hR;rw[fQ];simp[NS0,hn]
  ·intro r path hp h;have hn:=nX r path;rw[h]at hn;subst hR;rw[fQ];have ht:path.take path.length=path:=zZ (by omega);simp[NS0,hn,ht]
  ·intro r h;have hn:=nX r [];rw[h]at hn;simp[aH]at hn;subst hR;rw[fQ];simp[NS0,NS1,hn]
  ·intro r path hp h;have hn:=nX r path;rw[h]at hn;subst hR;rw[fQ];have ht:path.take path.length=path:=zZ (by omega);simp[NS0,NS1,hn,ht,hp]
 have c3:=c3 R _ hY;clear hR
 cases hf:qU (stI ws [] p)with
 | none =>
  simp[hf]at c3;simp[c3,AWI,kvT,ARL,kvA,ARK,kvK,bnd]
 | some s =>
  by_cases hs:s.2=[]
  ·simp[hf,hs]at c3;simp[c3,AWI,hs,aH,kvT,ARL,kvA,ARK,kvK,bnd]
  ·simp[hf,hs]at c3;have hl:0<s.2.length:=by have:s.2.length≠0:=fun h=>hs (zW.1 h);omega
   have ht:List.take s.2.length (aH s.2)=aH s.2:=zZ (by simp)
   have hlit:(aH s.2).all F9=true:=by
    rw[zS];intro x hx;obtain⟨n,rfl⟩:=AFO hx;rfl
   simp[c3,AWI,kvT,ARL,kvA,ARK,kvK,bnd,tst,hl,ht,hlit]
def nrR (ws:List Int) (p:Pn):AV×StL:=if p.width ws=0 then(.tup [.i (.agg Pn.zero.cells), .i (.isl [])],[])else(.tup [.i (.agg (nP ws p 40).cells), .i (.isl (oJ (nL ws p 40)))],[])
def NRX (p:Pn) (ws:List Int) (i:Nat):AS :=
 { env:=[(0, .i (.agg p.cells)),(1, .i (.isl (aH ws))),(2, .own 0 0),(4, .own 1 0),(5, .nils),(6, .own 2 0),(7,if i=0 then .nils else .osl 3 2 0 i),(8,jA i (.own 4 0)),(9,jk i (.bool true)),(13, .bool false),(18,jk i (.bool true)),(25,jk i (.bool false))],
   st:=[some (.fbox p.cells),zpB,AGI (nP ws p i)]++jkL i [some (.arr 2 (oJ (nL ws p i))),stB (((nL ws p i).getLast?).getD (0,[]))] }
theorem YR (p:Pn) (ws:List Int):aG CA 16 [.i (.agg p.cells), .i (.isl (aH ws))] []=some (nrR ws p):=by
 have c1:=mV p ws;rw[aD rfl Tryz.func16 rfl rfl];unfold nrR;by_cases h0:p.width ws=0
 ·rw[Pn.aA p]at c1 ⊢;simp[c1,h0,Pn.zero,Pn.cells,Ex.aB,aH,Pn.aB]
 simp only[h0,if_false];obtain⟨hw,hp8⟩:=uH h0;have c2:=XZ hp8;obtain⟨j,hj,h1,h2,h3,h4,h5⟩:=AJN ws p;rw[h3,h4];have hwd:∀ i,(nP ws p i).width ws≠0:=fun i=>by rw[AC7 h0];exact h0
 have hk:=fun i=>AJO hw (uH (hwd i)).2
 rw[Pn.aA p]at c1 c2 ⊢;simp[c1,h0,c2];rw[aS (NRX p ws) j (by simp[NRX,zpB,AGI,nP,h0,Pn.aA p])]
 ·rw[aF];have hkj:=hk j;have ht:List.take j (oJ (nL ws p j))=oJ (nL ws p j):=zZ (by rw[uQ];omega);by_cases hj40:j=40
  ·subst hj40;simp[NRX,zpB,AGI,stB,dR,AA6,AKE,ht,Pn.aA (nP ws p 40),uQ,h5]
  ·have hn:=h2.resolve_left hj40;rw[hn]at hkj;simp[AWI,AGI]at hkj;have hlt:(j:Int)<40:=by omega
   by_cases hi0:j=0
   ·subst hi0;simp[NRX,zpB,AGI,hkj,Pn.aA (nP ws p 0),nL,oJ]
   ·simp[NRX,zpB,AGI,stB,hi0,dR hi0,AA6 hi0,AKE hi0,ht,hlt,hkj,Pn.aA (nP ws p j),uQ,h5]
 ·intro i hi;obtain⟨s,hs⟩:=h1 i hi;have hkj:=hk i;rw[hs]at hkj;obtain⟨q,hq,_,_⟩:=SK (hwd i) hs;have e5:=YA (nP ws p i) ws s.1 s.2;rw[hq]at e5;have hP1:nP ws p (i+1)=q:=by simp[nP,hs,hq,AP5]
  have hL1:nL ws p (i+1)=nL ws p i++[s]:=by simp[nL,hs]
  have hlen:(nL ws p i).length=i:=AJT i fun k hk=>by obtain⟨s,hs⟩:=h1 k (by omega);rw[hs];rfl
  have hS:oJ (nL ws p i)++[[.int s.1, .isl (aH s.2)]]=oJ (nL ws p (i+1)):=by rw[hL1,UL];rfl
  have hgl:((nL ws p (i+1)).getLast?).getD (0,[])=s:=by rw[hL1];simp
  have ht:List.take i (oJ (nL ws p i))=oJ (nL ws p i):=zZ (by rw[uQ];omega);have hlt:(i:Int)<40:=by omega
  have hb:(i+1)*32≤140737488355328:=by omega
  rw[Pn.aA (nP ws p i)]at e5;simp[apR,Pn.aA q]at e5;simp[AWI,AGI]at hkj;simp only[NRX,hP1,hgl];by_cases hi0:i=0
  ·subst hi0;have hS0:[[IV.int s.1,IV.isl (aH s.2)]]=oJ (nL ws p (0+1)):=by rw[← hS];simp[nL,oJ]
   simp[zpB,AGI,stB,hkj,e5,← hS0]
  ·simp[zpB,AGI,stB,hi0,dR hi0,AA6 hi0,AKE hi0,ht,hlt,hkj,e5,hS,hb,uQ,hlen]
def jB (i k:Nat):AV:=if k=0 then jk i (.bool false)else .bool true
@[simp] theorem ArV (i:Nat):jB i 0=jk i (.bool false):=(rfl)
@[simp] theorem AcH (i k:Nat):jB i (k+1)=.bool true:=(rfl)
end Go.Proofs.YtnmimmaahhlgeaaGreat.P
namespace Go.Proofs.YtnmimmaahhlgeaaGreat
open Go Go.Av
set_option maxRecDepth 4000
def tS (v:Val):Int:=if v.null=true then 2 else if v.n=0 then 0 else 1
def AWQ (n:Int):Val:=if n=2 then⟨true,0⟩else⟨false,n⟩
def N9 (a b:Int):Int:=if a=0∨b=0 then 0 else if a=1∧b=1 then 1 else 2
def WI (a:Int):Int:=if a=2 then 2 else 1-a
theorem JN (v:Val):(tS v=0∧v.tr=0)∨(tS v=1∧v.tr=2)∨(tS v=2∧v.tr=1):=by
 unfold tS Val.tr
 cases v.null
 ·by_cases h:v.n=0<;>simp[h]
 ·simp
@[simp] theorem AaS (b:Bool) (n:Int):aG C0 163 [.i (.agg [.bool b, .int n])] []=some (.int (tS ⟨b,n⟩),[]):=by
  rw[aD rfl Tryz.func163 rfl rfl]
  cases b
  ·by_cases h:n=0<;>simp[tS,h]
  ·simp[tS]
@[simp] theorem ATD (n:Int):aG C0 164 [.int n] []=some (.i (.agg [.bool (AWQ n).null, .int (AWQ n).n]),[]):=by
  rw[aD rfl Tryz.func164 rfl rfl];by_cases h:n=2<;>simp[AWQ,h]
@[simp] theorem AR4 (a b:Int):aG C0 191 [.int a, .int b] []=some (.int (N9 a b),[]):=by
  rw[aD rfl Tryz.func191 rfl rfl];by_cases h1:a=0
  ·simp[N9,h1]
  ·by_cases h2:b=0
   ·simp[N9,h1,h2]
   ·by_cases h3:a=1
    ·by_cases h4:b=1<;>simp[N9,h3,h4,h2]
    ·simp[N9,h1,h2,h3]
theorem pY (a:Int) (h:0≤a∧a≤2):aG C0 165 [.int a] []=some (.int (WI a),[]):=by
 rw[aD rfl Tryz.func165 rfl rfl];have w:IntKind.i64.wrap (1-a)=1-a:=wrO;by_cases h1:a=2<;>simp[WI,h1,w]
@[simp] theorem AXY (b:Bool):aG C0 166 [.bool b] []=some (.int (if b=true then 1 else 0),[]):=by
  rw[aD rfl Tryz.func166 rfl rfl]
  cases b<;>simp
@[simp] theorem AWL (n:Int):aG C0 192 [.int n] []=some (.i (.agg [.bool (AJK n).null, .int (AJK n).n]),[]):=by
  rw[aD rfl Tryz.func192 rfl rfl];by_cases h:-9999≤n∧n≤9999<;>simp[AJK,h]
theorem AVZ (a b:Val):AWQ (N9 (tS a) (tS b))=Val.cmb 8 a b:=by
 have e:Val.cmb 8 a b=trV (if b.tr<a.tr then b.tr else a.tr):=by simp[Val.cmb]
 rw[e]
 rcases JN a with ⟨h1,h2⟩|⟨h1,h2⟩|⟨h1,h2⟩<;>rcases JN b with ⟨h3,h4⟩|⟨h3,h4⟩|⟨h3,h4⟩<;>rw[h1,h2,h3,h4]<;>decide
theorem AYU (a b:Val):AWQ (WI (N9 (WI (tS a)) (WI (tS b))))=Val.cmb 9 a b:=by
 have e:Val.cmb 9 a b=trV (if b.tr > a.tr then b.tr else a.tr):=by simp[Val.cmb]
 rw[e]
 rcases JN a with ⟨h1,h2⟩|⟨h1,h2⟩|⟨h1,h2⟩<;>rcases JN b with ⟨h3,h4⟩|⟨h3,h4⟩|⟨h3,h4⟩<;>rw[h1,h2,h3,h4]<;>decide
theorem AYW (a:Val):AWQ (WI (tS a))=trV (2-a.tr):=by
 rcases JN a with ⟨h1,h2⟩|⟨h1,h2⟩|⟨h1,h2⟩<;>rw[h1,h2]<;>decide
theorem AbQ (v:Val):0≤tS v∧tS v≤2:=by rcases JN v with h|h|h<;>omega
theorem AMA (a b:Int):0≤N9 a b∧N9 a b≤2:=by
 unfold N9;split
 ·omega
 ·split<;>omega
theorem ZJ (k:Int) (a b:Val) (ha:a.ok=true) (hb:b.ok=true):aG C0 167 [.int k, .i (.agg [.bool a.null, .int a.n]), .i (.agg [.bool b.null, .int b.n])] []=some (.i (.agg [.bool (Val.cmb k a b).null, .int (Val.cmb k a b).n]),[]):=by
 have n1:=pY (tS a) (AbQ a);have n2:=pY (tS b) (AbQ b);have n3:=pY (N9 (WI (tS a)) (WI (tS b))) (AMA _ _);have e8:=AVZ a b;have e9:=AYU a b;rw[aD rfl Tryz.func167 rfl rfl];obtain⟨an,a⟩:=a;obtain⟨bn,b⟩:=b;have ba:-9999≤a∧a≤9999:=by cases an<;>simp[Val.ok]at ha<;>omega
 have bb:-9999≤b∧b≤9999:=by cases bn<;>simp[Val.ok]at hb<;>omega
 have w1:IntKind.i64.wrap (a+b)=a+b:=wrO;have w2:IntKind.i64.wrap (a-b)=a-b:=wrO
 have w3:IntKind.i64.wrap (a*b)=a*b:=by
  have h1:a*b≤9999*9999:=by
   have:=zB1 (x:=a) (y:=b) (s:=9999) (t:=9999) (by omega) (by omega);omega
  have h2:-(9999*9999)≤a*b:=by
   have:=zB1 (x:=-a) (y:=b) (s:=9999) (t:=9999) (by omega) (by omega);rw[Int.neg_mul]at this;omega
  exact wrO
 by_cases k8:k=8
 ·subst k8;rw[← e8];simp
 by_cases k9:k=9
 ·subst k9;rw[← e9];simp[n1,n2,n3]
 cases an
 ·cases bn
  ·by_cases k3:k=3
   ·simp[Val.cmb,k3,w1]
   by_cases k4:k=4
   ·simp[Val.cmb,k4,w2]
   by_cases k5:k=5
   ·simp[Val.cmb,k5,w3]
   by_cases k6:k=6
   ·simp[Val.cmb,k6,FM]
   ·simp[Val.cmb,k8,k9,k3,k4,k5,k6,FM]
  ·simp[Val.cmb,k8,k9]
 ·simp[Val.cmb,k8,k9]
theorem ANI {e:Ex} {row:List Val} {v:Val} (hk:e.kind=1) (h0:0≤e.col) (hv:row[e.col.toNat]?=some v) :
 aG C0 118 [.i (.agg e.cells), .i (.isl (aO row))] []=some (.i (.agg [.bool v.null, .int v.n]),[]):=by
 rw[aD rfl Tryz.func118 rfl rfl,Ex.aA];have r1:=(zY.1 hv).1;simp[hk,h0,bS hv,show e.col<row.length by omega]
theorem AE0 {e:Ex} {row:List Val} (hk:e.kind=2) :
 aG C0 118 [.i (.agg e.cells), .i (.isl (aO row))] []=some (.i (.agg [.bool e.val.null, .int e.val.n]),[]):=by
 rw[aD rfl Tryz.func118 rfl rfl,Ex.aA];simp[hk]
theorem ANH {e a:Ex} {va:Val} {row:List Val} (hk:e.kind=10∨e.kind=11) (hks:e.kids=[a]) (ha:aG C0 118 [.i (.agg a.cells), .i (.isl (aO row))] []=some (.i (.agg [.bool va.null, .int va.n]),[])) :
 aG C0 118 [.i (.agg e.cells), .i (.isl (aO row))] []=some (.i (.agg [.bool (evN row e.kind e.col e.val [va]).null, .int (evN row e.kind e.col e.val [va]).n]),[]):=by
 have n1:=pY (tS va) (AbQ va);have e1:=AYW va;rw[aD rfl Tryz.func118 rfl rfl,Ex.aA,hks];rw[Ex.aA a]at ha
 rcases hk with hk|hk
 ·simp[hk,Ex.aB,ha,n1,evN,Ex.aA a,← e1]
 ·simp[hk,Ex.aB,ha,evN,Ex.aA a,FM]
theorem ANG {e a b:Ex} {va vb:Val} {row:List Val} (h1:e.kind≠1) (h2:e.kind≠2) (h3:e.kind≠10) (h4:e.kind≠11) (hks:e.kids=[a,b]) (oa:va.ok=true) (ob:vb.ok=true) (ha:aG C0 118 [.i (.agg a.cells), .i (.isl (aO row))] []=some (.i (.agg [.bool va.null, .int va.n]),[]))
 (hb:aG C0 118 [.i (.agg b.cells), .i (.isl (aO row))] []=some (.i (.agg [.bool vb.null, .int vb.n]),[])) :
 aG C0 118 [.i (.agg e.cells), .i (.isl (aO row))] []=some (.i (.agg [.bool (evN row e.kind e.col e.val [va,vb]).null, .int (evN row e.kind e.col e.val [va,vb]).n]),[]):=by
 have hc:=ZJ e.kind va vb oa ob;rw[aD rfl Tryz.func118 rfl rfl,Ex.aA,hks];rw[Ex.aA a]at ha;rw[Ex.aA b]at hb;simp[h1,h2,h3,h4,Ex.aB,ha,hb,hc,evN,Ex.aA a,Ex.aA b]
theorem GN {m:Int} (row:List Val) (hm:m=row.length) (hr:row.all Val.ok=true):∀ (e:Ex),e.wf m=true→aG C0 118 [.i (.agg e.cells), .i (.isl (aO row))] []=some (.i (.agg [.bool (e.ev row).null, .int (e.ev row).n]),[]):=by
 intro e
 induction e using Ex.ind with
 | h k c v ks ih =>
  intro h
  rcases WW h with ⟨k1,ck⟩|⟨k1,ck⟩|⟨k1,a,ck⟩|⟨k1,k2,k3,k4,a,b,ck⟩
  ·obtain⟨h0,h1,_⟩:=Ex.pV h k1;have hi:c.toNat<row.length:=by simp[Ex.col]at h0 h1;omega
   have hb:=zX hi;have:=ANI (e:=.mk k c v ks) (row:=row) k1 h0 hb;rw[this];simp[Ex.kind]at k1;simp[Ex.ev,evN,k1,hb]
  ·rw[AE0 k1];simp[Ex.kind]at k1;simp[Ex.ev,evN,k1,Ex.val]
  ·have ck':ks=[a]:=ck;subst ck';have ha:=ih a (by simp) (Ex.iU h (by simp[Ex.kids]));rw[ANH k1 rfl ha];simp[Ex.ev,Ex.evL,Ex.kind,Ex.col,Ex.val]
  ·have ck':ks=[a,b]:=ck;subst ck';have wa:=Ex.iU h (show a∈(Ex.mk k c v [a,b]).kids by simp[Ex.kids]);have wb:=Ex.iU h (show b∈(Ex.mk k c v [a,b]).kids by simp[Ex.kids]);have ha:=ih a (by simp) wa;have hb:=ih b (by simp) wb;rw[ANG k1 k2 k3 k4 rfl (AG3 row hm hr a wa) (AG3 row hm hr b wb) ha hb];simp[Ex.ev,Ex.evL,Ex.kind,Ex.col,Ex.val]
theorem AXU (e:Ex) (row:List Val):decide (tS (e.ev row)=1)=isT e row:=by
 unfold isT
 rcases JN (e.ev row)with ⟨h1,h2⟩|⟨h1,h2⟩|⟨h1,h2⟩<;>simp[h1,h2]
theorem UZ {m:Int} (row:List Val) (hm:m=row.length) (hr:row.all Val.ok=true) (e:Ex) (h:e.wf m=true):aG C0 117 [.i (.agg e.cells), .i (.isl (aO row))] []=some (.bool (isT e row),[]):=by
 have h1:=GN row hm hr e h;rw[aD rfl Tryz.func117 rfl rfl];rw[Ex.aA]at h1 ⊢;rw[← AXU];simp[h1];rfl
theorem rH (a b:Val) (ha:a.ok=true) (hb:b.ok=true):aG C0 154 [.i (.agg [.bool a.null, .int a.n]), .i (.agg [.bool b.null, .int b.n])] []=some (.int (Val.cmp a b),[]):=by
 rw[aD rfl Tryz.func154 rfl rfl];obtain⟨an,a⟩:=a;obtain⟨bn,b⟩:=b
 cases an<;>cases bn<;>simp[Val.ok]at ha hb
 ·by_cases h1:a=b
  ·subst h1;simp[Val.cmp]
  ·by_cases h2:a<b
   ·simp[Val.cmp,h1,h2]
   ·have:b<a:=by omega
    simp[Val.cmp,h1,h2,this]
 ·subst hb;by_cases h1:a=0<;>simp[Val.cmp,h1]
 ·subst ha;simp[Val.cmp]
 ·subst ha;subst hb;simp[Val.cmp]
end Go.Proofs.YtnmimmaahhlgeaaGreat
namespace Go.Av
abbrev LeK (cs:List Int) (a b:List Val):Prop:=fG (aU cs a) (aU cs b)=true
abbrev jZ (cs:List Int) (l:List (List Val)):Prop:=l.Pairwise (LeK cs)
theorem LeK.refl (cs:List Int) (a:List Val):LeK cs a a:=o9 _
theorem LeK.trans {cs:List Int} {a b c:List Val} (h1:LeK cs a b) (h2:LeK cs b c):LeK cs a c:=oM h1 h2
theorem ANO {cs:List Int} {l:List (List Val)} (h:jZ cs l):(l.map (aU cs)).Pairwise (fun a b=>fG a b=true):=List.pairwise_map.2 h
def swp {α:Type} (l:List α) (i j:Nat) (x y:α):List α:=(l.set i y).set j x
theorem set_mid {α:Type} (P:List α) (a b:α) (S:List α) {i:Nat} (hi:i=P.length):(P++a::S).set i b=P++b::S:=by
 subst hi;rw[zB6 _ _ (zL _),zG6];rfl
theorem ASX {α:Type} (P M S:List α) (a b:α) {i j:Nat} (hi:i=P.length) (hj:j=P.length+1+M.length):swp (P++a::(M++b::S)) i j a b=P++b::(M++a::S):=by
 unfold swp;rw[set_mid P a b _ hi];have:P++b::(M++b::S)=(P++b::M)++b::S:=by simp
 rw[this,set_mid _ b a S (by simp;omega)];simp
theorem kE {α:Type} (P:List α) (a:α) (S:List α) {i:Nat} (hi:i=P.length):(P++a::S)[i]?=some a:=by
 subst hi;rw[zN (zL _),zG6];rfl
theorem jF (l:List (List Val)) (i:Nat) (r:List Val):(aJ l).set i [.isl (aO r)]=aJ (l.set i r):=by
 unfold aJ;rw[List.map_set]
theorem M3 {cs:List Int} {u1 u2 v1 v2:List (List Val)} (hu:jZ cs (u1++u2)) (hv:jZ cs (v1++v2))
 (h1:u1=[]∨v2=[]∨∃ x y,u1.getLast?=some x∧v2.head?=some y∧LeK cs x y) (h2:v1=[]∨u2=[]∨∃ x y,v1.getLast?=some x∧u2.head?=some y∧LeK cs x y) :
 ∀ x∈u1++v1,∀ y∈u2++v2,LeK cs x y:=by
 have last:∀ {u:List (List Val)} {x z},jZ cs u→u.getLast?=some z→x∈u→LeK cs x z:=by
  intro u x z hs hz hx
  have hd:u=u.dropLast++[z]:=by
   have hne:u≠[]:=fun e=>by subst e;simp at hz
   have h3:=yF hne;rw[zA9 hne]at hz;injection hz with hz;rw[hz]at h3;exact h3.symm
  rw[hd]at hs hx;rw[jZ,yB]at hs
  rcases zT.1 hx with hx|hx
  ·exact hs.2.2 x hx z (by simp)
  ·simp at hx;subst hx;exact .refl _ _
 have first:∀ {u:List (List Val)} {y z},jZ cs u→u.head?=some z→y∈u→LeK cs z y:=by
  intro u y z hs hz hy
  cases u with
  | nil=>simp at hz
  | cons a u =>
   simp at hz;subst hz
   rcases zP.1 hy with rfl|hy
   ·exact .refl _ _
   ·exact(xX.1 hs).1 y hy
 have hu':=yB.1 hu;have hv':=yB.1 hv;intro x hx y hy
 rcases zT.1 hx with hx|hx<;>rcases zT.1 hy with hy|hy
 ·exact hu'.2.2 x hx y hy
 ·rcases h1 with rfl|rfl|⟨a,b,ha,hb,hab⟩
  ·simp at hx
  ·simp at hy
  ·exact((last hu'.1 ha hx).trans hab).trans (first hv'.2.1 hb hy)
 ·rcases h2 with rfl|rfl|⟨a,b,ha,hb,hab⟩
  ·simp at hx
  ·simp at hy
  ·exact((last hv'.1 ha hx).trans hab).trans (first hu'.2.1 hb hy)
 ·exact hv'.2.2 x hx y hy
theorem ZE {cs:List Int} {l m:List (List Val)} (h1:jZ cs l) (h2:jZ cs m) (h:∀ x∈l,∀ y∈m,LeK cs x y):jZ cs (l++m) :=
 yB.2 ⟨h1,h2,h⟩
theorem rR {cs:List Int} {a b:List Val} (h:¬ bL (aU cs b) (aU cs a)<0):LeK cs a b:=by
 have:=iT (aU cs b) (aU cs a);unfold LeK fG;simp;omega
theorem DW {cs:List Int} {a b:List Val} (h:bL (aU cs a) (aU cs b)<0):LeK cs a b:=by
 unfold LeK fG;simp;omega
theorem SG {cs:List Int} {A B:List (List Val)} {x:List Val} (h:jZ cs (A++B)) (h1:A=[]∨∃ y,A.getLast?=some y∧LeK cs y x) (h2:B=[]∨∃ y,B.head?=some y∧LeK cs x y):jZ cs (A++x::B):=by
 have h':=yB.1 h;have hx:jZ cs ([x]++([]:List (List Val))):=by simp[jZ]
 have k:=M3 (u1:=A) (u2:=B) (v1:=[x]) (v2:=[]) h (by simp) (.inr (.inl rfl)) (by
  rcases h2 with h2|⟨y,h2,h3⟩
  ·exact .inr (.inl h2)
  ·exact .inr (.inr ⟨x,y,rfl,h2,h3⟩))
 have k2:=M3 (u1:=A) (u2:=B) (v1:=[]) (v2:=[x]) h (by simp) (by
  rcases h1 with h1|⟨y,h1,h3⟩
  ·exact .inl h1
  ·exact .inr (.inr ⟨y,x,h1,rfl,h3⟩)) (.inl rfl)
 rw[jZ,yB,xX];refine⟨h'.1,⟨fun b hb=>k x (by simp) b (by simp[hb]),h'.2.1⟩,fun a ha b hb=>?_⟩
 rcases zP.1 hb with rfl|hb
 ·exact k2 a (by simp[ha]) b (by simp)
 ·exact h'.2.2 a ha b hb
theorem jI {C:Ctx} {G:List Nat} {na:Nat} {b:Code} {Q:AExit×AS→Prop} (I:Nat→AS→Prop) (hs:∀ k S,I k S→(∃ S1 k',cK C G na b S=some (.normal,S1)∧k'<k∧I k' S1)∨(∃ e T,cK C G na b S=some (e,T)∧e≠.normal∧Q (e,T))) :
 ∀ k S,I k S→∃ r,cK C G na (.loop b) S=some r∧Q r:=by
 intro k
 induction k using Nat.strongRecOn with
 | ind k ih =>
  intro S h
  rcases hs k S h with ⟨S1,k',h1,h2,h3⟩|⟨e,T,h1,h2,h3⟩
  ·obtain⟨r,h4,h5⟩:=ih k' h2 S1 h3;exact⟨r,AK0 h1 h4,h5⟩
  ·exact⟨_,AK1 h1 h2,h3⟩
end Go.Av
namespace Go.Proofs.YtnmimmaahhlgeaaGreat
open Go Go.Av
set_option maxRecDepth 4000
set_option maxHeartbeats 2000000
@[simp] theorem AbA (n:Int):aG C0 214 [.int n] []=some (.bool false,[]):=by
  rw[aD rfl Tryz.func214 rfl rfl];simp
theorem TI (a b:Int):aG C0 196 [.int a, .int b] []=some (.int (if a<b then -1 else if b<a then 1 else 0),[]):=by
 rw[aD rfl Tryz.func196 rfl rfl];by_cases h1:a<b
 ·simp[h1]
 ·by_cases h2:b<a<;>simp[h1,h2]
theorem JK (a b:Val):aG C0 179 [.i (.agg [.bool a.null, .int a.n]), .i (.agg [.bool b.null, .int b.n])] []=some (.int (Val.cmp a b),[]):=by
 have h:=TI a.n b.n;rw[aD rfl Tryz.func179 rfl rfl];obtain⟨an,a⟩:=a;obtain⟨bn,b⟩:=b
 cases an<;>cases bn<;>simp[Val.cmp,h]
theorem uU:∀ a b:List Val,∃ j,(∀ i,i<j→∃ x y,a[i]?=some x∧b[i]?=some y∧Val.cmp x y=0)∧((a.length=j∧b.length=j∧bL a b=0)∨(a.length=j∧j<b.length∧bL a b=-1)∨(j<a.length∧b.length=j∧bL a b=1)∨(∃ x y,a[j]?=some x∧b[j]?=some y∧Val.cmp x y≠0∧bL a b=Val.cmp x y))
 | [],[]=>⟨0,by omega, .inl ⟨rfl,rfl,rfl⟩⟩
 | [],_::_=>⟨0,by omega, .inr (.inl ⟨rfl,by simp,rfl⟩)⟩
 | _::_,[]=>⟨0,by omega, .inr (.inr (.inl ⟨by simp,rfl,rfl⟩))⟩
 | x::a,y::b=>by
  by_cases h:Val.cmp x y=0
  ·obtain⟨j,h1,h2⟩:=uU a b;refine⟨j+1,?_,?_⟩
   ·intro i hi
    cases i with
    | zero=>exact⟨x,y,rfl,rfl,h⟩
    | succ i=>exact h1 i (by omega)
   ·simp only[bL,h,if_true,zI,zC7]
    rcases h2 with ⟨e1,e2,e3⟩|⟨e1,e2,e3⟩|⟨e1,e2,e3⟩|h2
    ·exact .inl ⟨by omega,by omega,e3⟩
    ·exact .inr (.inl ⟨by omega,by omega,e3⟩)
    ·exact .inr (.inr (.inl ⟨by omega,by omega,e3⟩))
    ·exact .inr (.inr (.inr h2))
  ·exact⟨0,by omega, .inr (.inr (.inr ⟨x,y,rfl,rfl,h,by simp[bL,h]⟩))⟩
def AQE (l:List Val) (i:Nat):Option Blk:=some (.box [.bool ((l[i-1]?).getD Val.zero).null, .int ((l[i-1]?).getD Val.zero).n])
def CFX (a b:List Val) (i:Nat):AS :=
 { env:=[(0, .i (.isl (aO a))),(1, .i (.isl (aO b))),(2, .fn (.func 179) []),(6, .int 0),(7,jk i (.int ((i:Int)-1))),(8,if i=0 then .junk else .own 0 0),(9,if i=0 then .junk else .own 1 0),(10,jk i (.int 0)),(11, .i (.isl (aO a))),(12, .int a.length),(13, .int i),(14,jk i (.bool true)),(21,jk i (.bool false)),(31,jk i (.bool false)),(38, .junk)],
   st:=if i=0 then []else [AQE a i,AQE b i] }
theorem O9 (a b:List Val) (ha:a.length<1000000) (hb:b.length<1000000):aG C0 178 [.i (.isl (aO a)), .i (.isl (aO b)), .fn (.func 179) []] []=some (.int (bL a b),[]):=by
 rw[aD rfl Tryz.func178 rfl rfl];obtain⟨j,h1,h2⟩:=uU a b;simp;rw[aS (CFX a b) j (by simp[CFX])]
 ·rw[aF]
  rcases h2 with ⟨e1,e2,e3⟩|⟨e1,e2,e3⟩|⟨e1,e2,e3⟩|⟨x,y,e1,e2,e3,e4⟩
  ·by_cases h0:j=0
   ·subst h0;simp[CFX,e1,e2,e3]
   ·simp[CFX,AQE,h0,e1,e2,e3]
  ·by_cases h0:j=0
   ·subst h0;simp[CFX,e1,e2,e3]
   ·simp[CFX,AQE,h0,e1,e2,e3]
  ·obtain⟨x,hx⟩:∃ x,a[j]?=some x:=⟨_,zX e1⟩
   have r1:=bS hx;have w1:=bD;by_cases h0:j=0
   ·subst h0;simp[CFX,e1,e2,e3,r1]
   ·simp[CFX,AQE,h0,e1,e2,e3,r1]
  ·have r1:=bS e1;have r2:=bS e2;have l1:=(zY.1 e1).1;have l2:=(zY.1 e2).1;have hc:=JK x y;have hz:¬ (b.length:Int)≤j:=by omega
   have hz':¬ b.length≤j:=by omega
   by_cases h0:j=0
   ·subst h0;simp at hz;simp[CFX,e3,e4,r1,r2,l1,l2,hc,hz]
   ·simp[CFX,AQE,h0,e3,e4,r1,r2,l1,l2,hc,hz,hz']
 ·intro i hi;obtain⟨x,y,e1,e2,e3⟩:=h1 i hi;have r1:=bS e1;have r2:=bS e2;obtain⟨l1,g1⟩:=zY.1 e1;obtain⟨l2,g2⟩:=zY.1 e2;have hc:=JK x y;have hz:¬ (b.length:Int)≤i:=by omega
  have hz':¬ b.length≤i:=by omega
  have w2:IntKind.i64.wrap ((i:Int)+1)=i+1:=wrO;by_cases h0:i=0
  ·subst h0;simp at hz;simp[CFX,AQE,e1,e2,e3,r1,r2,l1,l2,hc,hz,bD,g1,g2]
  ·simp[CFX,AQE,h0,e1,e2,e3,r1,r2,l1,l2,hc,hz,hz',w2,g1,g2]
theorem kK (a b:List Val) (ha:a.length<1000000) (hb:b.length<1000000):aG C0 136 [.i (.isl (aO a)), .i (.isl (aO b))] []=some (.int (bL a b),[]):=by
 have h:=O9 a b ha hb;rw[aD rfl Tryz.func136 rfl rfl];simp[h]
def SCX (a b:List Val) (i:Nat):AS :=
 { env:=[(0, .i (.isl (aO a))),(1, .i (.isl (aO b))),(4, .int 0),(5, .int i),(6,jk i (.int 0)),(16,jk i (.bool true)),(29,jk i (.bool false))],st:=[] }
theorem jE (a b:List Val) (hl:a.length=b.length) (ha:a.length<1000000) (oa:a.all Val.ok=true) (ob:b.all Val.ok=true):aG C0 101 [.i (.isl (aO a)), .i (.isl (aO b))] []=some (.int (bL a b),[]):=by
 rw[aD rfl Tryz.func101 rfl rfl];obtain⟨j,h1,h2⟩:=uU a b;have hoa:=zS.1 oa;have hob:=zS.1 ob;have w0:=AXK;simp;rw[aS (SCX a b) j (by simp[SCX])]
 ·rw[aF]
  rcases h2 with ⟨e1,e2,e3⟩|⟨e1,e2,e3⟩|⟨e1,e2,e3⟩|⟨x,y,e1,e2,e3,e4⟩
  ·simp[SCX,e1,e2,e3,w0]
  ·omega
  ·omega
  ·have r1:=bS e1;have r2:=bS e2;have l1:=(zY.1 e1).1;have l2:=(zY.1 e2).1;have hc:=rH x y (hoa _ (zV e1)) (hob _ (zV e2));simp[SCX,e3,e4,r1,r2,l1,l2,hc]
 ·intro i hi;obtain⟨x,y,e1,e2,e3⟩:=h1 i hi;have r1:=bS e1;have r2:=bS e2;obtain⟨l1,g1⟩:=zY.1 e1;obtain⟨l2,g2⟩:=zY.1 e2;have hc:=rH x y (hoa _ (zV e1)) (hob _ (zV e2));have w2:IntKind.i64.wrap ((i:Int)+1)=i+1:=wrO;simp[SCX,e3,r1,r2,l1,l2,hc,w2]
def SVX (a:List Val) (i:Nat):AS :=
 { env:=[(0, .i (.isl (aO a))),(2, .bool false),(3, .int i),(7,jk i (.bool true)),(15,jk i (.bool false))],st:=[] }
theorem GJ (a:List Val) (ha:a.length<1000000):aG C0 100 [.i (.isl (aO a))] []=some (.bool (vI a),[]):=by
 rw[aD rfl Tryz.func100 rfl rfl];obtain⟨j,h1,h2⟩:=gJ Val.ok a;simp;rw[aS (SVX a) j (by simp[SVX])]
 ·rw[aF]
  rcases h2 with ⟨hj,ha⟩|⟨v,h3,h4,h5,ha⟩
  ·simp[SVX,hj,ha,vI,bH]
  ·have r1:=(zY.1 h3).1;have r2:=bS h3;have r3:Val.ok ⟨v.null,v.n⟩=false:=h5;simp[SVX,r1,r2,r3,ha,vI]
 ·intro i hi;obtain⟨v,h3,h4,h5⟩:=h1 i hi;have r1:=(zY.1 h3).1;have r2:=bS h3;have r3:Val.ok ⟨v.null,v.n⟩=true:=h5;have w2:IntKind.i64.wrap ((i:Int)+1)=i+1:=wrO;simp[SVX,r1,r2,r3,w2]
theorem wT (a:List Val) (ha:a.length<1000000) (hn:a≠[]):aG C0 84 [.i (.isl (aO a))] []=some (.osl 0 2 0 a.length,[some (.arr 2 (aO a))]):=by
 rw[aD rfl Tryz.func84 rfl rfl];have hb:a.length*16≤140737488355328:=by omega
 simp[hn,hb]
theorem AUU {l:List (List Val)} {r:List Val}:∀ (k:Nat),k≤l.length→(∀ i x,i<k→l[i]?=some x→fG x r=true)→(∀ x,l[k]?=some x→fG x r=false)→AHB l r=l.take k++r::l.drop k:=by
 intro k hk h1 h2;unfold AHB
 suffices H:l.takeWhile (fun x=>fG x r)=l.take k∧l.dropWhile (fun x=>fG x r)=l.drop k by rw[H.1,H.2]
 induction k generalizing l with
 | zero =>
  cases l with
  | nil=>simp
  | cons a l=>have:=h2 a rfl;simp[this]
 | succ k ih =>
  cases l with
  | nil=>simp at hk
  | cons a l =>
   have ha:=h1 0 a (by omega) rfl;obtain⟨i1,i2⟩:=ih (l:=l) (by simpa using hk) (fun i x hi hx=>h1 (i+1) x (by omega) (by simpa using hx)) (fun x hx=>h2 x (by simpa using hx));simp[ha,i1,i2]
def ISX (l:List (List Val)) (r:List Val) (n lo hi:Nat) (m:Int) (c:Bool) (g:AV):AS :=
 { env:=[(0, .i (.isl (aJ l))),(1, .i (.isl (aO r))),(4, .nils),(5, .int lo),(6, .int hi),(7,jk n (.int m)),(8, .junk),(13,g),(24,jk n (.bool c))],st:=[] }
theorem ATB {l:List (List Val)} (hs:Srt l) {i j:Nat} {x y:List Val} (hi:l[i]?=some x) (hj:l[j]?=some y) (h:i≤j):fG x y=true:=by
 obtain⟨h1,rfl⟩:=zY.1 hi;obtain⟨h2,rfl⟩:=zY.1 hj;by_cases e:i=j
 ·subst e;exact o9 _
 ·exact List.pairwise_iff_getElem.1 hs i j h1 h2 (by omega)
theorem I6 (l:List (List Val)) (r:List Val) (hl:l.length<1000000) (hr:r.all Val.ok=true) (hrl:r.length<1000000) (hr0:r≠[]) (hrows:∀ x∈l,x.all Val.ok=true∧x.length=r.length) (hs:Srt l):aG C0 116 [.i (.isl (aJ l)), .i (.isl (aO r))] []=some (.osl 0 1 0 (l.length+1),[some (.arr 1 (aJ (AHB l r)))]):=by
 rw[aD rfl Tryz.func116 rfl rfl];simp;generalize hX:cK C0 _ _ (Code.loop _) _=X
 have key:∃ rr,X=some rr∧∃ (n k:Nat) (m:Int) (c:Bool),rr=(.exit 0,ISX l r n k k m c (.bool false))∧k≤l.length∧(∀ i x,i<k→l[i]?=some x→fG x r=true)∧(∀ x,l[k]?=some x→fG x r=false):=by
  rw[← hX];refine jI (fun d S=>∃ (n lo hi:Nat) (m:Int) (c:Bool),S=ISX l r n lo hi m c (jk n (.bool true))∧lo≤hi∧hi≤l.length∧d=hi-lo∧(∀ i x,i<lo→l[i]?=some x→fG x r=true)∧(∀ x,hi<l.length→l[hi]?=some x→fG x r=false)) ?_ l.length _ ⟨0,0,l.length,0,true,by simp[ISX],by omega,by omega,by omega,by omega,by omega⟩;rintro d S ⟨n,lo,hi,m,c,rfl,a1,a2,a3,a4,a5⟩;by_cases hlt:lo<hi
  ·left
   obtain⟨x,hx⟩:∃ x,l[(lo+hi) / 2]?=some x:=⟨_,zX (by omega)⟩
   have hxm:=hrows x (zV hx);have r1:=bG hx;have hc:=jE x r hxm.2 (by omega) hxm.1 hr;have w1:IntKind.i64.wrap ((lo:Int)+hi)=lo+hi:=wrO
   have w2:IntKind.i64.wrap (((lo:Int)+hi).tdiv 2)=(((lo+hi) / 2:Nat):Int):=by
    have e:((lo:Int)+hi).tdiv 2=(((lo+hi) / 2:Nat):Int):=by
     rw[Int.tdiv_eq_ediv_of_nonneg (by omega)];omega
    rw[e];exact wrO
   have w3:IntKind.i64.wrap ((((lo+hi) / 2:Nat):Int)+1)=(((lo+hi) / 2+1:Nat):Int):=by rw[wrO];omega
   have hmid:(lo+hi) / 2<l.length:=by omega
   have hlo:lo≤(lo+hi) / 2:=by omega
   have hhi:(lo+hi) / 2<hi:=by omega
   generalize (lo+hi) / 2=mid at *
   by_cases hle:bL x r≤0
   ·refine⟨ISX l r 1 (mid+1) hi mid true (.bool true),hi-(mid+1),?_,by omega,1,mid+1,hi,mid,true,rfl,by omega,a2,rfl,fun i y hi' hy=>?_,a5⟩
    ·simp[ISX,hlt,w1,w2,w3,hmid,r1,hc,hle]
    ·exact oM (ATB hs hy hx (by omega)) (by unfold fG;simpa using hle)
   ·refine⟨ISX l r 1 lo mid mid false (.bool true),mid-lo,?_,by omega,1,lo,mid,mid,false,rfl,by omega,by omega,rfl,a4,fun y _ hy=>?_⟩
    ·simp[ISX,hlt,w1,w2,w3,hmid,r1,hc,hle]
    ·rw[hx]at hy;injection hy with hy;subst hy;unfold fG;simpa using hle
  ·right;obtain rfl:lo=hi:=by omega
   refine⟨.exit 0,ISX l r n lo lo m c (.bool false),?_,by simp,n,lo,m,c,rfl,a2,a4,fun x hx=>a5 x (zY.1 hx).1 hx⟩;simp[ISX]
 obtain⟨rr,rfl,n,k,m,c,rfl,k1,k2,k3⟩:=key;have hcp:=wT r hrl hr0;have hb1:k*24≤140737488355328:=by omega
 have hb2:(k+1)*24≤140737488355328:=by omega
 have hb3:(k+1+(l.length-k))*24≤140737488355328:=by omega
 have hkl:(k:Int)≤l.length:=by omega
 have hmin:min k l.length=k:=by omega
 have hT:(l.take k).length=k:=by simp;omega
 rw[AUU k k1 k2 k3];have e1:(l.take k).take k=l.take k:=by rw[zF,xD]
 have e2:List.take (k+1) (aJ (l.take k)++[[.isl (aO r)]])=aJ (l.take k)++[[.isl (aO r)]]:=zZ (by simp;omega);have e3:List.take (l.length-k) (l.drop k)=l.drop k:=zZ (by simp);have e4:k+1+(l.length-k)=l.length+1:=by omega
 have hb4:(l.length+1)*24≤140737488355328:=by omega
 simp[ISX,hcp,hkl,k1,hmin,hb1,hb2,hb3,bC,bB,e1,e2,e3,e4,hb4]
end Go.Proofs.YtnmimmaahhlgeaaGreat
namespace Go.Av
def qG (t:Tbl) (i:Nat):Bool:=vI ((t.rows[i]?).getD []) && (decide ((((t.rows[i]?).getD []).length:Int)=t.w) && (decide (i=0) || fG ((t.rows[i-1]?).getD []) ((t.rows[i]?).getD [])))
theorem FP:∀ l:List (List Val),chainB l=true↔∀ i,0<i→i<l.length→fG ((l[i-1]?).getD []) ((l[i]?).getD [])=true
 | []=>by simp[chainB]
 | [a]=>by simp[chainB];omega
 | a::b::l=>by
  rw[chainB,zU,FP (b::l)];constructor
  ·rintro⟨h1,h2⟩ i h0 hi
   match i,h0 with
   | 1,_=>simpa using h1
   | i+2,_=>have:=h2 (i+1) (by omega) (by simpa using hi);simpa using this
  ·intro h;refine⟨by simpa using h 1 (by omega) (by simp),fun i h0 hi=>?_⟩;have:=h (i+1) (by omega) (by simpa using hi)
   obtain⟨k,rfl⟩:∃ k,i=k+1:=⟨i-1,by omega⟩
   simpa using this
theorem ATY {t:Tbl} (h:∀ i,i<t.rows.length→qG t i=true):t.ok=(bH t.w && decide (t.rows.length≤400)):=by
 have h1:t.rows.all (rowOk t.w)=true:=by
  rw[zS];intro r hr;obtain⟨i,hi,rfl⟩:=List.getElem_of_mem hr;have:=h i hi;unfold qG at this;rw[zX hi]at this;simp only[zC,zU,vI]at this;unfold rowOk;rw[zU];exact⟨this.2.1,this.1.2⟩
 have h2:chainB t.rows=true:=(FP _).2 fun i h0 hi=>by
  have:=h i hi;unfold qG at this;simp only[zU,zA3,zR]at this
  rcases this.2.2 with e|e
  ·omega
  ·exact e
 unfold Tbl.ok;rw[h1,h2];simp
theorem AYV {t:Tbl} {i:Nat} (hi:i<t.rows.length) (h:qG t i=false):t.ok=false:=by
 cases ho:t.ok with
 | false=>rfl
 | true =>
  obtain⟨h1,h2,h3,h4⟩:=(Tbl.dI t).1 ho;have hr:=h3 _ (xQ hi);have hc:=(FP t.rows).1 (FO.2 h4)
  have:qG t i=true:=by
   unfold qG;rw[zX hi];simp only[zC,zU,zA3,zR];have hl:=gU hr;refine⟨by unfold vI;rw[zU];exact⟨by rw[hl];exact h1,iL hr⟩,hl,?_⟩;by_cases e:i=0
   ·exact .inl e
   ·right;have:=hc i (by omega) hi;rw[zX hi]at this;simpa using this
  rw[this]at h;cases h
theorem XE (t:Tbl):∃ j,(∀ i,i<j→i<t.rows.length∧qG t i=true)∧((j=t.rows.length∧t.ok=(bH t.w && decide (t.rows.length≤400)))∨(j<t.rows.length∧qG t j=false∧t.ok=false)):=by
 obtain⟨j,h1,h2⟩:=gJ (qG t) (List.range t.rows.length)
 have h1':∀ i,i<j→i<t.rows.length∧qG t i=true:=by
  intro i hi;obtain⟨k,e,_,hp⟩:=h1 i hi;obtain⟨hl,e'⟩:=zY.1 e;simp at hl e';subst e';exact⟨hl,hp⟩
 refine⟨j,h1',?_⟩
 rcases h2 with ⟨e,_⟩|⟨k,e,_,hp,_⟩
 ·simp at e;exact .inl ⟨e,ATY fun i hi=>(h1' i (by omega)).2⟩
 ·obtain⟨hl,e'⟩:=zY.1 e;simp at hl e';subst e';exact .inr ⟨hl,hp,AYV hl hp⟩
theorem vS {l:List (List Val)} {i:Nat} {r:List Val} (h:l[i]?=some r):dC (l.take (i+1))=AHB (dC (l.take i)) r:=by
 rw[aP h];unfold dC;rw[zD3];rfl
theorem AL9:∀ (p:List Val) (l:List (List Val)) (x:List Val),dd p (l++[x])=dd p l++(if bL (((p::l).getLast?).getD []) x=0 then []else [x])
 | p,[],x=>by by_cases h:bL p x=0<;>simp[dd,h]
 | p,a::l,x=>by
  simp only[yO,dd,AL9 a l x,List.getLast?_cons_cons];split<;>simp
theorem AG4 (l:List (List Val)) (x:List Val):eX (l++[x])=eX l++(if l≠[]∧bL ((l.getLast?).getD []) x=0 then []else [x]):=by
 cases l with
 | nil=>simp[eX,dd]
 | cons a l=>simp only[yO,eX,AL9];simp
theorem AHQ {α:Type} {l:List α} {i:Nat} {a:α} (h:l[i]?=some a):(l.take (i+1)).getLast?=some a:=by rw[aP h];simp
end Go.Av
namespace Go.Proofs.YtnmimmaahhlgeaaGreat
open Go Go.Av
set_option maxRecDepth 4000
set_option maxHeartbeats 4000000
def TOX (w:Int) (l:List (List Val)) (i:Nat):AS :=
 { env:=[(0, .int w),(1, .i (.isl (aJ l))),(4, .own 0 0),(5, .own 1 0),(6, .int i),(11, .bool false),(16,jk i (.bool true))],st:=[some (.box [.int 0, .nils]),some (.box [.int w,gro 2 1 i])]++vN 1 (aJ (dC (l.take i))) i }
theorem kS (w:Int) (l:List (List Val)) (n:Nat) (hn:n<1000000) (hn0:n≠0) (hl0:l.length<1000000) (hl:∀ x∈l,x.all Val.ok=true∧x.length=n):aG C0 64 [.int w, .i (.isl (aJ l))] []=some (.i (.agg [.int w, .isl (aJ (tab w l).rows)]),[]):=by
 rw[aD rfl Tryz.func64 rfl rfl];by_cases h:(400:Int)<l.length
 ·have:400<l.length:=by omega
  simp[h,tab,this,aJ]
 ·have h':¬ 400<l.length:=by omega
  simp[h,tab,h'];rw[aS (TOX w l) l.length (by simp[TOX])]
  ·rw[aF];by_cases h0:l.length=0
   ·have:l=[]:=zW.1 h0;subst this;simp[TOX,dC,aJ]
   ·have hT:(dC l).length=l.length:=aY l;have e1:List.take l.length (dC l)=dC l:=zZ (by omega);simp[TOX,aM h0,aI h0,hT,e1]
  ·intro i hi;have h3:=zX hi;have hm:=zV h3;have hsn:=vS h3;generalize l[i]=x at h3 hm hsn;have r1:=bG h3;have w2:IntKind.i64.wrap ((i:Int)+1)=i+1:=wrO;have hlen:(dC (l.take i)).length=i:=by rw[aY];simp;omega
   have e1:List.take i (dC (l.take i))=dC (l.take i):=zZ (by omega);have hx0:x≠[]:=fun e=>by have:=(hl x hm).2;subst e;simp at this;omega
   have hc:=I6 (dC (l.take i)) x (by omega) (hl x hm).1 (by rw[(hl x hm).2];exact hn) hx0 (fun y hy=>by
    have:=hl y (zH (iG.1 hy));exact⟨this.1,by rw[this.2,(hl x hm).2]⟩) (rG _)
   rw[hlen]at hc;by_cases h0:i=0
   ·subst h0;have hs0:dC ([]:List (List Val))=[]:=rfl;simp[hs0,aR]at hc hsn;simp[TOX,hi,r1,hc,hsn,bD]
   ·simp[TOX,aM h0,aI h0,hi,r1,hc,hsn,w2,hlen,e1]
def VTX (t:Tbl) (i:Nat):AS :=
 { env:=[(0, .i (.agg [.int t.w, .isl (aJ t.rows)])),(1, .own 0 0),(2, .bool false),(3, .int i),(8,jk i (.bool true)),(47,jk i (.bool false))],st:=[some (.box [.i (.int t.w), .i (.isl (aJ t.rows))])] }
theorem AJ (t:Tbl) (hl0:t.rows.length<1000000) (hl:∀ r∈t.rows,r.length<1000000):aG C0 46 [.i (.agg [.int t.w, .isl (aJ t.rows)])] []=some (.bool t.ok,[]):=by
 rw[aD rfl Tryz.func46 rfl rfl];obtain⟨j,h1,h2⟩:=XE t
 have good:∀ i,i<j→∃ r,t.rows[i]?=some r∧vI r=true∧(r.length:Int)=t.w∧(i≠0→∃ q,t.rows[i-1]?=some q∧fG q r=true):=by
  intro i hi;obtain⟨k1,k2⟩:=h1 i hi;have e1:=zX k1;refine⟨_,e1,?_⟩;unfold qG at k2;rw[e1]at k2;simp only[zC,zU,zA3,zR]at k2;refine⟨k2.1,k2.2.1,fun h0=>?_⟩;have e2:=zX (show i-1<t.rows.length by omega);rw[e2]at k2;exact⟨_,e2,by rcases k2.2.2 with e|e;omega;simpa using e⟩
 simp;rw[aS (VTX t) j (by simp[VTX])]
 ·rw[aF]
  rcases h2 with ⟨e,ho⟩|⟨e,hb,ho⟩
  ·by_cases hw:1≤t.w∧t.w≤6
   ·by_cases h4:t.rows.length≤400
    ·have h4i:(t.rows.length:Int)≤400:=by omega
     simp[VTX,e,ho,bH,hw,h4,h4i]
    ·have h4i:¬ (t.rows.length:Int)≤400:=by omega
     have h4j:(400:Int)<t.rows.length:=by omega
     simp[VTX,e,ho,bH,hw,h4,h4i,h4j]
   ·simp[VTX,e,ho,bH,hw]
  ·have e1:=zX e;have hm:=zV e1;unfold qG at hb;rw[e1]at hb;generalize t.rows[j]=r at e1 hm hb;have r1:=bG e1;have c1:=GJ r (hl r hm);by_cases v1:vI r=true
   ·by_cases v2:(r.length:Int)=t.w
    ·simp only[zC,v1,v2,zF7,zB9,Bool.or_eq_false_iff,zC8]at hb;obtain⟨hj0,hlt⟩:=hb;obtain⟨q,g1,g2,g3,_⟩:=good (j-1) (by omega);rw[g1]at hlt;have hgt:0<bL q r:=by simp[fG]at hlt;omega
     have q1:=bG g1;have w3:IntKind.i64.wrap ((j:Int)-1)=((j-1:Nat):Int):=by rw[wrO];omega
     have oq:q.all Val.ok=true:=by simp[vI]at g2;simpa using g2.2
     have or':r.all Val.ok=true:=by simp[vI]at v1;simpa using v1.2
     have hc:=jE q r (by omega) (hl q (zV g1)) oq or';have hjl:j-1<t.rows.length:=by omega
     have hjp:(0:Int)<j:=by omega
     have hjp':0<j:=by omega
     simp[VTX,e,ho,r1,c1,v1,v2,q1,w3,hc,hgt,hjl,hjp,hjp']
    ·simp[VTX,e,ho,r1,c1,v1,v2]
   ·simp[VTX,e,ho,r1,c1,v1]
 ·intro i hi;obtain⟨r,e1,v1,v2,v3⟩:=good i hi;have hm:=zV e1;have r1:=bG e1;have hil:=(h1 i hi).1;have c1:=GJ r (hl r hm);have w2:IntKind.i64.wrap ((i:Int)+1)=i+1:=wrO;by_cases h0:i=0
  ·subst h0;simp[VTX,hil,r1,c1,v1,v2,bD]
  ·obtain⟨q,g1,g4⟩:=v3 h0;obtain⟨q',g1',g2,g3,_⟩:=good (i-1) (by omega);rw[g1]at g1';injection g1' with g1';subst g1'
   have hle:¬ 0<bL q r:=by simp[fG]at g4;omega
   have q1:=bG g1;have w3:IntKind.i64.wrap ((i:Int)-1)=((i-1:Nat):Int):=by rw[wrO];omega
   have oq:q.all Val.ok=true:=by simp[vI]at g2;simpa using g2.2
   have or':r.all Val.ok=true:=by simp[vI]at v1;simpa using v1.2
   have hc:=jE q r (by omega) (hl q (zV g1)) oq or';have hjl:i-1<t.rows.length:=by omega
   have hjp:(0:Int)<i:=by omega
   have hjp':0<i:=by omega
   simp[VTX,hil,r1,c1,v1,v2,q1,w3,hc,hle,hjl,hjp,hjp',w2]
end Go.Proofs.YtnmimmaahhlgeaaGreat
namespace Go.Av
theorem Tbl.vH {t:Tbl} (h:t.ok=true):1≤t.w∧t.w≤6∧t.rows.length≤400∧∀ r∈t.rows,r.all Val.ok=true∧r.length=t.w.toNat∧(r.length:Int)=t.w:=by
 obtain⟨h1,h2,h3,h4⟩:=(Tbl.dI t).1 h;have hw:=(bW _).1 h1;refine⟨hw.1,hw.2,h2,fun r hr=>?_⟩;have h5:=gU (h3 r hr);exact⟨iL (h3 r hr),by omega,h5⟩
theorem AAO {l:List (List Val)} {i:Nat} {r:List Val} (h:l[i]?=some r) (f:List Val→Bool):(l.take (i+1)).filter f=(l.take i).filter f++if f r=true then [r]else []:=by
 rw[aP h,xS]
 cases hf:f r<;>simp[hf]
theorem AD0 {l:List (List Val)} {i:Nat} {r:List Val} (h:l[i]?=some r):eX (l.take (i+1))=eX (l.take i)++if i≠0∧bL ((l[i-1]?).getD []) r=0 then []else [r]:=by
 rw[aP h,AG4];have hi:=(zY.1 h).1
 cases i with
 | zero=>simp
 | succ i =>
  have e:=zX (show i<l.length by omega);rw[AHQ e]
  have hne:l.take (i+1)≠[]:=by
   intro e';have h5:(l.take (i+1)).length=i+1:=by rw[yE];omega
   rw[e']at h5;simp at h5
  simp[hne,e]
end Go.Av
namespace Go.Proofs.YtnmimmaahhlgeaaGreat
open Go Go.Av
set_option maxRecDepth 4000
set_option maxHeartbeats 4000000
theorem UK (a b:Tbl) (ha:a.ok=true) (hb:b.ok=true) (hw:a.w=b.w):aG C0 68 [.i (.agg [.int a.w, .isl (aJ a.rows)]), .i (.agg [.int b.w, .isl (aJ b.rows)])] []=some (.i (.agg [.int a.w, .isl (aJ (tab a.w (a.rows++b.rows)).rows)]),[]):=by
 obtain⟨w1,w2,l1,r1⟩:=Tbl.vH ha;obtain⟨_,_,l2,r2⟩:=Tbl.vH hb
 have hc:=kS a.w (a.rows++b.rows) a.w.toNat (by omega) (by omega) (by rw[zQ];omega) (fun x hx=>by
  rcases zT.1 hx with h|h
  ·exact⟨(r1 x h).1,(r1 x h).2.1⟩
  ·exact⟨(r2 x h).1,by have:=(r2 x h).2.1;rw[hw];exact this⟩)
 have e1:List.take (a.rows.length+b.rows.length) (aJ a.rows++aJ b.rows)=aJ (a.rows++b.rows):=by rw[bC];exact zZ (by simp)
 have e2:List.take (aJ b.rows).length (aJ b.rows)=aJ b.rows:=zZ (by simp);have hs:a.rows.length*24≤140737488355328:=by omega
 have hs2:(a.rows.length+b.rows.length)*24≤140737488355328:=by omega
 rw[aD rfl Tryz.func68 rfl rfl];by_cases hn:a.rows=[]
 ·by_cases hm:b.rows=[]
  ·simp[hn,hm,aR]at hc;simp[hn,hm,aR,hc]
  ·have hs3:b.rows.length*24≤140737488355328:=by omega
   have e3:List.take b.rows.length (aJ b.rows)=aJ b.rows:=zZ (by simp);simp[hn]at hc;simp[hn,hm,aR,hc,hs3,e3]
 ·simp[hn,hs,hs2,e1,hc]
def FTX (t:Tbl) (e:Ex) (i:Nat):AS :=
 { env:=[(0, .i (.agg [.int t.w, .isl (aJ t.rows)])),(1, .i (.agg [.int e.kind, .int e.col, .bool e.val.null, .int e.val.n, .isl (Ex.aB e.kids)])),(2, .own 0 0),(3, .own 1 0),(4, .own 2 0),(5, .osl 3 1 0 ((t.rows.take i).filter (isT e)).length),(6, .int i),(12,jk i (.bool true)),(21,jk i (.bool (isT e ((t.rows[i-1]?).getD []))))],
   st:=[some (.box [.i (.int t.w), .i (.isl (aJ t.rows))]),some (.box [.i (.int e.kind), .i (.int e.col), .i (.bool e.val.null), .i (.int e.val.n), .i (.isl (Ex.aB e.kids))]),some (.box [.int 0, .nils]),some (.arr 1 (aJ ((t.rows.take i).filter (isT e))))] }
theorem K3 (t:Tbl) (ht:t.ok=true) (e:Ex) (he:e.wf t.w=true):aG C0 65 [.i (.agg [.int t.w, .isl (aJ t.rows)]), .i (.agg e.cells)] []=some (.i (.agg [.int t.w, .isl (aJ (tab t.w (t.rows.filter (isT e))).rows)]),[]):=by
 obtain⟨w1,w2,l1,r1⟩:=Tbl.vH ht;have hfl:=yG (isT e) t.rows;have hc:=kS t.w (t.rows.filter (isT e)) t.w.toNat (by omega) (by omega) (by omega) (fun x hx=>⟨(r1 x (zA5.1 hx).1).1,(r1 x (zA5.1 hx).1).2.1⟩);rw[aD rfl Tryz.func65 rfl rfl,Ex.aA];simp;rw[aS (FTX t e) t.rows.length (by simp[FTX,aR])]
 ·rw[aF];have e1:List.take (t.rows.filter (isT e)).length (t.rows.filter (isT e))=t.rows.filter (isT e):=zZ (by simp);simp[FTX,hc,e1]
 ·intro i hi
  obtain⟨x,h3⟩:∃ x,t.rows[i]?=some x:=⟨_,zX hi⟩
  have hm:=zV h3;have hsn:=AAO h3 (isT e);obtain⟨_,hg⟩:=zY.1 h3;have k1:=bG h3;have hh:=UZ x (r1 x hm).2.2.symm (r1 x hm).1 e he;rw[Ex.aA]at hh;have w3:IntKind.i64.wrap ((i:Int)+1)=i+1:=wrO;have hlen:((t.rows.take i).filter (isT e)).length≤i:=by have:=yG (isT e) (t.rows.take i);simp at this;omega
  have hb:(((t.rows.take i).filter (isT e)).length+1)*24≤140737488355328:=by omega
  have e1:((t.rows.take i).filter (isT e)).take ((t.rows.take i).filter (isT e)).length=(t.rows.take i).filter (isT e):=zZ (by simp)
  cases hx:isT e x with
  | true =>
   rw[hx]at hsn hh;simp[FTX,hi,k1,hh,w3,hsn,hb,e1,bC,bB,aR,h3,hx,hg]
  | false =>
   rw[hx]at hsn hh;simp[FTX,hi,k1,hh,w3,hsn,h3,hx,hg]
def DTX (t:Tbl) (i:Nat):AS :=
 { env:=[(0, .i (.agg [.int t.w, .isl (aJ t.rows)])),(1, .own 0 0),(2, .own 1 0),(3, .own 2 0),(4, .int i),(12,jk i (.bool true)),(31,jk i (.bool (decide (i=1) || !(bL ((t.rows[i-2]?).getD []) ((t.rows[i-1]?).getD []) == 0))))],
   st:=[some (.box [.i (.int t.w), .i (.isl (aJ t.rows))]),some (.box [.int 0, .nils]),some (.box [.int t.w,gro 3 1 (eX (t.rows.take i)).length])]++vN 1 (aJ (eX (t.rows.take i))) (eX (t.rows.take i)).length }
theorem IW (t:Tbl) (ht:t.ok=true):aG C0 69 [.i (.agg [.int t.w, .isl (aJ t.rows)])] []=some (.i (.agg [.int t.w, .isl (aJ (eX t.rows))]),[]):=by
 obtain⟨w1,w2,l1,r1⟩:=Tbl.vH ht;rw[aD rfl Tryz.func69 rfl rfl];simp
 have hd0:∀ l:List (List Val),l≠[]→(eX l).length≠0:=by
  intro l h;cases l with
  | nil=>exact absurd rfl h
  | cons a l=>simp[eX]
 rw[aS (DTX t) t.rows.length (by simp[DTX,eX])]
 ·rw[aF];by_cases h0:t.rows=[]
  ·simp[DTX,h0,eX,aR]
  ·have:=hd0 t.rows h0;have e1:(eX t.rows).take (eX t.rows).length=eX t.rows:=zZ (by simp);simp[DTX,aM this,aI this,e1]
 ·intro i hi
  obtain⟨x,h3⟩:∃ x,t.rows[i]?=some x:=⟨_,zX hi⟩
  have hm:=zV h3;have hsn:=AD0 h3;obtain⟨_,hg⟩:=zY.1 h3;have k1:=bG h3;have w3:IntKind.i64.wrap ((i:Int)+1)=i+1:=wrO;have hx0:x≠[]:=fun e=>by have:=(r1 x hm).2.1;subst e;simp at this;omega
  have hcp:=wT x (by have:=(r1 x hm).2.1;omega) hx0;have hlen:(eX (t.rows.take i)).length≤i:=by have:=(kJ (t.rows.take i)).length_le;simp at this;omega
  have hb:((eX (t.rows.take i)).length+1)*24≤140737488355328:=by omega
  have e1:(eX (t.rows.take i)).take (eX (t.rows.take i)).length=eX (t.rows.take i):=zZ (by simp);have e2:x.take x.length=x:=zZ (by simp);by_cases h0:i=0
  ·subst h0;simp[eX]at hsn;simp[DTX,hi,k1,hcp,hsn,bD,eX,bB,aR,e2]
  ·obtain⟨q,hq⟩:∃ q,t.rows[i-1]?=some q:=⟨_,zX (by omega)⟩
   have hqm:=zV hq;obtain⟨_,hgq⟩:=zY.1 hq;have k2:=bG hq;have w4:IntKind.i64.wrap ((i:Int)-1)=((i-1:Nat):Int):=by rw[wrO];omega
   have hcm:=jE q x (by rw[(r1 q hqm).2.1,(r1 x hm).2.1]) (by have:=(r1 q hqm).2.1;omega) (r1 q hqm).1 (r1 x hm).1;have hjl:i-1<t.rows.length:=by omega
   have hne:t.rows.take i≠[]:=by
    intro e';have h5:(t.rows.take i).length=i:=by rw[yE];omega
    rw[e']at h5;simp at h5;omega
   have hdn:=hd0 _ hne;rw[hq]at hsn;have h1:i+1-2=i-1:=by omega
   simp only[zC,ne_eq,h0,zA6,true_and]at hsn;by_cases hz:bL q x=0
   ·rw[if_pos hz,y9]at hsn;simp[DTX,hi,k1,k2,w4,hcm,hz,hsn,w3,h0,hq,h3,h1,hjl,aM hdn,aI hdn,hg,hgq]
   ·rw[if_neg hz]at hsn;simp[DTX,hi,k1,k2,w4,hcm,hz,hsn,w3,h0,hq,h3,h1,hjl,aM hdn,aI hdn,hcp,hb,e1,e2,bC,bB,aR,hg,hgq];rfl
def evs (es:List Ex) (r:List Val):List Val:=es.map (Ex.ev r)
@[simp] theorem AX2 (es:List Ex) (r:List Val):(evs es r).length=es.length:=by simp[evs]
def PTX (t:Tbl) (es:List Ex) (i:Nat):AS :=
 { env:=[(0, .i (.agg [.int t.w, .isl (aJ t.rows)])),(1, .i (.isl (Ex.aB es))),(2, .own 0 0),(4, .own 1 0),(5, .osl 2 1 0 i),(6, .int i),(7,if i=0 then .junk else .osl 3 2 0 es.length),(8,jk i (.int es.length)),(14,jk i (.bool true)),(21,jk i (.bool false))],
   st:=[some (.box [.i (.int t.w), .i (.isl (aJ t.rows))]),some (.box [.int 0, .nils]),some (.arr 1 (aJ ((t.rows.take i).map (evs es))))]++(if i=0 then []else [some (.frz 2 (aO (evs es ((t.rows[i-1]?).getD []))))]) }
def PTI (t:Tbl) (es:List Ex) (i:Nat) (x:List Val) (k:Nat):AS :=
 { env:=[(0, .i (.agg [.int t.w, .isl (aJ t.rows)])),(1, .i (.isl (Ex.aB es))),(2, .own 0 0),(4, .own 1 0),(5, .osl 2 1 0 i),(6, .int i),(7, .osl 3 2 0 k),(8, .int k),(14, .bool true),(21,if k=0 then jk i (.bool false)else .bool true)],
   st:=[some (.box [.i (.int t.w), .i (.isl (aJ t.rows))]),some (.box [.int 0, .nils]),some (.arr 1 (aJ ((t.rows.take i).map (evs es)))),some (.arr 2 (aO (evs (es.take k) x)))] }
theorem APF {es:List Ex} {k:Nat} {e:Ex} (h:es[k]?=some e) (x:List Val):evs (es.take (k+1)) x=evs (es.take k) x++[e.ev x]:=by rw[aP h];simp[evs]
theorem IR (t:Tbl) (ht:t.ok=true) (es:List Ex) (h0:bH es.length=true) (he:∀ e∈es,e.wf t.w=true):aG C0 66 [.i (.agg [.int t.w, .isl (aJ t.rows)]), .i (.isl (Ex.aB es))] []=some (.i (.agg [.int es.length, .isl (aJ (tab es.length (t.rows.map (evs es))).rows)]),[]):=by
 obtain⟨w1,w2,l1,r1⟩:=Tbl.vH ht;have hes:=(bW _).1 h0
 have hc:=kS es.length (t.rows.map (evs es)) es.length (by omega) (by omega) (by rw[xZ];omega) (fun x hx=>by
  obtain⟨r,hr,rfl⟩:=zG.1 hx;refine⟨?_,by simp[evs]⟩;unfold evs;simp only[List.all_map,zS]
  exact fun e hem=>AG3 r (r1 r hr).2.2.symm (r1 r hr).1 e (he e hem))
 rw[aD rfl Tryz.func66 rfl rfl];simp;rw[aS (PTX t es) t.rows.length (by simp[PTX,aR])]
 ·rw[aF];have e1:List.take t.rows.length (t.rows.map (evs es))=t.rows.map (evs es):=zZ (by simp);by_cases hz:t.rows.length=0
  ·have:t.rows=[]:=zW.1 hz;simp[this,aR]at hc;simp[PTX,this,aR,hc]
  ·simp[PTX,hz,hc,e1]
 ·intro i hi
  obtain⟨x,h3⟩:∃ x,t.rows[i]?=some x:=⟨_,zX hi⟩
  have hm:=zV h3;obtain⟨_,hg⟩:=zY.1 h3;have k1:=bG h3;have w3:IntKind.i64.wrap ((i:Int)+1)=i+1:=wrO;have hT:(t.rows.map (evs es)).take (i+1)=(t.rows.map (evs es)).take i++[evs es x]:=aP (by rw[zJ,h3];rfl);have hmin2:min i t.rows.length=i:=by omega
  have hinner:∀ k,k<es.length→∃ e,es[k]?=some e∧fO (Ex.aB es) k=some [.int e.kind, .int e.col, .bool e.val.null, .int e.val.n, .isl (Ex.aB e.kids)]∧evs (es.take (k+1)) x=evs (es.take k) x++[e.ev x]∧aG C0 118 [.i (.agg [.int e.kind, .int e.col, .bool e.val.null, .int e.val.n, .isl (Ex.aB e.kids)]), .i (.isl (aO x))] []=some (.i (.agg [.bool (e.ev x).null, .int (e.ev x).n]),[]):=by
   intro k hk
   obtain⟨e,h4⟩:∃ e,es[k]?=some e:=⟨_,zX hk⟩
   have k2:=Ex.aV h4;have k3:=GN x (r1 x hm).2.2.symm (r1 x hm).1 e (he e (zV h4));rw[Ex.aA]at k2 k3;exact⟨e,h4,k2,APF h4 x,k3⟩
  have hlen:∀ k,k≤es.length→(evs (es.take k) x).length=k:=by intro k hk;simp[evs];omega
  have hb:(i+1)*24≤140737488355328:=by omega
  have e1:List.take i (List.take i (t.rows.map (evs es)))=List.take i (t.rows.map (evs es)):=by rw[zF,xD]
  have hfull:es.take es.length=es:=zZ (by simp);have e5:(evs es x).take es.length=evs es x:=zZ (by simp[evs]);have hne:es.length≠0:=by omega
  have fin:∀ k,k<es.length→∀ (S:AS),S=PTI t es i x k→True:=fun _ _ _ _=>trivial
  by_cases hz:i=0
  ·subst hz;simp[PTX,hi,aR];rw[aS (PTI t es 0 x) es.length (by simp[PTI,evs,aO,aR])]
   ·rw[aF];simp at hT;simp[PTI,hne,hfull,bD,e5,bB,aR,hg,hT]
   ·intro k hk;obtain⟨e,_,k2,k4,k3⟩:=hinner k hk;have w4:IntKind.i64.wrap ((k:Int)+1)=k+1:=wrO;have hb2:(k+1)*16≤140737488355328:=by omega
    have e6:(evs (es.take k) x).take k=evs (es.take k) x:=zZ (by rw[hlen k (by omega)];omega);have hmin:min k es.length=k:=by omega
    simp[PTI,hk,k2,k3,k4,k1,w4,hb2,hi,e6,hmin,gD,aO,aR]
  ·simp[PTX,hi,hz];rw[aS (PTI t es i x) es.length (by simp[PTI,evs,aO])]
   ·rw[aF];simp[PTI,hne,hfull,w3,e5,e1,hb,hmin2,bC,bB,aR,hg,hT]
   ·intro k hk;obtain⟨e,_,k2,k4,k3⟩:=hinner k hk;have w4:IntKind.i64.wrap ((k:Int)+1)=k+1:=wrO;have hb2:(k+1)*16≤140737488355328:=by omega
    have e6:(evs (es.take k) x).take k=evs (es.take k) x:=zZ (by rw[hlen k (by omega)];omega);have hmin:min k es.length=k:=by omega
    simp[PTI,hk,k2,k3,k4,k1,w4,hb2,hi,e6,hmin,gD,aO]
theorem EU (a b:List Val) (ha:a≠[]) (hl:a.length+b.length<1000000):aG C0 119 [.i (.isl (aO a)), .i (.isl (aO b))] []=some (.i (.isl (aO (a++b))),[]):=by
 have hc:=wT a (by omega) ha;have hb:(a.length+b.length)*16≤140737488355328:=by omega
 have e1:a.take a.length=a:=zZ (by simp);have e2:List.take (a.length+b.length) (aO a++aO b)=aO (a++b):=by rw[gD];exact zZ (by simp)
 rw[aD rfl Tryz.func119 rfl rfl];simp[hc,hb,e1,e2]
def NUX (n:Int) (i:Nat):AS :=
 { env:=[(0, .int n),(2, .nils),(3, .osl 0 2 0 i),(4, .int i),(8,jk i (.bool true))],st:=[some (.arr 2 (aO (gM i)))] }
theorem AI5 (n:Int) (h0:0≤n) (h1:n<1000000):aG C0 120 [.int n] []=some (.i (.isl (aO (gM n))),[]):=by
 obtain⟨m,rfl⟩:∃ m:Nat,n=m:=⟨n.toNat,by omega⟩
 rw[aD rfl Tryz.func120 rfl rfl];have hl:∀ k:Nat,(gM (k:Int)).length=k:=by intro k;simp[gM]
 simp;rw[aS (NUX m) m (by simp[NUX,gM,aO])]
 ·rw[aF];have e1:(gM (m:Int)).take m=gM m:=zZ (by rw[hl];omega);simp[NUX,e1,hl m]
 ·intro i hi;have w3:IntKind.i64.wrap ((i:Int)+1)=i+1:=wrO;have hb:(i+1)*16≤140737488355328:=by omega
  have e1:(gM (i:Int)).take i=gM i:=zZ (by rw[hl];omega)
  have e2:aO (gM ((i:Int)+1))=aO (gM i)++[[.bool true, .int 0]]:=by
   rw[show gM ((i:Int)+1)=gM i++[⟨true,0⟩]by simp[gM,List.replicate_succ'],gD];rfl
  simp[NUX,hi,w3,hb,e1,e2,hl i]
end Go.Proofs.YtnmimmaahhlgeaaGreat
namespace Go.Av
theorem uR {C:Ctx} {G:List Nat} {na:Nat} {b:Code} {S:AS} {d:Nat} {I:Nat→AS→Prop} (P:AS→Prop) (h:∃ S1,cK C G na b S=some (.normal,S1)∧P S1) (hP:∀ S1,P S1→∃ k',k'<d∧I k' S1):∃ S1 k',cK C G na b S=some (.normal,S1)∧k'<d∧I k' S1:=by
 obtain⟨S1,h1,h2⟩:=h;obtain⟨k',h3,h4⟩:=hP S1 h2;exact⟨S1,k',h1,h3,h4⟩
end Go.Av
namespace Go.Proofs.YtnmimmaahhlgeaaGreat
open Go Go.Av
set_option maxRecDepth 4000
set_option maxHeartbeats 8000000
def JOX (t b:Tbl) (e:Ex) (o:Bool) (acc:List (List Val)) (i:Nat) (f:Bool) (n13:Nat) (x13:List Val) (n42:Nat) (c42 c51:Bool) (g:AV):AS :=
 { env:=[(0, .i (.agg [.int t.w, .isl (aJ t.rows)])),(1, .i (.agg [.int b.w, .isl (aJ b.rows)])),(2, .i (.agg [.int e.kind, .int e.col, .bool e.val.null, .int e.val.n, .isl (Ex.aB e.kids)])),(3, .bool o),(4, .own 0 0),(5, .own 1 0),(6, .own 2 0),(8, .own 3 0),(9, .osl 4 1 0 acc.length),(10, .int i),(11,jk i (.bool f)),(12,jk i (.int b.rows.length)),(13,jk n13 (.isl (aO x13))),(19,g),(26,jk i (.bool false)),(42,jk n42 (.bool c42)),(51,jk i (.bool c51))],
   st:=[some (.box [.i (.int t.w), .i (.isl (aJ t.rows))]),some (.box [.i (.int b.w), .i (.isl (aJ b.rows))]),some (.box [.i (.int e.kind), .i (.int e.col), .i (.bool e.val.null), .i (.int e.val.n), .i (.isl (Ex.aB e.kids))]),some (.box [.int 0, .nils]),some (.arr 1 (aJ acc))] }
def JIX (t b:Tbl) (e:Ex) (o:Bool) (acc:List (List Val)) (i k:Nat) (f:Bool) (n13:Nat) (x13:List Val) (n42:Nat) (c42 c51:Bool) (g:AV):AS :=
 { env:=[(0, .i (.agg [.int t.w, .isl (aJ t.rows)])),(1, .i (.agg [.int b.w, .isl (aJ b.rows)])),(2, .i (.agg [.int e.kind, .int e.col, .bool e.val.null, .int e.val.n, .isl (Ex.aB e.kids)])),(3, .bool o),(4, .own 0 0),(5, .own 1 0),(6, .own 2 0),(8, .own 3 0),(9, .osl 4 1 0 acc.length),(10, .int i),(11, .bool f),(12, .int k),(13,jk n13 (.isl (aO x13))),(19, .bool true),(26,g),(42,jk n42 (.bool c42)),(51,jk i (.bool c51))],
   st:=[some (.box [.i (.int t.w), .i (.isl (aJ t.rows))]),some (.box [.i (.int b.w), .i (.isl (aJ b.rows))]),some (.box [.i (.int e.kind), .i (.int e.col), .i (.bool e.val.null), .i (.int e.val.n), .i (.isl (Ex.aB e.kids))]),some (.box [.int 0, .nils]),some (.arr 1 (aJ acc))] }
theorem PY {e:Ex} {l:List (List Val)} {k:Nat} {y:List Val} (h:l[k]?=some y) (x:List Val):dY e (l.take (k+1)) x=dY e (l.take k) x++if isT e (x++y)=true then [x++y]else []:=by
 unfold dY;rw[aP h,yI,xS]
 cases hf:isT e (x++y)<;>simp[hf]
theorem XJ {l:List (List Val)} {i:Nat} {x:List Val} (h:l[i]?=some x) (f:List Val→List (List Val)):(l.take (i+1)).flatMap f=(l.take i).flatMap f++f x:=by rw[aP h];simp
theorem NN (t b:Tbl) (ht:t.ok=true) (hb:b.ok=true) (e:Ex) (he:e.wf (t.w+b.w)=true) (o:Bool):aG C0 67 [.i (.agg [.int t.w, .isl (aJ t.rows)]), .i (.agg [.int b.w, .isl (aJ b.rows)]), .i (.agg e.cells), .bool o] []=some (.i (.agg [.int (t.w+b.w), .isl (aJ (tab (t.w+b.w) (dX e o t b)).rows)]),[]):=by
 obtain⟨w1,w2,l1,r1⟩:=Tbl.vH ht;obtain⟨v1,v2,l2,r2⟩:=Tbl.vH hb;have hJ:=SF (e:=e) (o:=o) ht hb;have hlen:=LK e o t b
 have hlen2:(dX e o t b).length≤160000:=by
  refine xW hlen (xW (zC2 l1 (show(if o=true then max 1 b.rows.length else b.rows.length)≤400 by split<;>omega)) (by omega))
 clear hlen;have hc:=kS (t.w+b.w) (dX e o t b) (t.w+b.w).toNat (by omega) (by omega) (by omega) (fun x hx=>⟨iL (hJ x hx),by have:=gU (hJ x hx);omega⟩);have wtb:IntKind.i64.wrap (t.w+b.w)=t.w+b.w:=wrO;have hnu:=AI5 b.w (by omega) (by omega);rw[aD rfl Tryz.func67 rfl rfl,Ex.aA];simp;generalize hX:cK C0 _ _ (Code.loop _) _=X
 have key:∃ rr,X=some rr∧∃ (f:Bool) (n13:Nat) (x13:List Val) (n42:Nat) (c42 c51:Bool),rr=(.exit 0,JOX t b e o (dX e o t b) t.rows.length f n13 x13 n42 c42 c51 (.bool false)):=by
  rw[← hX];refine jI (fun d S=>∃ (i:Nat) (f:Bool) (n13:Nat) (x13:List Val) (n42:Nat) (c42 c51:Bool),S=JOX t b e o ((t.rows.take i).flatMap (joinL e o b.w b.rows)) i f n13 x13 n42 c42 c51 (jk i (.bool true))∧i≤t.rows.length∧d=t.rows.length-i) ?_ t.rows.length _ ⟨0,true,0,[],0,true,true,by simp[JOX,aR],by omega,by omega⟩;rintro d S ⟨i,f,n13,x13,n42,c42,c51,rfl,a1,a2⟩;have hT:(t.rows.take t.rows.length)=t.rows:=zZ (by simp);by_cases hi:i<t.rows.length
  ·left
   obtain⟨x,h3⟩:∃ x,t.rows[i]?=some x:=⟨_,zX hi⟩
   have hm:=zV h3;have k1:=bG h3;have hfs:=XJ h3 (joinL e o b.w b.rows);have w3:IntKind.i64.wrap ((i:Int)+1)=((i+1:Nat):Int):=by rw[wrO];omega
   have hx0:x≠[]:=fun e'=>by have:=(r1 x hm).2.1;subst e';simp at this;omega
   have hal:((t.rows.take i).flatMap (joinL e o b.w b.rows)).length≤160000:=by
    have:=LK e o ⟨t.w,t.rows.take i⟩ b;unfold dX at this;refine xW this (xW (zC2 (show(t.rows.take i).length≤400 by simp;omega) (show(if o=true then max 1 b.rows.length else b.rows.length)≤400 by split<;>omega)) (by omega))
   generalize (t.rows.take i).flatMap (joinL e o b.w b.rows)=acc at hfs hal ⊢
   obtain⟨P,hP⟩:∃ P:AS→Prop,∀ S1,P S1↔∃ (f:Bool) (n13:Nat) (x13:List Val) (n42:Nat) (c42 c51:Bool),S1=JOX t b e o (acc++joinL e o b.w b.rows x) (i+1) f n13 x13 n42 c42 c51 (.bool true):=⟨fun S1=>_,fun S1=>Iff.rfl⟩
   refine uR P ?_ (fun S1 hS1=>by
    obtain⟨f',n13',x13',n42',c42',c51',rfl⟩:=(hP S1).1 hS1
    exact⟨t.rows.length-(i+1),by omega,i+1,f',n13',x13',n42',c42',c51',by rw[hfs,AdT],by omega,rfl⟩)
   simp[JOX,hi];generalize hY:cK C0 _ _ (Code.loop _) _=Y
   have key2:∃ rr,Y=some rr∧∃ (n13:Nat) (x13:List Val) (n42:Nat) (c42:Bool),rr=(.exit 2,JIX t b e o (acc++dY e b.rows x) i b.rows.length (!(dY e b.rows x).isEmpty) n13 x13 n42 c42 c51 (.bool false)):=by
    rw[← hY];refine jI (fun d S=>∃ (k:Nat) (n13:Nat) (x13:List Val) (n42:Nat) (c42:Bool) (g:AV),S=JIX t b e o (acc++dY e (b.rows.take k) x) i k (!(dY e (b.rows.take k) x).isEmpty) n13 x13 n42 c42 c51 g∧(g=jk i (.bool false)∨g=.bool true)∧k≤b.rows.length∧d=b.rows.length-k) ?_ b.rows.length _ ⟨0,n13,x13,n42,c42,jk i (.bool false),by simp[JIX,dY], .inl rfl,by omega,by omega⟩;rintro d S ⟨k,n13,x13,n42,c42,g,rfl,hg,b1,b2⟩;by_cases hk:k<b.rows.length
    ·left
     obtain⟨y,h4⟩:∃ y,b.rows[k]?=some y:=⟨_,zX hk⟩
     have hym:=zV h4;have k2:=bG h4;have hjs:=PY (e:=e) h4 x;have w4:IntKind.i64.wrap ((k:Int)+1)=((k+1:Nat):Int):=by rw[wrO];omega
     have hcc:=EU x y hx0 (by have:=(r1 x hm).2.1;have:=(r2 y hym).2.1;omega);have hxy:(x++y).all Val.ok=true:=by rw[zE7,(r1 x hm).1,(r2 y hym).1];rfl
     have hh:=UZ (x++y) (m:=t.w+b.w) (by have:=(r1 x hm).2.2;have:=(r2 y hym).2.2;rw[zQ];omega) hxy e he;rw[Ex.aA]at hh;have hml:=LP e (b.rows.take k) x;have hml2:(dY e (b.rows.take k) x).length≤400:=by simp at hml;omega
     have hb3:(acc.length+((dY e (b.rows.take k) x).length+1))*24≤140737488355328:=by omega
     have e7:List.take (acc.length+(dY e (b.rows.take k) x).length) (aJ acc++aJ (dY e (b.rows.take k) x))=aJ acc++aJ (dY e (b.rows.take k) x):=zZ (by simp)
     cases hx:isT e (x++y)with
     | true =>
      rw[hx]at hjs hh;refine⟨JIX t b e o (acc++dY e (b.rows.take (k+1)) x) i (k+1) (!(dY e (b.rows.take (k+1)) x).isEmpty) 1 (x++y) 1 true c51 (.bool true),b.rows.length-(k+1),?_,by omega,k+1,1,x++y,1,true, .bool true,rfl, .inr rfl,by omega,rfl⟩
      rcases hg with rfl|rfl<;>simp[JIX,hk,k1,k2,hi,hcc,hh,w4,hjs,hb3,e7,bC,bB,aR,y7]
     | false =>
      rw[hx]at hjs hh;refine⟨JIX t b e o (acc++dY e (b.rows.take (k+1)) x) i (k+1) (!(dY e (b.rows.take (k+1)) x).isEmpty) 1 (x++y) 1 false c51 (.bool true),b.rows.length-(k+1),?_,by omega,k+1,1,x++y,1,false, .bool true,rfl, .inr rfl,by omega,rfl⟩
      rcases hg with rfl|rfl<;>simp[JIX,hk,k1,k2,hi,hcc,hh,w4,hjs]
    ·right;obtain rfl:k=b.rows.length:=by omega
     have hT2:(b.rows.take b.rows.length)=b.rows:=zZ (by simp);refine⟨.exit 2,JIX t b e o (acc++dY e b.rows x) i b.rows.length (!(dY e b.rows x).isEmpty) n13 x13 n42 c42 c51 (.bool false),?_,by simp,n13,x13,n42,c42,rfl⟩
     rcases hg with rfl|rfl<;>simp[JIX,hT2]
   obtain⟨rr,rfl,n13',x13',n42',c42',rfl⟩:=key2;have hcn:=EU x (gM b.w) hx0 (by have:=(r1 x hm).2.1;simp[gM];omega);have hml:=LP e b.rows x;have e8:List.take (acc.length+(dY e b.rows x).length) (aJ acc++aJ (dY e b.rows x))=aJ acc++aJ (dY e b.rows x):=zZ (by simp);have hb4:(acc.length+(dY e b.rows x).length+1)*24≤140737488355328:=by omega
   by_cases hout:(o && (dY e b.rows x).isEmpty)=true
   ·have hJL:joinL e o b.w b.rows x=[x++gM b.w]:=by unfold joinL;rw[if_pos hout]
    simp only[zU]at hout;obtain⟨ho,hemp⟩:=hout;have hemp':dY e b.rows x=[]:=zD8.1 hemp;have hb5:(acc.length+1)*24≤140737488355328:=xW (zD7 24 (Nat.succ_le_succ hal)) (by decide);have e9:List.take acc.length (aJ acc)=aJ acc:=zZ (by simp);refine⟨JOX t b e o (acc++[x++gM b.w]) (i+1) false n13' x13' n42' c42' true (.bool true),?_,(hP _).2 ⟨false,n13',x13',n42',c42',true,by rw[hJL]⟩⟩;simp[JOX,JIX,ho,hemp',k1,hi,hnu,hcn,w3,hb5,e9,bC,bB,aR]
   ·have hJL:joinL e o b.w b.rows x=dY e b.rows x:=by unfold joinL;rw[if_neg hout]
    refine⟨JOX t b e o (acc++dY e b.rows x) (i+1) (!(dY e b.rows x).isEmpty) n13' x13' n42' c42' false (.bool true),?_,(hP _).2 ⟨_,n13',x13',n42',c42',false,by rw[hJL]⟩⟩
    cases ho:o with
    | false=>simp[JOX,JIX,w3,ho]
    | true =>
     have hemp:(dY e b.rows x).isEmpty=false:=by rw[ho]at hout;simpa using hout
     simp[JOX,JIX,w3,ho,hemp]
  ·right;obtain rfl:i=t.rows.length:=by omega
   refine⟨.exit 0,JOX t b e o (dX e o t b) t.rows.length f n13 x13 n42 c42 c51 (.bool false),?_,by simp,f,n13,x13,n42,c42,c51,rfl⟩;rw[hT];simp[JOX,dX]
 obtain⟨rr,rfl,f,n13,x13,n42,c42,c51,rfl⟩:=key;have e1:List.take (dX e o t b).length (dX e o t b)=dX e o t b:=zZ (by simp);simp[JOX,wtb,hc,e1]
end Go.Proofs.YtnmimmaahhlgeaaGreat
namespace Go.Av
theorem AXM {ws:List Int} {p a:Pn} (h:p.wd ws 8≠0) (ha:a∈p.kids):a.wd ws 8≠0∧a.wd ws 7≠0:=by
 have hsh:=kM h
 have key:∀ m:Nat,8=m+1→a.wd ws m≠0→a.wd ws 8≠0∧a.wd ws 7≠0:=by
  intro m hm h';obtain rfl:m=7:=by omega
  exact⟨by rw[Pn.gF a 7 8 h' (by omega)];exact h',h'⟩
 cases hsh with
 | scan t W h0 h1 hW=>simp[Pn.scan]at ha
 | filt m e b h1 hb he=>simp[filt]at ha;subst ha;exact key m h1 hb
 | proj m es b h1 hb hl he=>simp[proj]at ha;subst ha;exact key m h1 hb
 | pair m k e b c h1 hk hb hc hl he =>
  simp[aX]at ha
  rcases ha with rfl|rfl
  ·exact key m h1 hb
  ·exact key m h1 hc
 | union m b c h1 hb hc =>
  simp[bU]at ha
  rcases ha with rfl|rfl
  ·exact key m h1 hb
  ·exact key m h1 (by rw[hc];exact hb)
 | dist m b h1 hb=>simp at ha;subst ha;exact key m h1 hb
 | group m cs b h1 hb hc ho=>simp at ha;subst ha;exact key m h1 hb
theorem XX (db:List Tbl):∀ l:List Pn,Pn.uD db l=(l.map (Pn.cost db)).sum
 | []=>by simp[Pn.uD]
 | p::l=>by simp[Pn.uD,XX db l]
theorem AUB {ws:List Int} {p:Pn} {lv:Nat} (h:p.wd ws lv≠0) (hk:p.kids≠[]):∀ a∈p.kids,a.wd ws (lv-1)≠0:=by
 rw[Pn.uJ]at h;obtain⟨h1,h2⟩:=fJ h;split at h2
 ·rename_i hk1;exact absurd (Pn.tF h1.1 hk1) hk
 ·obtain⟨h3,_⟩:=fJ h2;exact fun a ha=>by simpa using zS.1 h3 a ha
theorem ALB {ws:List Int} {db:List Tbl} (hws:ws=db.map Tbl.w) (hdb:∀ t∈db,t.ok=true):∀ (p:Pn) (lv:Nat),p.wd ws lv≠0→p.cost db≤400*p.size:=by
 intro p
 induction p using Pn.ind with
 | h k t es cs ks ih =>
  intro lv h;have hg:=eD hws hdb _ lv h;have h400:=((Tbl.dI _).1 hg.1).2.1
  have hkids:∀ a∈ks,a.cost db≤400*a.size:=by
   intro a ha;by_cases hk:ks=[]
   ·subst hk;simp at ha
   ·have:=AUB (p:=.mk k t es cs ks) h hk a ha;exact ih a ha _ this
  have hsum:Pn.uD db ks≤400*Pn.dV ks:=by
   clear ih hg h400 h
   induction ks with
   | nil=>simp[Pn.uD]
   | cons a l ihl =>
    have h1:=hkids a (by simp);have h2:=ihl fun x hx=>hkids x (by simp[hx])
    simp only[Pn.uD,Pn.dV];omega
  rw[Pn.oZ,Pn.size_eq];simp only[Pn.fK];omega
theorem ALT (key:List Val):∀ G:List (List Val×Nat),∃ k,k≤G.length∧(∀ j g,j<k→G[j]?=some g→bL g.1 key≠0)∧((k=G.length∧bump key G=G++[(key,1)])∨(∃ g,G[k]?=some g∧bL g.1 key=0∧bump key G=G.set k (g.1,g.2+1)))
 | []=>⟨0,by simp,by omega, .inl ⟨rfl,rfl⟩⟩
 | a::G=>by
  by_cases h:bL a.1 key=0
  ·exact⟨0,by omega,by omega, .inr ⟨a,rfl,h,by simp[bump,h]⟩⟩
  ·obtain⟨k,h0,h1,h2⟩:=ALT key G;refine⟨k+1,by simpa using h0,?_,?_⟩
   ·intro j g hj hg
    cases j with
    | zero=>simp at hg;subst hg;exact h
    | succ j=>exact h1 j g (by omega) (by simpa using hg)
   ·rcases h2 with ⟨e,h2⟩|⟨g,h3,h4,h5⟩
    ·exact .inl ⟨by simp[e],by simp[bump,h,h2]⟩
    ·exact .inr ⟨g,by simpa using h3,h4,by simp[bump,h,h5]⟩
theorem AKS {cs:List Int} {l:List (List Val)} {i:Nat} {x:List Val} (h:l[i]?=some x):groups cs (l.take (i+1))=bump (aU cs x) (groups cs (l.take i)):=by rw[aP h,M5]
end Go.Av
namespace Go.Proofs.YtnmimmaahhlgeaaGreat
open Go Go.Av
set_option maxRecDepth 4000
set_option maxHeartbeats 8000000
def PCX (a:List Val) (l:List Int) (i:Nat):AS :=
 { env:=[(0, .i (.isl (aO a))),(1, .i (.isl (aH l))),(4, .nils),(5, .osl 0 2 0 i),(6, .int i),(11,jk i (.bool true))],st:=[some (.arr 2 (aO (aU (l.take i) a)))] }
theorem UV (a:List Val) (l:List Int) (hl:l.length<1000000) (h:∀ c∈l,0≤c∧c<a.length):aG C0 121 [.i (.isl (aO a)), .i (.isl (aH l))] []=some (.i (.isl (aO (aU l a))),[]):=by
 rw[aD rfl Tryz.func121 rfl rfl];have hlen:∀ k,k≤l.length→(aU (l.take k) a).length=k:=by intro k hk;simp[aU];omega
 simp;rw[aS (PCX a l) l.length (by simp[PCX,aU,aO])]
 ·rw[aF];have e0:l.take l.length=l:=zZ (by simp);have e1:(aU l a).take l.length=aU l a:=zZ (by simp[aU]);have e2:(aU l a).length=l.length:=by simp[aU]
  simp[PCX,e0,e1,e2]
 ·intro i hi
  obtain⟨c,hc⟩:∃ c,l[i]?=some c:=⟨_,zX hi⟩
  obtain⟨c0,c1⟩:=h c (zV hc);have k1:=dH hc;have k2:=bS (zX (show c.toNat<a.length by omega));have w3:IntKind.i64.wrap ((i:Int)+1)=i+1:=wrO;have hb:(i+1)*16≤140737488355328:=by omega
  have e1:(aU (l.take i) a).take i=aU (l.take i) a:=zZ (by rw[hlen i (by omega)];omega);have e2:=hlen i (by omega);have e3:aU (l.take (i+1)) a=aU (l.take i) a++[(a[c.toNat]?).getD Val.zero]:=by rw[aP hc];simp[aU]
  rw[zX (show c.toNat<a.length by omega)]at e3;simp[PCX,hi,k1,k2,c0,c1,w3,hb,e1,e2,e3,gD,aO]
theorem AAV:aG C0 84 [.i (.isl [])] []=some (.osl 0 2 0 0,[some (.arr 2 [])]):=by
 rw[aD rfl Tryz.func84 rfl rfl];simp
theorem ZI (a b:List Val) (hl:a.length+b.length<1000000):aG C0 119 [.i (.isl (aO a)), .i (.isl (aO b))] []=some (.i (.isl (aO (a++b))),[]):=by
 by_cases ha:a=[]
 ·subst ha;have hb:b.length*16≤140737488355328:=by simp at hl;omega
  have e1:b.take b.length=b:=zZ (by simp);rw[aD rfl Tryz.func119 rfl rfl];simp[aO,AAV,hb,e1]
 ·exact EU a b ha hl
def AA (G:List (List Val×Nat)):List (List IV):=aJ (G.map (·.1))
def rV (G:List (List Val×Nat)):List (List IV):=aH (G.map fun g=>(g.2:Int))
def GTX (t:Tbl) (cs:List Int) (G:List (List Val×Nat)) (i:Nat) (key:List Val) (n9:Nat) (k9:Int) (c46:Bool) (g:AV):AS :=
 { env:=[(0, .i (.agg [.int t.w, .isl (aJ t.rows)])),(1, .i (.isl (aH cs))),(2, .own 0 0),(4, .own 1 0),(5, .osl 2 1 0 G.length),(6, .osl 3 1 0 G.length),(7, .int i),(8,jk i (.isl (aO key))),(9,jk i (.int k9)),(10, .junk),(11, .junk),(18,g),(40,jk i (.bool false)),(46,jk i (.bool c46)),(66, .junk)],
   st:=[some (.box [.i (.int t.w), .i (.isl (aJ t.rows))]),some (.box [.int 0, .nils]),some (.arr 1 (AA G)),some (.arr 1 (rV G))] }
def GTI (t:Tbl) (cs:List Int) (G:List (List Val×Nat)) (i:Nat) (key:List Val) (c46:Bool) (k:Nat):AS :=
 { env:=[(0, .i (.agg [.int t.w, .isl (aJ t.rows)])),(1, .i (.isl (aH cs))),(2, .own 0 0),(4, .own 1 0),(5, .osl 2 1 0 G.length),(6, .osl 3 1 0 G.length),(7, .int i),(8, .i (.isl (aO key))),(9, .int k),(10, .junk),(11, .junk),(18, .bool true),(40,if k=0 then jk i (.bool false)else .bool true),(46,jk i (.bool c46)),(66, .junk)],
   st:=[some (.box [.i (.int t.w), .i (.isl (aJ t.rows))]),some (.box [.int 0, .nils]),some (.arr 1 (AA G)),some (.arr 1 (rV G))] }
@[simp] theorem ARN (G:List (List Val×Nat)):(AA G).length=G.length:=by simp[AA]
@[simp] theorem AS3 (G:List (List Val×Nat)):(rV G).length=G.length:=by simp[rV]
theorem LJ {G:List (List Val×Nat)} {k:Nat} {g:List Val×Nat} (h:G[k]?=some g):fO (AA G) k=some [.isl (aO g.1)]:=bG (by rw[zJ,h];rfl)
theorem Y4 {G:List (List Val×Nat)} {k:Nat} {g:List Val×Nat} (h:G[k]?=some g):fO (rV G) k=some [.int (g.2:Int)]:=dH (by rw[zJ,h];rfl)
theorem IU {t:Tbl} (ht:t.ok=true) {cs:List Int} (hcs:cs.length<6) (hc:∀ c∈cs,0≤c∧c<t.w) {i:Nat} {x:List Val} (h3:t.rows[i]?=some x) :
 aG C0 121 [.i (.isl (aO x)), .i (.isl (aH cs))] []=some (.i (.isl (aO (aU cs x))),[])∧(aU cs x).all Val.ok=true∧(aU cs x).length=cs.length ∧
 ∀ g∈groups cs (t.rows.take i),aG C0 101 [.i (.isl (aO g.1)), .i (.isl (aO (aU cs x)))] []=some (.int (bL g.1 (aU cs x)),[]):=by
 obtain⟨w1,w2,l1,r1⟩:=Tbl.vH ht;have hm:=zV h3;have hR:=((Tbl.dI _).1 ht).2.2.1;have ho:=wJ (hR x hm) hc;refine⟨UV x cs (by omega) (fun c hcm=>by rw[(r1 x hm).2.2];exact hc c hcm),iL ho,by have:=gU ho;omega,fun g hg=>?_⟩
 have h5:=(kY cs (fun k=>k.all Val.ok=true∧k.length=cs.length) (t.rows.take i) (fun r hr=>by
  have:=wJ (hR r (zH hr)) hc
  exact⟨iL this,by have:=gU this;omega⟩)).1 g hg
 exact jE g.1 (aU cs x) (by have:=gU ho;omega) (by omega) h5.1 (iL ho)
theorem AFI (G:List (List Val×Nat)) (key:List Val) (n:Nat):AA (G++[(key,n)])=AA G++[[.isl (aO key)]]:=by simp[AA,aJ]
theorem AGE (G:List (List Val×Nat)) (key:List Val) (n:Nat):rV (G++[(key,n)])=rV G++[[.int (n:Int)]]:=by simp[rV,iI,aH]
theorem X3 {G:List (List Val×Nat)} {k:Nat} {g:List Val×Nat} (h:G[k]?=some g) (n:Nat):AA (G.set k (g.1,n))=AA G:=by
 unfold AA;rw[List.map_set];obtain⟨h1,rfl⟩:=zY.1 h;congr 1;have e:(G.map (·.1))[k]'(by simpa using h1)=G[k].1:=by simp
 conv=>lhs;rw[show((G[k].1,n):List Val×Nat).1=(G.map (·.1))[k]'(by simpa using h1)from e.symm]
 exact List.set_getElem_self _
theorem Y3 (G:List (List Val×Nat)) (k:Nat) (key:List Val) (n:Nat):rV (G.set k (key,n))=(rV G).set k [.int (n:Int)]:=by
 unfold rV;rw[List.map_set,← EA]
def RTX (t:Tbl) (cs:List Int) (G:List (List Val×Nat)) (i:Nat) (key:List Val) (k9:Int) (c46:Bool) (j:Nat):AS :=
 { env:=[(0, .i (.agg [.int t.w, .isl (aJ t.rows)])),(1, .i (.isl (aH cs))),(2, .own 0 0),(4, .own 1 0),(5, .osl 2 1 0 G.length),(6, .osl 3 1 0 G.length),(7, .int i),(8,jk i (.isl (aO key))),(9,jk i (.int k9)),(10, .osl 4 1 0 j),(11, .int j),(18, .bool false),(40,jk i (.bool false)),(46,jk i (.bool c46)),(66,jk j (.bool true))],
   st:=[some (.box [.i (.int t.w), .i (.isl (aJ t.rows))]),some (.box [.int 0, .nils]),some (.arr 1 (AA G)),some (.arr 1 (rV G)),some (.arr 1 (aJ ((G.take j).map fC)))] }
theorem NP (t:Tbl) (ht:t.ok=true) (cs:List Int) (hcs:cs.length<6) (hcr:∀ c∈cs,0≤c∧c<t.w):aG C0 70 [.i (.agg [.int t.w, .isl (aJ t.rows)]), .i (.isl (aH cs))] []=some (.i (.agg [.int ((cs.length:Int)+1), .isl (aJ (tab ((cs.length:Int)+1) (fP cs t.rows)).rows)]),[]):=by
 obtain⟨w1,w2,l1,r1⟩:=Tbl.vH ht;have hR:=((Tbl.dI _).1 ht).2.2.1
 have hlenG:∀ i,(groups cs (t.rows.take i)).length≤400:=fun i=>by
  have:=(kY cs (fun _=>True) (t.rows.take i) (fun _ _=>trivial)).2.1;simp at this;omega
 have hcntG:∀ i,∀ g∈groups cs (t.rows.take i),g.2≤400:=fun i g hg=>by
  have:=Q4 cs hg;simp at this;omega
 rw[aD rfl Tryz.func70 rfl rfl];simp;generalize hX:cK C0 _ _ (Code.loop _) _=X
 have key:∃ rr,X=some rr∧∃ (key:List Val) (k9:Int) (c46:Bool),rr=(.exit 0,GTX t cs (groups cs t.rows) t.rows.length key 0 k9 c46 (.bool false)):=by
  rw[← hX];refine jI (fun d S=>∃ (i:Nat) (key:List Val) (k9:Int) (c46:Bool),S=GTX t cs (groups cs (t.rows.take i)) i key 0 k9 c46 (jk i (.bool true))∧i≤t.rows.length∧d=t.rows.length-i) ?_ t.rows.length _ ⟨0,[],0,true,by simp[GTX,groups,AA,rV,aR,aH],by omega,by omega⟩;rintro d S ⟨i,key,k9,c46,rfl,a1,a2⟩;have hT:(t.rows.take t.rows.length)=t.rows:=zZ (by simp);by_cases hi:i<t.rows.length
  ·left
   obtain⟨x,h3⟩:∃ x,t.rows[i]?=some x:=⟨_,zX hi⟩
   have hm:=zV h3;have k1:=bG h3;have hga:=AKS (cs:=cs) h3;have w3:IntKind.i64.wrap ((i:Int)+1)=((i+1:Nat):Int):=by rw[wrO];omega
   obtain⟨hpk,ho,hpl,hcm⟩:=IU ht hcs hcr h3;have hl:=hlenG i;have hct:=hcntG i;generalize groups cs (t.rows.take i)=G at hga hcm hl hct ⊢;generalize aU cs x=ky at *
   obtain⟨P,hP⟩:∃ P:AS→Prop,∀ S1,P S1↔∃ (key:List Val) (k9:Int) (c46:Bool),S1=GTX t cs (bump ky G) (i+1) key 0 k9 c46 (.bool true):=⟨fun S1=>_,fun S1=>Iff.rfl⟩
   refine uR P ?_ (fun S1 hS1=>by
    obtain⟨key',k9',c46',rfl⟩:=(hP S1).1 hS1
    exact⟨t.rows.length-(i+1),by omega,i+1,key',k9',c46',by rw[hga,AdT],by omega,rfl⟩)
   obtain⟨k,hk0,hk1,hk2⟩:=ALT ky G;simp[GTX,hi,k1,hpk];rw[aS (GTI t cs G i ky c46) k (by simp[GTI])]
   ·rw[aF];have e1:List.take G.length (AA G)=AA G:=zZ (by simp);have e2:List.take G.length (rV G)=rV G:=zZ (by simp)
    rcases hk2 with ⟨rfl,hb⟩|⟨g,hg,hz,hb⟩
    ·have hb1:(G.length+1)*24≤140737488355328:=by omega
     have hb2:(G.length+1)*8≤140737488355328:=by omega
     have hn:fO (rV G++[[.lit (.int .i64 0)]]) G.length=some [.lit (.int .i64 0)]:=by have:=BI (rV G) [IV.lit (.int .i64 0)] [];simpa using this
     have hs:(rV G++[[IV.lit (.int .i64 0)]]).set G.length [IV.lit (.int .i64 1)]=rV G++[[IV.lit (.int .i64 1)]]:=by rw[zB6 _ _ (by simp)];simp
     refine⟨GTX t cs (G++[(ky,1)]) (i+1) ky 0 G.length true (.bool true),?_,(hP _).2 ⟨ky,G.length,true,by rw[hb]⟩⟩;have hlt:(G.length:Int)<G.length+1:=by omega
     by_cases h0:G.length=0
     ·have hG:G=[]:=zW.1 h0;subst hG;simp[GTI,GTX,w3,AA,rV,aR,bB,aH,bD]
     ·simp[GTI,GTX,h0,hi,w3,hb1,hb2,e1,e2,hn,hs,hlt,AFI,AGE,bD]
    ·have hkl:=(zY.1 hg).1;have q1:=LJ hg;have q2:=Y4 hg;have hc:=hcm g (zV hg);have hg4:=hct g (zV hg);have hne:¬ k=G.length:=by omega
     have hneI:¬ (k:Int)=G.length:=by omega
     have hneB:((k:Int) == G.length)=false:=by simp[hneI]
     have w5:IntKind.i64.wrap ((g.2:Int)+1)=((g.2+1:Nat):Int):=by rw[wrO];omega
     refine⟨GTX t cs (G.set k (g.1,g.2+1)) (i+1) ky 0 k false (.bool true),?_,(hP _).2 ⟨ky,k,false,by rw[hb]⟩⟩;by_cases h0:k=0
     ·subst h0;simp at hneI hneB;simp[GTI,GTX,hi,hkl,hneI,hneB,q1,q2,hc,hz,hne,w3,w5,X3 hg,Y3]
     ·simp[GTI,GTX,h0,hi,hkl,hneI,hneB,q1,q2,hc,hz,hne,w3,w5,X3 hg,Y3]
   ·intro j hj
    obtain⟨g,hg⟩:∃ g,G[j]?=some g:=⟨_,zX (by omega)⟩
    have hjl:j<G.length:=by omega
    have q1:=LJ hg;have hc:=hcm g (zV hg);have hz:=hk1 j g hj hg;have w4:IntKind.i64.wrap ((j:Int)+1)=j+1:=wrO;simp[GTI,hjl,q1,hc,hz,w4]
  ·right;obtain rfl:i=t.rows.length:=by omega
   refine⟨.exit 0,GTX t cs (groups cs t.rows) t.rows.length key 0 k9 c46 (.bool false),?_,by simp,key,k9,c46,rfl⟩;rw[hT];simp[GTX]
 obtain⟨rr,rfl,key,k9,c46,rfl⟩:=key;have hl:=hlenG t.rows.length;have hct:=hcntG t.rows.length;rw[zZ (zL _)]at hl hct
 have hkey:=(kY cs (fun k=>k.all Val.ok=true∧k.length=cs.length) t.rows (fun r hr=>by
  have:=wJ (hR r hr) hcr
  exact⟨iL this,by have:=gU this;omega⟩)).1
 have hc:=kS ((cs.length:Int)+1) (fP cs t.rows) (cs.length+1) (by omega) (by omega) (by simp[fP];omega) (fun r hr=>by
  obtain⟨g,hg,rfl⟩:=zG.1 hr;have h1:=hkey g hg;have h2:=hct g hg;unfold fC;refine⟨?_,by simp[h1.2]⟩;rw[zE7,h1.1]
  simp[Val.ok];omega)
 unfold fP at hc ⊢;generalize groups cs t.rows=G at *
 have wcs:IntKind.i64.wrap ((cs.length:Int)+1)=(cs.length:Int)+1:=wrO;simp[GTX];rw[aS (RTX t cs G t.rows.length key k9 c46) G.length (by simp[RTX,aR])]
 ·rw[aF];have e1:List.take G.length (G.map fC)=G.map fC:=zZ (by simp);simp[RTX,hc,e1,wcs]
 ·intro j hj
  obtain⟨g,hg⟩:∃ g,G[j]?=some g:=⟨_,zX hj⟩
  have q1:=LJ hg;have q2:=Y4 hg;have h1:=hkey g (zV hg);have hcc:=ZI g.1 [⟨false,(g.2:Int)⟩] (by rw[h1.2];simp;omega);simp only[aO]at hcc;have w4:IntKind.i64.wrap ((j:Int)+1)=j+1:=wrO;have hb:(j+1)*24≤140737488355328:=by omega
  have hT:(G.map fC).take (j+1)=(G.map fC).take j++[fC g]:=aP (by rw[zJ,hg];rfl);have e1:List.take j (List.take j (G.map fC))=List.take j (G.map fC):=by rw[zF,xD]
  have hmin:min j G.length=j:=by omega
  simp[RTX,hj,q1,q2,hcc,w4,hb,hT,e1,hmin,bC,bB,aR,fC]
theorem GM {ws:List Int} {db:List Tbl} (hws:ws=db.map Tbl.w) (hdb:∀ t∈db,t.ok=true):∀ (p:Pn) (lv:Nat),p.wd ws lv≠0→aG C0 30 [.i (.agg p.cells), .i (.isl (gY db))] []=some (.i (.agg [.int (p.evP db).w, .isl (aJ (p.evP db).rows)]),[]):=by
 intro p
 induction p using Pn.ind with
 | h k t es cs ks ih =>
  intro lv h;have hsh:=kM h;generalize hp:Pn.mk k t es cs ks=p at hsh h;have hk:ks=p.kids:=by rw[← hp];rfl
  subst hk
  cases hsh with
  | scan t W h0 h1 hW =>
   rw[hws,zJ]at h1;obtain⟨s,hs,rfl⟩:=xE.1 h1;have hok:=hdb s (zV hs);obtain⟨w1,w2,l1,r1⟩:=Tbl.vH hok;have hc:=kS s.w s.rows s.w.toNat (by omega) (by omega) (by omega) (fun x hx=>⟨(r1 x hx).1,(r1 x hx).2.1⟩);have q:=mP hs;have hl:=(zY.1 hs).1;have hl':t<(db.length:Int):=by omega
   rw[aD rfl Tryz.func30 rfl rfl,wP,hs];simp[Pn.scan,Pn.aZ,h0,hl,hl',q,hc,nQ]
  | filt m e a h1 ha he =>
   have hg:=eD hws hdb a m ha;have i1:=ih a (by simp[filt]) m ha;have hf:=K3 (a.evP db) hg.1 e (by rw[hg.2];exact vF he);rw[aD rfl Tryz.func30 rfl rfl,mJ];rw[Pn.aA a]at i1;rw[Ex.aA e]at hf;simp[filt,Pn.aZ,Pn.aB,Ex.aB,Pn.aA a,Ex.aA e,i1,hf,nQ]
  | proj m es a h1 ha hl he =>
   have hg:=eD hws hdb a m ha;have i1:=ih a (by simp[proj]) m ha;have hf:=IR (a.evP db) hg.1 es hl (fun e hm=>by rw[hg.2];exact vF (he e hm));rw[aD rfl Tryz.func30 rfl rfl,jT];rw[Pn.aA a]at i1;simp only[show(fun r=>List.map (Ex.ev r) es)=evs es from rfl];simp[proj,Pn.aZ,Pn.aB,Pn.aA a,i1,hf,nQ]
  | pair m k e a b h1 hk ha hb hl he =>
   have hg:=eD hws hdb a m ha;have hg2:=eD hws hdb b m hb;have i1:=ih a (by simp[aX]) m ha;have i2:=ih b (by simp[aX]) m hb;have hf:=NN (a.evP db) (b.evP db) hg.1 hg2.1 e (by rw[hg.2,hg2.2];exact vF he) (decide (k=5));rw[aD rfl Tryz.func30 rfl rfl,jU db hk];rw[Pn.aA a]at i1;rw[Pn.aA b]at i2;rw[Ex.aA e]at hf
   rcases hk with rfl|rfl
   ·simp at hf;simp[aX,Pn.aZ,Pn.aB,Ex.aB,Pn.aA a,Pn.aA b,Ex.aA e,i1,i2,hf,nQ]
   ·simp at hf;simp[aX,Pn.aZ,Pn.aB,Ex.aB,Pn.aA a,Pn.aA b,Ex.aA e,i1,i2,hf,nQ]
  | union m a b h1 ha hb =>
   have hb':b.wd ws m≠0:=by rw[hb];exact ha
   have hg:=eD hws hdb a m ha;have hg2:=eD hws hdb b m hb';have i1:=ih a (by simp[bU]) m ha;have i2:=ih b (by simp[bU]) m hb';have hf:=UK (a.evP db) (b.evP db) hg.1 hg2.1 (by rw[hg.2,hg2.2,hb]);rw[aD rfl Tryz.func30 rfl rfl,mZ];rw[Pn.aA a]at i1;rw[Pn.aA b]at i2;simp[bU,Pn.aZ,Pn.aB,Pn.aA a,Pn.aA b,i1,i2,hf,nQ]
  | dist m a h1 ha =>
   have hg:=eD hws hdb a m ha;have i1:=ih a (by simp) m ha;have hf:=IW (a.evP db) hg.1;have ht:=UJ hg.1;rw[aD rfl Tryz.func30 rfl rfl,qH,ht];rw[Pn.aA a]at i1;simp[Pn.aZ,Pn.aB,Pn.aA a,i1,hf]
  | group m cs a h1 ha hc ho =>
   have hg:=eD hws hdb a m ha;have i1:=ih a (by simp) m ha;have hf:=NP (a.evP db) hg.1 cs hc (by rw[hg.2];exact wU ho);rw[aD rfl Tryz.func30 rfl rfl,oV];rw[Pn.aA a]at i1;simp[Pn.aZ,Pn.aB,Pn.aA a,i1,hf,nQ]
end Go.Proofs.YtnmimmaahhlgeaaGreat
namespace Go.Av
theorem T9 {α:Type} [DecidableEq α]:∀ {a b:List α},a.length=b.length→∃ j,(∀ i,i<j→∃ x,a[i]?=some x∧b[i]?=some x)∧((j=a.length∧a=b)∨(∃ x y,a[j]?=some x∧b[j]?=some y∧x≠y∧a≠b))
 | [],[],_=>⟨0,by omega, .inl ⟨rfl,rfl⟩⟩
 | [],_::_,h=>by simp at h
 | _::_,[],h=>by simp at h
 | x::a,y::b,h=>by
  by_cases e:x=y
  ·subst e;obtain⟨j,h1,h2⟩:=T9 (a:=a) (b:=b) (by simpa using h);refine⟨j+1,?_,?_⟩
   ·intro i hi
    cases i with
    | zero=>exact⟨x,rfl,rfl⟩
    | succ i=>simpa using h1 i (by omega)
   ·rcases h2 with ⟨e1,e2⟩|⟨u,v,e1,e2,e3,e4⟩
    ·exact .inl ⟨by simp[e1],by rw[e2]⟩
    ·exact .inr ⟨u,v,by simpa using e1,by simpa using e2,e3,by simpa using e4⟩
  ·exact⟨0,by omega, .inr ⟨x,y,rfl,rfl,e,by simp[e]⟩⟩
def Tbl.small (t:Tbl):Prop:=t.rows.length<1000000∧∀ r∈t.rows,r.length<1000000
theorem Tbl.AC3 {t:Tbl} (h:t.ok=true):t.small:=by
 obtain⟨w1,w2,l1,r1⟩:=Tbl.vH h;exact⟨by omega,fun r hr=>by have:=(r1 r hr).2.1;omega⟩
def BQ (p:Pn) (db:List Tbl):Bool:=db.all Tbl.ok && decide (p.width (db.map Tbl.w)≠0)
end Go.Av
namespace Go.Proofs.YtnmimmaahhlgeaaGreat
open Go Go.Av
set_option maxRecDepth 4000
set_option maxHeartbeats 8000000
def SWX (db:List Tbl) (i:Nat):AS :=
 { env:=[(0, .i (.isl (gY db))),(2, .nils),(3, .osl 0 1 0 i),(4, .int i),(9,jk i (.bool true)),(17,jk i (.bool false))],st:=[some (.arr 1 (aH ((db.take i).map Tbl.w)))] }
theorem GI (db:List Tbl) (hl:db.length<1000000) (hs:∀ t∈db,t.small):aG C0 24 [.i (.isl (gY db))] []=some (.i (.isl (aH (if db.all Tbl.ok=true then db.map Tbl.w else []))),[]):=by
 rw[aD rfl Tryz.func24 rfl rfl];obtain⟨j,h1,h2⟩:=gJ Tbl.ok db;simp;rw[aS (SWX db) j (by simp[SWX,aH])]
 ·rw[aF]
  rcases h2 with ⟨hj,ha⟩|⟨t,h3,h4,h5,ha⟩
  ·subst hj;have e1:List.take db.length (db.map Tbl.w)=db.map Tbl.w:=zZ (by simp);have ha':∀ x∈db,x.ok=true:=zS.1 ha;simp[SWX,e1];rw[if_pos ha']
  ·have hil:=(zY.1 h3).1;have q:=mP h3;have hv:=AJ t (hs t h4).1 (hs t h4).2;rw[h5]at hv;have hna:¬ ∀ x∈db,x.ok=true:=fun h=>by rw[h t h4]at h5;cases h5
   simp[SWX,hil,q,hv,hna,aH]
 ·intro i hi;obtain⟨t,h3,h4,h5⟩:=h1 i hi;have hil:=(zY.1 h3).1;have q:=mP h3;have hv:=AJ t (hs t h4).1 (hs t h4).2;rw[h5]at hv;have w3:IntKind.i64.wrap ((i:Int)+1)=i+1:=wrO;have hb:(i+1)*8≤140737488355328:=by omega
  have hT:(db.map Tbl.w).take (i+1)=(db.map Tbl.w).take i++[t.w]:=aP (by rw[zJ,h3];rfl);have e1:List.take i (List.take i (db.map Tbl.w))=List.take i (db.map Tbl.w):=by rw[zF,xD]
  have hmin:min i db.length=i:=by omega
  simp[SWX,hil,q,hv,w3,hb,hT,e1,hmin,iI,aH]
theorem V4 (p:Pn) (hp:p.thin) (db:List Tbl) (hl:db.length<1000000) (hs:∀ t∈db,t.small):aG C0 14 [.i (.agg p.cells), .i (.isl (gY db))] []=some (if BQ p db=true then .tup [.i (.agg [.int (p.evP db).w, .isl (aJ (p.evP db).rows)]), .bool true]else .tup [.i (.agg [.int 0, .isl []]), .bool false],[]):=by
 have c1:=GI db hl hs;have c2:=P.OB p (Pn.J3 p hp) (if db.all Tbl.ok=true then db.map Tbl.w else []) (by split<;>simp;omega);rw[aD rfl Tryz.func14 rfl rfl];unfold BQ;by_cases ha:db.all Tbl.ok=true
 ·rw[if_pos ha]at c1 c2;by_cases hw:p.width (db.map Tbl.w)=0
  ·rw[hw]at c2;rw[Pn.aA p]at c2 ⊢;simp[c1,c2,hw]
  ·have hwd:p.wd (db.map Tbl.w) 8≠0:=by
    unfold Pn.width at hw;split at hw
    ·exact hw
    ·exact absurd rfl hw
   have c3:=GM (db:=db) rfl (zS.1 ha) p 8 hwd;rw[Pn.aA p]at c2 c3 ⊢;have ha':∀ x∈db,x.ok=true:=zS.1 ha;simp[c1,c2,c3,hw];exact ha'
 ·rw[if_neg ha]at c1 c2;have hz:p.width []=0:=by unfold Pn.width;rw[if_neg (by simp[pO])]
  rw[hz]at c2;rw[Pn.aA p]at c2 ⊢;have ha':¬ ∀ x∈db,x.ok=true:=fun h=>ha (zS.2 h)
  simp[c1,c2];simp[ha']
def ERX (a b:List Val) (i:Nat):AS :=
 { env:=[(0, .i (.isl (aO a))),(1, .i (.isl (aO b))),(4, .bool false),(5, .int i),(10, .bool false),(14,jk i (.bool true)),(25,jk i (.bool false))],st:=[] }
theorem IB (a b:List Val) (hl:a.length<1000000):aG C0 71 [.i (.isl (aO a)), .i (.isl (aO b))] []=some (.bool (decide (a=b)),[]):=by
 rw[aD rfl Tryz.func71 rfl rfl];by_cases h:a.length=b.length
 ·obtain⟨j,h1,h2⟩:=T9 h;simp[h];rw[aS (ERX a b) j (by simp[ERX])]
  ·rw[aF]
   rcases h2 with ⟨hj,he⟩|⟨x,y,e1,e2,e3,e4⟩
   ·subst he;subst hj;simp[ERX]
   ·have l1:=(zY.1 e1).1;have l2:=(zY.1 e2).1;have r1:=bS e1;have r2:=bS e2;have hne:¬ (x.null=y.null∧x.n=y.n):=fun⟨h1,h2⟩=>e3 (by cases x;cases y;simp_all)
    by_cases hq:x.null=y.null
    ·have:¬ x.n=y.n:=fun h=>hne ⟨hq,h⟩
     simp[ERX,l1,l2,r1,r2,e4,hq,this]
    ·simp[ERX,l1,l2,r1,r2,e4,hq]
  ·intro i hi;obtain⟨x,e1,e2⟩:=h1 i hi;have l1:=(zY.1 e1).1;have l2:=(zY.1 e2).1;have r1:=bS e1;have r2:=bS e2;have w3:IntKind.i64.wrap ((i:Int)+1)=i+1:=wrO;simp[ERX,l1,l2,r1,r2,w3]
 ·have hne:¬ a=b:=fun e=>h (by rw[e])
  have hI:¬ (a.length:Int)=b.length:=by omega
  simp[h,hne,hI]
def EBX (a b:List (List Val)) (i:Nat):AS :=
 { env:=[(0, .i (.isl (aJ a))),(1, .i (.isl (aJ b))),(4, .bool false),(5, .int i),(10, .bool false),(14,jk i (.bool true)),(26,jk i (.bool false))],st:=[] }
theorem XO (a b:List (List Val)) (hl:a.length<1000000) (hr:∀ r∈a,r.length<1000000):aG C0 31 [.i (.isl (aJ a)), .i (.isl (aJ b))] []=some (.bool (decide (a=b)),[]):=by
 rw[aD rfl Tryz.func31 rfl rfl];by_cases h:a.length=b.length
 ·obtain⟨j,h1,h2⟩:=T9 h;simp[h];rw[aS (EBX a b) j (by simp[EBX])]
  ·rw[aF]
   rcases h2 with ⟨hj,he⟩|⟨x,y,e1,e2,e3,e4⟩
   ·subst he;subst hj;simp[EBX]
   ·have l1:=(zY.1 e1).1;have l2:=(zY.1 e2).1;have r1:=bG e1;have r2:=bG e2;have hc:=IB x y (hr x (zV e1));simp[EBX,l1,l2,r1,r2,e4,hc,e3]
  ·intro i hi;obtain⟨x,e1,e2⟩:=h1 i hi;have l1:=(zY.1 e1).1;have l2:=(zY.1 e2).1;have r1:=bG e1;have r2:=bG e2;have hc:=IB x x (hr x (zV e1));have w3:IntKind.i64.wrap ((i:Int)+1)=i+1:=wrO;simp[EBX,l1,l2,r1,r2,w3,hc]
 ·have hne:¬ a=b:=fun e=>h (by rw[e])
  have hI:¬ (a.length:Int)=b.length:=by omega
  simp[h,hne,hI]
theorem BA (a b:Tbl) (hs:a.small):aG C0 15 [.i (.agg [.int a.w, .isl (aJ a.rows)]), .i (.agg [.int b.w, .isl (aJ b.rows)])] []=some (.bool (decide (a.w=b.w) && decide (a.rows=b.rows)),[]):=by
 have hc:=XO a.rows b.rows hs.1 hs.2;rw[aD rfl Tryz.func15 rfl rfl];by_cases hw:a.w=b.w
 ·simp[hw,hc]
 ·simp[hw]
def LWX (db:List Tbl) (i:Nat):AS :=
 { env:=[(0, .i (.isl (gY db))),(2, .nils),(3, .osl 0 1 0 i),(4, .int i),(9,jk i (.bool true))],st:=[some (.arr 1 (aH ((db.take i).map Tbl.w)))] }
theorem H7 (db:List Tbl) (hl:db.length<1000000):aG C0 10 [.i (.isl (gY db))] []=some (.i (.isl (aH (db.map Tbl.w))),[]):=by
 rw[aD rfl Tryz.func10 rfl rfl];simp;rw[aS (LWX db) db.length (by simp[LWX,aH])]
 ·rw[aF];have e1:List.take db.length (db.map Tbl.w)=db.map Tbl.w:=zZ (by simp);simp[LWX,e1]
 ·intro i hi
  obtain⟨t,h3⟩:∃ t,db[i]?=some t:=⟨_,zX hi⟩
  have q:=mP h3;have w3:IntKind.i64.wrap ((i:Int)+1)=i+1:=wrO;have hb:(i+1)*8≤140737488355328:=by omega
  have hT:(db.map Tbl.w).take (i+1)=(db.map Tbl.w).take i++[t.w]:=aP (by rw[zJ,h3];rfl);have e1:List.take i (List.take i (db.map Tbl.w))=List.take i (db.map Tbl.w):=by rw[zF,xD]
  have hmin:min i db.length=i:=by omega
  simp[LWX,hi,q,w3,hb,hT,e1,hmin,iI,aH]
def IVX (t:Tbl) (i:Nat):AS :=
 { env:=[(0, .i (.agg [.int t.w, .isl (aJ t.rows)])),(1, .own 0 0),(2, .bool false),(3,jk i (.int ((i:Int)-1))),(4,jk i (.isl (aO ((t.rows[i-1]?).getD [])))),(14, .bool false),(16, .i (.isl (aJ t.rows))),(17, .int t.rows.length),(18, .int i),(19,jk i (.bool true)),(32,jk i (.bool false)),(45,jk i (.bool false))],st:=[some (.box [.i (.int t.w), .i (.isl (aJ t.rows))])] }
theorem EL (t:Tbl) (hl:∀ r∈t.rows,r.length<1000000):aG C0 86 [.i (.agg [.int t.w, .isl (aJ t.rows)])] []=some (.bool t.ok,[]):=by
 rw[aD rfl Tryz.func86 rfl rfl];by_cases hw:bH t.w=true
 case neg =>
  have ho:t.ok=false:=by unfold Tbl.ok;simp[hw]
  simp[hw,ho]
 by_cases h4:(400:Int)<t.rows.length
 ·have ho:t.ok=false:=by unfold Tbl.ok;have:¬ t.rows.length≤400:=by omega
                         simp[this]
  simp[hw,h4,ho]
 have h4':t.rows.length≤400:=by omega
 obtain⟨j,h1,h2⟩:=XE t
 have good:∀ i,i<j→∃ r,t.rows[i]?=some r∧vI r=true∧(r.length:Int)=t.w∧(i≠0→∃ q,t.rows[i-1]?=some q∧fG q r=true):=by
  intro i hi;obtain⟨k1,k2⟩:=h1 i hi;have e1:=zX k1;refine⟨_,e1,?_⟩;unfold qG at k2;rw[e1]at k2;simp only[zC,zU,zA3,zR]at k2;refine⟨k2.1,k2.2.1,fun h0=>?_⟩;have e2:=zX (show i-1<t.rows.length by omega);rw[e2]at k2;exact⟨_,e2,by rcases k2.2.2 with e|e;omega;simpa using e⟩
 simp[hw,h4];rw[aS (IVX t) j (by simp[IVX])]
 ·rw[aF]
  rcases h2 with ⟨e,ho⟩|⟨e,hb,ho⟩
  ·simp[IVX,e,ho,hw,h4']
  ·have e1:=zX e;have hm:=zV e1;unfold qG at hb;rw[e1]at hb;generalize t.rows[j]=r at e1 hm hb;have r1:=bG e1;have c1:=JL r (by have:=hl r hm;omega);by_cases v2:(r.length:Int)=t.w
   ·by_cases v1:vI r=true
    ·simp only[zC,v1,v2,zF7,zB9,Bool.or_eq_false_iff,zC8]at hb;obtain⟨hj0,hlt⟩:=hb;obtain⟨q,g1,g2,g3,_⟩:=good (j-1) (by omega);rw[g1]at hlt;have hgt:0<bL q r:=by simp[fG]at hlt;omega
     have q1:=bG g1;have w3:IntKind.i64.wrap ((j:Int)-1)=((j-1:Nat):Int):=by rw[wrO];omega
     have hc:=kK q r (hl q (zV g1)) (hl r hm);have hjl:j-1<t.rows.length:=by omega
     have hjp:(0:Int)<j:=by omega
     have hjp':0<j:=by omega
     simp[IVX,e,ho,r1,c1,v1,v2,q1,w3,hc,hgt,hjl,hjp,hjp']
    ·simp[IVX,e,ho,r1,c1,v1,v2]
   ·simp[IVX,e,ho,r1,v2]
 ·intro i hi;obtain⟨r,e1,v1,v2,v3⟩:=good i hi;have hm:=zV e1;obtain⟨_,hg⟩:=zY.1 e1;have r1:=bG e1;have hil:=(h1 i hi).1;have c1:=JL r (by have:=hl r hm;omega);have w2:IntKind.i64.wrap ((i:Int)+1)=i+1:=wrO;by_cases h0:i=0
  ·subst h0;simp[IVX,hil,r1,c1,v1,v2,bD,hg]
  ·obtain⟨q,g1,g4⟩:=v3 h0;have hle:¬ 0<bL q r:=by simp[fG]at g4;omega
   have q1:=bG g1;have w3:IntKind.i64.wrap ((i:Int)-1)=((i-1:Nat):Int):=by rw[wrO];omega
   have hc:=kK q r (hl q (zV g1)) (hl r hm);have hjl:i-1<t.rows.length:=by omega
   have hjp:(0:Int)<i:=by omega
   have hjp':0<i:=by omega
   simp[IVX,hil,r1,c1,v1,v2,q1,w3,hc,hle,hjl,hjp,hjp',w2,hg]
def PKX (a:List Val) (l:List Int) (i:Nat):AS :=
 { env:=[(0, .i (.isl (aO a))),(1, .i (.isl (aH l))),(4, .nils),(5,gro 0 2 i),(7,jk i (.int ((l[i-1]?).getD 0))),(8, .i (.isl (aH l))),(9, .int l.length),(10, .int i),(11,jk i (.bool true))],st:=vN 2 (aO (aU (l.take i) a)) i }
theorem KO (a:List Val) (l:List Int) (hl:l.length<1000000) (h:∀ c∈l,0≤c∧c<a.length):aG C0 148 [.i (.isl (aO a)), .i (.isl (aH l))] []=some (gro 0 2 l.length,vN 2 (aO (aU l a)) l.length):=by
 rw[aD rfl Tryz.func148 rfl rfl];have hlen:∀ k,k≤l.length→(aU (l.take k) a).length=k:=by intro k hk;simp[aU];omega
 simp;rw[aS (PKX a l) l.length (by simp[PKX])]
 ·rw[aF];have e0:l.take l.length=l:=zZ (by simp);by_cases hz:l.length=0
  ·simp[PKX,hz]
  ·simp[PKX,hz,aM hz,aI hz,e0]
 ·intro i hi
  obtain⟨c,hc⟩:∃ c,l[i]?=some c:=⟨_,zX hi⟩
  obtain⟨_,hg⟩:=zY.1 hc;obtain⟨c0,c1⟩:=h c (zV hc);have k1:=dH hc;have k2:=bS (zX (show c.toNat<a.length by omega));have w3:IntKind.i64.wrap ((i:Int)+1)=i+1:=wrO;have hb:(i+1)*16≤140737488355328:=by omega
  have e1:(aU (l.take i) a).take i=aU (l.take i) a:=zZ (by rw[hlen i (by omega)];omega);have e2:=hlen i (by omega);have e3:aU (l.take (i+1)) a=aU (l.take i) a++[(a[c.toNat]?).getD Val.zero]:=by rw[aP hc];simp[aU]
  rw[zX (show c.toNat<a.length by omega)]at e3;by_cases h0:i=0
  ·subst h0;simp[aU]at e3;simp[PKX,hi,k1,k2,c0,c1,bD,aU,e3,aO,hg]
  ·simp[PKX,hi,k1,k2,c0,c1,w3,hb,e1,e2,e3,aM h0,aI h0,gD,aO,hg]
def IWX (db:List Tbl) (i:Nat):AS :=
 { env:=[(0, .i (.isl (gY db))),(2, .nils),(3, .bool false),(4,gro 0 1 i),(6,if i=0 then .junk else .own 1 0),(14, .bool false),(15, .i (.isl (gY db))),(16, .int db.length),(17, .int i),(18,jk i (.bool true)),(23,jk i (.bool false))],
   st:=if i=0 then []else [some (.arr 1 (aH ((db.take i).map Tbl.w))),some (.box [.i (.int ((db[i-1]?).getD ABH).w), .i (.isl (aJ ((db[i-1]?).getD ABH).rows))])] }
theorem YY (db:List Tbl) (hs:∀ t∈db,t.small):aG C0 42 [.i (.isl (gY db))] []=some (if(decide (1≤db.length∧db.length≤4) && db.all Tbl.ok)=true then .tup [.i (.isl (aH (db.map Tbl.w))), .bool true]else .tup [.i (.isl []), .bool false],[]):=by
 rw[aD rfl Tryz.func42 rfl rfl];by_cases hz:(db.length:Int)<1
 ·have:¬ 1≤db.length:=by omega
  simp[hz,this]
 by_cases h4:(4:Int)<db.length
 ·have:¬ db.length≤4:=by omega
  simp[hz,h4,this]
 have hb1:1≤db.length:=by omega
 have hb4:db.length≤4:=by omega
 obtain⟨j,h1,h2⟩:=gJ Tbl.ok db;simp[hz,h4];rw[aS (IWX db) j (by simp[IWX])]
 ·rw[aF]
  rcases h2 with ⟨hj,ha⟩|⟨t,h3,h4',h5,ha⟩
  ·subst hj;have hn:db.length≠0:=by omega
   have e1:List.take db.length (db.map Tbl.w)=db.map Tbl.w:=zZ (by simp);simp[IWX,hn,aM hn,e1,hb1,hb4];exact zS.1 ha
  ·have hil:=(zY.1 h3).1;have q:=mP h3;have hv:=EL t (hs t h4').2;rw[h5]at hv;by_cases h0:j=0
   ·subst h0;simp[IWX,hil,q,hv]
    exact fun _ _=>⟨t,h4',h5⟩
   ·simp[IWX,h0,aM h0,hil,q,hv]
    exact fun _ _=>⟨t,h4',h5⟩
 ·intro i hi;obtain⟨t,h3,h4',h5⟩:=h1 i hi;obtain⟨hil,hg⟩:=zY.1 h3;have q:=mP h3;have hv:=EL t (hs t h4').2;rw[h5]at hv;have w3:IntKind.i64.wrap ((i:Int)+1)=i+1:=wrO;have hb:(i+1)*8≤140737488355328:=by omega
  have hT:(db.map Tbl.w).take (i+1)=(db.map Tbl.w).take i++[t.w]:=aP (by rw[zJ,h3];rfl);have e1:List.take i (List.take i (db.map Tbl.w))=List.take i (db.map Tbl.w):=by rw[zF,xD]
  have hmin:min i db.length=i:=by omega
  by_cases h0:i=0
  ·subst h0;simp at hT;simp[IWX,hil,q,hv,bD,hT,hg,aH]
  ·simp[IWX,h0,aM h0,hil,q,hv,w3,hb,hT,e1,hmin,hg,iI,aH]
theorem l6 (a:List Val) (h0:a≠[]) (hl:a.length<1000000):aG C0 150 [.i (.isl (aO a))] []=some (.i (.isl (aO a)),[]):=by
 have hb:16*(a.length:Int)≤281474976710656:=by omega
 have hb2:16*a.length≤281474976710656:=by omega
 have e1:List.take a.length (aO a)=aO a:=zZ (by simp);rw[aD rfl Tryz.func150 rfl rfl];simp[h0,hb,hb2,e1,over]
 done
theorem NT (l:List UInt8) (p:Int) (h0:0≤p) (h1:p<900000000) (hl:l.length≤2000) :
 ∃ (v:Val) (p':Int),aG C0 175 [.own 0 0] [Rd l p]=some (.i (.agg [.bool v.null, .int v.n]),[Rd l p'])∧p≤p'∧p'≤p+2∧v.ok=true:=by
 obtain⟨v,hv,hv1,hv2⟩:=bK l p 5 h0 (by omega) hl;by_cases h:v=0
 ·refine⟨⟨true,0⟩,p+1,?_,by omega,by omega,rfl⟩;rw[aD rfl Tryz.func175 rfl rfl];simp[hv,h]
 ·obtain⟨x,hx,hm⟩:=rJ l (p+1) (by omega) (by omega) hl [[.int 0],[.int 1],[.int 2],[.int 3],[.int (-1)]] (by simp) (by simp) (by simp);refine⟨⟨false,x⟩,p+1+1,?_,by omega,by omega,?_⟩
  ·rw[aD rfl Tryz.func175 rfl rfl];simp at hx;simp[hv,h,hx]
  ·simp at hm
   rcases hm with rfl|rfl|rfl|rfl|rfl<;>rfl
theorem ACY (l:List UInt8) (hl:l.length≤2000):∀ (n:Nat) (p:Int),0≤p→p+2*n<800000000→∃ (vs:List Val) (ps:Nat→Int),vs.length=n∧vs.all Val.ok=true∧ps 0=p∧(∀ i,i≤n→p≤ps i∧ps i≤p+2*i)∧∀ i v,vs[i]?=some v→aG C0 175 [.own 0 0] [Rd l (ps i)]=some (.i (.agg [.bool v.null, .int v.n]),[Rd l (ps (i+1))])
 | 0,p,h0,h1=>⟨[],fun _=>p,rfl,rfl,rfl,fun i hi=>by show p≤p∧p≤p+2*(i:Int);omega,fun i v h=>by simp at h⟩
 | n+1,p,h0,h1=>by
  obtain⟨v,p1,hv,q1,q2,q3⟩:=NT l p h0 (by omega) hl;obtain⟨vs,ps,a1,a5,a2,a3,a4⟩:=ACY l hl n p1 (by omega) (by omega);refine⟨v::vs,fun i=>match i with|0=>p|i+1=>ps i,by simp[a1],by simp[q3];simpa using a5,rfl,?_,?_⟩
  ·intro i hi
   cases i with
   | zero=>simp
   | succ i=>have:=a3 i (by omega);simp;omega
  ·intro i u hu
   cases i with
   | zero=>simp at hu;subst hu;simp only;rw[a2];exact hv
   | succ i=>exact a4 i u (by simpa using hu)
def RWX (l:List UInt8) (vs:List Val) (ps:Nat→Int) (n:Nat) (i:Nat):AS :=
 { env:=[(0, .own 0 0),(1, .int n),(4, .nils),(5, .osl 1 2 0 i),(6, .int i),(10,jk i (.bool true))],st:=[Rd l (ps i),some (.arr 2 (aO (vs.take i)))] }
theorem uY (l:List UInt8) (hl:l.length≤2000) (n:Nat) (hn:n≤10) (p:Int) (h0:0≤p) (h1:p<700000000):∃ (x:List Val) (p':Int),aG C0 134 [.own 0 0, .int n] [Rd l p]=some (.osl 1 2 0 x.length,[Rd l p',some (.arr 2 (aO x))])∧x.length=n∧x.all Val.ok=true∧p≤p'∧p'≤p+20:=by
 obtain⟨vs,ps,a1,a5,a2,a3,a4⟩:=ACY l hl n p h0 (by omega);have b1:=a3 n (by omega);refine⟨vs,ps n,?_,a1,a5,by omega,by omega⟩;rw[aD rfl Tryz.func134 rfl rfl];simp;rw[aS (RWX l vs ps n) n (by simp[RWX,a2,aO])]
 ·rw[aF];have e1:vs.take n=vs:=zZ (by omega);simp[RWX,e1,a1]
 ·intro i hi
  obtain⟨v,hv⟩:∃ v,vs[i]?=some v:=⟨_,zX (by omega)⟩
  have hd:=a4 i v hv;have hT:=aP hv;have w3:IntKind.i64.wrap ((i:Int)+1)=i+1:=wrO;have hb:(i+1)*16≤140737488355328:=by omega
  have e1:List.take i (List.take i vs)=List.take i vs:=by rw[zF,xD]
  have hmin:min i vs.length=i:=by omega
  simp[RWX,hi,hd,hT,w3,hb,e1,hmin,gD,aO]
theorem rows_ok (l:List UInt8) (hl:l.length≤2000) (w:Nat) (hw:w≤10):∀ (n:Nat) (p:Int),0≤p→p+20*n<600000000→∃ (rs:List (List Val)) (ps:Nat→Int),rs.length=n∧(∀ r∈rs,r.all Val.ok=true∧r.length=w)∧ps 0=p∧(∀ i,i≤n→p≤ps i∧ps i≤p+20*i)∧∀ i x,rs[i]?=some x→aG C0 134 [.own 0 0, .int w] [Rd l (ps i)]=some (.osl 1 2 0 x.length,[Rd l (ps (i+1)),some (.arr 2 (aO x))])
 | 0,p,h0,h1=>⟨[],fun _=>p,rfl,by simp,rfl,fun i hi=>by show p≤p∧p≤p+20*(i:Int);omega,fun i v h=>by simp at h⟩
 | n+1,p,h0,h1=>by
  obtain⟨x,p1,hv,q3,q4,q1,q2⟩:=uY l hl w hw p h0 (by omega);obtain⟨rs,ps,a1,a5,a2,a3,a4⟩:=rows_ok l hl w hw n p1 (by omega) (by omega);refine⟨x::rs,fun i=>match i with|0=>p|i+1=>ps i,by simp[a1],?_,rfl,?_,?_⟩
  ·intro r hr
   rcases zP.1 hr with rfl|hr
   ·exact⟨q4,q3⟩
   ·exact a5 r hr
  ·intro i hi
   cases i with
   | zero=>simp
   | succ i=>have:=a3 i (by omega);simp;omega
  ·intro i u hu
   cases i with
   | zero=>simp at hu;subst hu;simp only;rw[a2];exact hv
   | succ i=>exact a4 i u (by simpa using hu)
def AQ9 (l:List UInt8) (w:Nat) (m:Int) (rs:List (List Val)) (ps:Nat→Int) (n:Nat) (i:Nat):AS :=
 { env:=[(0, .own 0 0),(1, .int w),(2, .int m),(6, .own 1 0),(7, .osl 2 1 0 i),(8, .int ((n:Int)-i)),(15,jk i (.bool true))],st:=[Rd l (ps i),some (.box [.int 0, .nils]),some (.arr 1 (aJ (rs.take i)))] }
theorem NU (l:List UInt8) (hl:l.length≤2000) (w:Nat) (hw0:w≠0) (hw:w≤10) (m:Nat) (hm:m≤20) (p:Int) (h0:0≤p) (h1:p<500000000):∃ (rs:List (List Val)) (p':Int),aG C0 83 [.own 0 0, .int w, .int m] [Rd l p]=some (.i (.agg [.int w, .isl (aJ (dC rs))]),[Rd l p'])∧rs.length≤m∧(∀ r∈rs,r.all Val.ok=true∧r.length=w)∧p≤p'∧p'≤p+500:=by
 have wm:IntKind.i64.wrap ((m:Int)+1)=((m+1:Nat):Int):=by rw[wrO];omega
 obtain⟨k,hk,hk1,-⟩:=bK l p ((m+1:Nat):Int) h0 (by omega) hl;obtain⟨k0,k1⟩:=hk1 (by omega)
 obtain⟨n,rfl⟩:∃ n:Nat,k=n:=⟨k.toNat,by omega⟩
 obtain⟨rs,ps,a1,a5,a2,a3,a4⟩:=rows_ok l hl w hw n (p+1) (by omega) (by omega);have b1:=a3 n (by omega);have hc:=kS w rs w (by omega) hw0 (by omega) a5;rw[eB (by omega)]at hc;refine⟨rs,ps n,?_,by omega,a5,by omega,by omega⟩;rw[aD rfl Tryz.func83 rfl rfl];simp[wm];simp at hk;simp[hk];rw[aS (AQ9 l w m rs ps n) n (by simp[AQ9,a2,aR])]
 ·rw[aF];have e1:rs.take n=rs:=zZ (by omega);simp[AQ9,e1,a1,hc]
 ·intro i hi
  obtain⟨x,hx⟩:∃ x,rs[i]?=some x:=⟨_,zX (by omega)⟩
  have hd:=a4 i x hx;have hT:=aP hx;have hpos:(0:Int)<(n:Int)-i:=by omega
  have w3:IntKind.i64.wrap ((n:Int)-i-1)=(n:Int)-(i+1):=by rw[wrO];omega
  have hb:(i+1)*24≤140737488355328:=by omega
  have e1:List.take i (List.take i rs)=List.take i rs:=by rw[zF,xD]
  have e2:x.take x.length=x:=zZ (by simp);have hmin:min i rs.length=i:=by omega
  have hlt:(i:Int)<n:=by omega
  simp[AQ9,hpos,hlt,hi,hd,hT,w3,hb,e1,e2,hmin,bC,bB,aR]
end Go.Proofs.YtnmimmaahhlgeaaGreat
namespace Go.Av
def swR (P X M Y S:List (List Val)) (i:Nat):List (List Val):=(P++Y.take i)++X.drop i++M++X.take i++Y.drop i++S
theorem AXV {P X M Y S:List (List Val)} {i:Nat} {x y:List Val} (hx:X[i]?=some x) (hy:Y[i]?=some y):swR P X M Y S i=(P++Y.take i)++x::((X.drop (i+1)++M++X.take i)++y::(Y.drop (i+1)++S)):=by
 obtain⟨h1,rfl⟩:=zY.1 hx;obtain⟨h2,rfl⟩:=zY.1 hy;unfold swR;rw[y8 h1,y8 h2];simp only[zK,yO]
theorem ANF {P X M Y S:List (List Val)} {i:Nat} {x y:List Val} (hx:X[i]?=some x) (hy:Y[i]?=some y):swR P X M Y S (i+1)=(P++Y.take i)++y::((X.drop (i+1)++M++X.take i)++x::(Y.drop (i+1)++S)):=by
 unfold swR;rw[aP hx,aP hy];simp
theorem ASY (P X M Y S:List (List Val)) (i:Nat):(swR P X M Y S i).length=P.length+X.length+M.length+Y.length+S.length:=by
 unfold swR;simp;omega
end Go.Av
namespace Go.Proofs.YtnmimmaahhlgeaaGreat
open Go Go.Av
set_option maxRecDepth 4000
set_option maxHeartbeats 8000000
def SRX (P X M Y S:List (List Val)) (kb:Option Blk) (N a b n:Nat) (i:Nat):AS :=
 { env:=[(0, .osl 0 1 0 N),(1, .int a),(2, .int b),(3, .int n),(10, .int i),(13,jk i (.bool true))],st:=[some (.arr 1 (aJ (swR P X M Y S i))),kb] }
theorem uP (P X M Y S:List (List Val)) (c:List Int) (f:FuncId) (N a b n:Nat) (hP:P.length=a) (hX:X.length=n) (hY:Y.length=n) (hb:b=a+n+M.length) (hN:N=P.length+X.length+M.length+Y.length+S.length) (hs:N<1000000) :
 aG C0 224 [.osl 0 1 0 N, .int a, .int b, .int n, .fn (.func f) [.own 1 0]] [some (.arr 1 (aJ (P++X++M++Y++S))),some (.box [.i (.isl (aH c))])]=some (.tup [],[some (.arr 1 (aJ (P++Y++M++X++S))),some (.box [.i (.isl (aH c))])]):=by
 rw[aD rfl Tryz.func224 rfl rfl];have e0:swR P X M Y S 0=P++(X++(M++(Y++S))):=by simp[swR]
 have en:swR P X M Y S n=P++(Y++(M++(X++S))):=by unfold swR;rw[zZ (by omega),zZ (by omega),zF5 (by omega),zF5 (by omega)];simp
 simp;rw[aS (SRX P X M Y S (some (.box [.i (.isl (aH c))])) N a b n) n (by simp[SRX,e0])]
 ·rw[aF];simp[SRX,en]
 ·intro i hi
  obtain⟨x,hx⟩:∃ x,X[i]?=some x:=⟨_,zX (by omega)⟩
  obtain⟨y,hy⟩:∃ y,Y[i]?=some y:=⟨_,zX (by omega)⟩
  have h1:=AXV (P:=P) (M:=M) (S:=S) hx hy;have h2:=ANF (P:=P) (M:=M) (S:=S) hx hy;have hl:=ASY P X M Y S i;have hPl:(P++Y.take i).length=a+i:=by simp;omega
  have hMl:(X.drop (i+1)++M++X.take i).length=n+M.length-1:=by simp;omega
  have hsw:=ASX (P++Y.take i) (X.drop (i+1)++M++X.take i) (Y.drop (i+1)++S) x y (i:=a+i) (j:=b+i) hPl.symm (by rw[hPl,hMl];omega);rw[← h1,← h2]at hsw;have q1:(swR P X M Y S i)[a+i]?=some x:=by rw[h1];exact kE _ _ _ hPl.symm
  have q2:(swR P X M Y S i)[b+i]?=some y:=by
   rw[h1];have:∀ (A B:List (List Val)) (u:List Val),A++u::(B++y::(Y.drop (i+1)++S))=(A++u::B)++y::(Y.drop (i+1)++S):=by intros;simp
   rw[this];refine kE _ _ _ ?_;rw[zQ,zI,hPl,hMl];omega
  have r1:=bG q1;have r2:=bG q2;have w1:IntKind.i64.wrap ((a:Int)+i)=((a+i:Nat):Int):=by rw[wrO];omega
  have w2:IntKind.i64.wrap ((b:Int)+i)=((b+i:Nat):Int):=by rw[wrO];omega
  have w3:IntKind.i64.wrap ((i:Int)+1)=i+1:=wrO;have l1:a+i<N:=by omega
  have l2:b+i<N:=by omega
  have l3:a+i<(swR P X M Y S i).length:=by omega
  have l4:b+i<(swR P X M Y S i).length:=by omega
  have hlN:N≤(swR P X M Y S i).length:=by omega
  have hset:((aJ (swR P X M Y S i)).set (a+i) [.isl (aO y)]).set (b+i) [.isl (aO x)]=aJ (swR P X M Y S (i+1)):=by rw[jF,jF,← hsw];rfl
  have hset':((aJ (swR P X M Y S i)).set (b+i) [.isl (aO x)]).set (a+i) [.isl (aO y)]=aJ (swR P X M Y S (i+1)):=by rw[List.set_comm _ _ (by omega),hset]
  have l1i:(a:Int)+i<N:=by omega
  have l2i:(b:Int)+i<N:=by omega
  have z1:(0:Int)≤(a:Int)+i:=by omega
  have z2:(0:Int)≤(b:Int)+i:=by omega
  have t1:((a:Int)+i).toNat=a+i:=by omega
  have t2:((b:Int)+i).toNat=b+i:=by omega
  have n1:fO ((aJ (swR P X M Y S i)).set (a+i) [.isl (aO y)]) (b+i)=some [.isl (aO y)]:=by
   rw[dO,List.getElem?_set_ne (by omega),← dO];exact r2
  simp[SRX,hi,w1,w2,w3,l1,l2,l3,l4,l1i,l2i,z1,z2,t1,t2,r1,r2,n1,hset,hset',hlN]
end Go.Proofs.YtnmimmaahhlgeaaGreat

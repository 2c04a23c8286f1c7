/- Part 4 of what the proof rests on: the executor and what it is worth, and the program's functions as it runs them. No condition. -/
import Derived.Test.YtnmimmaahhlgeaaGreatT3
set_option linter.unusedVariables false
set_option linter.unusedSimpArgs false
namespace Go.Av
section
variable {wi:World} {mi:Mem} {nt:Nat}
theorem GR.AfC {ok:Nat→Prop} {R:World→Mem→Pl→Prop} {env:Nat→AV} {st:Store} {a:Act} {w:World} {u bq oq:Nat} {cs:List IV} (h:GR wi mi nt ok R env st a w) (hu:env u=.i (.lit (.pointer (some ⟨bq,oq,none⟩)))) (hc:IAt mi bq oq cs):GR wi mi nt ok R (upd env u (.i (.iref cs))) st a w:=by
 refine h.turn fun m φ h1 h2 h3 h4 h5=>⟨m,φ,h1,fun t=>?_,h3,h4,h5⟩
 by_cases ht:t=u
 ·subst ht;have:=h2 t;rw[hu]at this;simp only[upd,if_true];rw[this.dJ];exact .i (.iref (hc.mono h3.mle))
 ·simp only[upd,ht,if_false];exact h2 t
end
theorem AtP.see {w:World} {m:Mem} {x:Pn} {b o:Nat} {F:List Nat} {path:List Int} {y:Pn} {bq oq:Nat} {Fa Fy Fz:List Nat} (h:AtP w m x b o F path y bq oq Fa Fy Fz):∃ v0 v1 v2 v3 ao cap,IAt (jP w) bq oq [.lit v0, .lit v1, .lit v2, .lit v3, .lit (.slice ao y.kids.length cap)]∧w.cell? ⟨bq,oq+4,none⟩=some (.slice ao y.kids.length cap):=by
 obtain⟨v0,v1,v2,v3,v4,h5,hone,⟨ao,cap,rfl⟩,_,_⟩:=h.th.cells;exact⟨v0,v1,v2,v3,ao,cap, .cons h5.c0 (.lit _) (hone _ (by simp)) (.cons h5.c1 (.lit _) (hone _ (by simp)) (.cons h5.c2 (.lit _) (hone _ (by simp)) (.cons h5.c3 (.lit _) (hone _ (by simp)) (.cons h5.c4 (.lit _) (hone _ (by simp)) (.nil _ _))))),h5.c4⟩
end Go.Av
namespace Go.Proofs.YtnmimmaahhlgeaaGreat.G
open Go Go.Av
set_option maxRecDepth 4000
set_option maxHeartbeats 4000000
def AEV (v0:AV) (path:List Int) (v6 v13 v26:AV) (i:Nat):List (Nat×AV):=[(0,v0),(1, .i (.isl (aG path))),(4, .i (.lit (.pointer none))),(6,v6),(9, .bool false),(10, .i (.isl (aG path))),(11, .int path.length),(12, .int i),(13,v13),(26,v26)]
theorem AaA (v0 v0':AV) (path:List Int) (v6 v13 v26:AV) (i:Nat):upd (aV (AEV v0 path v6 v13 v26 i)) 0 v0'=aV (AEV v0' path v6 v13 v26 i):=by
 funext t;simp only[upd,AEV,aV];by_cases h0:t=0
 ·subst h0;simp
 ·simp only[h0,if_false]
theorem AQN {w:World} {m:Mem} {p y:Pn} {root:Nat} {F:List Nat} {path:List Int} (hth:TH w m p root 0 F []) (hr:root ∉ F) (hn:F.Nodup) (hy:Pn.at path p=some y) (hl:path.length≤8) {vs:List Value} (hvs:RepL (jP w) (fun _=>none) [.i (.lit (.pointer (some ⟨root,0,none⟩))), .i (.isl (aG path))] vs) :
 Calls Tryz.prog 27 vs.toArray w fun e w'=>∃ bq oq Fa Fy Fz m',e=.returned (.pointer (some ⟨bq,oq,none⟩))∧AtP w m p root 0 F path y bq oq Fa Fy Fz∧oI w' m'∧Adv w (jP w) (fun _=>none) w' m' (fun _=>none):=by
 refine calls_of_wp (fn:=Tryz.f27) Tryz.func27 rfl ?_;have hv1:vs.length=2:=by simpa using hvs.length.symm
 have g0:GR w (jP w) 35 (fun id=>id<({ env:=[(0, .i (.lit (.pointer (some ⟨root,0,none⟩)))),(1, .i (.isl (aG path)))],st:=[] }:AS).st.length) (fun _ _ _=>True) (aV [(0, .i (.lit (.pointer (some ⟨root,0,none⟩)))),(1, .i (.isl (aG path)))]) (bK []) { tmps:=vs.toArray++Array.replicate (35-vs.toArray.size) undef,defers:=[] } w:=by
  refine⟨⟨jP w,fun _=>none,inv0 w,?_, .refl _ _ _,fun id h=>absurd rfl h,trivial⟩,by simp;omega,rfl⟩;intro t;have:=nH (m:=jP w) (φ:=fun _=>none) (35-vs.toArray.size) hvs t
  rcases t with _|_|t
  ·simpa [aV,uN]using this
  ·simpa [aV,uN]using this
  ·simp only[aV];simp;exact .junk _
 refine wp_seq (wp_mono (GR.fF l7 (G:=GS 27) (S:={ env:=[(0, .i (.lit (.pointer (some ⟨root,0,none⟩)))),(1, .i (.isl (aG path)))],st:=[] }) (e:=.normal) (S':={ env:=[(0, .i (.lit (.pointer (some ⟨root,0,none⟩)))),(1, .i (.isl (aG path))),(4, .i (.lit (.pointer none))),(6, .junk),(9, .junk),(10, .junk),(11, .junk),(12, .junk),(13, .junk),(26, .junk)],st:=[] }) nS (by kernel_rfl) (by simp) g0) ?_);rintro _ a1 w1 ⟨rfl,g1⟩;have hle:¬ (8:Int)<path.length:=by omega
 refine wp_seq (wp_mono (GR.fF l7 (G:=GS 27) (S:={ env:=[(0, .i (.lit (.pointer (some ⟨root,0,none⟩)))),(1, .i (.isl (aG path))),(4, .i (.lit (.pointer none))),(6, .junk),(9, .junk),(10, .junk),(11, .junk),(12, .junk),(13, .junk),(26, .junk)],st:=[] }) (e:=.normal) (S':={ env:=[(0, .i (.lit (.pointer (some ⟨root,0,none⟩)))),(1, .i (.isl (aG path))),(4, .i (.lit (.pointer none))),(6, .junk),(9, .bool false),(10, .junk),(11, .junk),(12, .junk),(13, .junk),(26, .junk)],st:=[] }) nS (by kernel_rfl) (by simp[hle]) g1) ?_);rintro _ a2 w2 ⟨rfl,g2⟩;refine wp_seq (wp_seq (wp_mono (GR.fF l7 (G:=GS 27) (S:={ env:=[(0, .i (.lit (.pointer (some ⟨root,0,none⟩)))),(1, .i (.isl (aG path))),(4, .i (.lit (.pointer none))),(6, .junk),(9, .bool false),(10, .junk),(11, .junk),(12, .junk),(13, .junk),(26, .junk)],st:=[] }) (e:=.normal) (S':={ env:=AEV (.i (.lit (.pointer (some ⟨root,0,none⟩)))) path .junk .junk .junk 0,st:=[] }) nS (by kernel_rfl) (by simp[AEV]) g2) ?_));rintro _ a3 w3 ⟨rfl,g3⟩;clear g0 g1 g2;refine wp_block ?_;refine CL (fun n a w'=>∃ (i:Nat) (z:Pn) (bq oq:Nat) (Fa Fy Fz:List Nat),n=path.length-i∧i≤path.length∧AtP w m p root 0 F (path.take i) z bq oq Fa Fy Fz∧GR w (jP w) 35 (fun id=>id<0) (fun _ _ _=>True) (aV (AEV (.i (.lit (.pointer (some ⟨bq,oq,none⟩)))) path .junk .junk .junk i)) (bK []) a w') ?_ (n:=path.length) ⟨0,p,root,0,[],F,[],by omega,by omega,by simpa using AtP.start hth hr hn,g3⟩;clear g3;rintro n a w' ⟨i,z,bq,oq,Fa,Fy,Fz,rfl,hi,hat,g⟩;by_cases hi2:i=path.length
 ·subst hi2;rw[zG4]at hat;have hz:z=y:=by have:=hat.is;rw[hy]at this;injection this with this;exact this.symm
  subst hz;refine wp_mono (GR.fF l7 (G:=GS 27) (S:={ env:=AEV (.i (.lit (.pointer (some ⟨bq,oq,none⟩)))) path .junk .junk .junk path.length,st:=[] }) (e:=.exit 0) (S':={ env:=AEV (.i (.lit (.pointer (some ⟨bq,oq,none⟩)))) path .junk (.bool false) .junk path.length,st:=[] }) nS (by kernel_rfl) (by simp[AEV]) g) ?_;rintro _ a5 w5 ⟨rfl,g5⟩;simp only[nT,Exit.then,Exit.inBlock,if_true];refine wp_mono (GR.fF l7 (G:=GS 27) (S:={ env:=AEV (.i (.lit (.pointer (some ⟨bq,oq,none⟩)))) path .junk (.bool false) .junk path.length,st:=[] }) (e:=.ret) (S':={ env:=[(0, .i (.lit (.pointer (some ⟨bq,oq,none⟩)))),(1, .i (.isl (aG path))),(4, .i (.lit (.pointer (some ⟨bq,oq,none⟩)))),(6, .junk),(9, .bool false),(10, .i (.isl (aG path))),(11, .int path.length),(12, .int path.length),(13, .bool false),(26, .junk)],st:=[] }) nS (by kernel_rfl) (by simp[AEV]) g5) ?_;rintro _ a6 w6 ⟨rfl,g6⟩;obtain⟨⟨m2,φ2,q1,q2,q3,q4,q5⟩,q6,q7⟩:=g6
  have hφ:φ2=fun _=>none:=by
   funext id
   cases h:φ2 id with
   | none=>rfl
   | some p=>exact absurd (q4 id (by rw[h];simp)) (zB5 _)
  subst hφ
  obtain⟨v,k1,k2⟩:=iH (C:=C2) (fn:=Tryz.f27) (keep:=false) (na:=0) (S:={ env:=[(0, .i (.lit (.pointer (some ⟨bq,oq,none⟩)))),(1, .i (.isl (aG path))),(4, .i (.lit (.pointer (some ⟨bq,oq,none⟩)))),(6, .junk),(9, .bool false),(10, .i (.isl (aG path))),(11, .int path.length),(12, .int path.length),(13, .bool false),(26, .junk)],st:=[] }) (r:=.i (.lit (.pointer (some ⟨bq,oq,none⟩)))) (stl':=[]) (fun id h=>absurd rfl h) ⟨⟨⟨m2,fun _=>none,q1,q2,q3,q4, .nil _ _ _⟩,q6,q7⟩,x8 _⟩ (by
   show finish C2 false [ResultVar.tmp 4] 0 _=_
   simp)
  have hv:v=.pointer (some ⟨bq,oq,none⟩):=by
   obtain⟨_,_,_,e,r,_⟩:=k2;injection e with e;subst e;exact r.dJ
  subst hv;exact⟨q7,_,k1,bq,oq,Fa,Fy,Fz,m2,rfl,hat,q1.mem,q3⟩
 ·have hi3:i<path.length:=by omega
  have q1:=zX hi3
  have hsplit:path=path.take i++path[i]::path.drop (i+1):=by
   rw[← List.drop_eq_getElem_cons hi3,zC]
  have hr2:Pn.at (path[i]::path.drop (i+1)) z=some y:=by
   rw[hsplit]at hy
   rwa [wI _ _ _ _ hat.is]at hy
  obtain⟨x,hx,zk,hk1,hk2⟩:=Pn.pQ hr2;obtain⟨b',cap,hc1,hc2,Fa',Fy',Fz',hat'⟩:=hat.step hk1;obtain⟨v0,v1,v2,v3,ao,cap',hsee,hsee2⟩:=hat.see;rw[hc1]at hsee2;injection hsee2 with hsee2;injection hsee2 with e1 _ e3;subst e1;subst e3;have htk:path.take i++[(x:Int)]=path.take (i+1):=by rw[← hx,zF3,q1];rfl
  rw[htk]at hat';have r1:=bL q1;rw[hx]at r1;have hxl:x<z.kids.length:=(zY.1 hk1).1;have g1:=g.AfC (u:=0) rfl hsee;rw[AaA]at g1;have w2:IntKind.i64.wrap ((i:Int)+1)=i+1:=wrO
  refine wp_mono (GR.fF l7 (G:=GS 27) (S:={ env:=AEV (.i (.iref [.lit v0, .lit v1, .lit v2, .lit v3, .lit (.slice (some ⟨b',0,none⟩) z.kids.length cap)])) path .junk .junk .junk i,st:=[] }) (e:=.normal) (S':={ env:=AEV (.i (.lit (.pointer (some ⟨b',x*5,none⟩)))) path (.int x) (.bool true) (.bool false) (i+1),st:=[] }) nS (by kernel_rfl) (by
   have n1:¬ (x:Int)<0:=by omega
   have n2:¬ z.kids.length≤x:=by omega
   simp[AEV,hi3,r1,hxl,w2,n1,n2]) g1) ?_
  rintro _ a5 w5 ⟨rfl,g5⟩;simp only[nT,Exit.then,Exit.inBlock];refine⟨path.length-(i+1),by omega,i+1,zk,b',5*x,Fa',Fy',Fz',rfl,by omega,hat',?_⟩;rw[yT 5 x]
  exact g5.envTo (by
   intro t;simp only[AEV,aV];by_cases h6:t=6
   ·subst h6;simp
   by_cases h13:t=13
   ·subst h13;simp
   by_cases h26:t=26
   ·subst h26;simp
   simp[h6,h13,h26])
end Go.Proofs.YtnmimmaahhlgeaaGreat.G
namespace Go.Av
theorem M5:∀ (l:List Int) (i:Nat) (x:Int),(aG l).set i [.int x]=aG (l.set i x)
 | [],i,x=>by simp[aG]
 | a::l,0,x=>by simp[aG]
 | a::l,i+1,x=>by simp[aG,M5 l i x]
end Go.Av
namespace Go.Proofs.YtnmimmaahhlgeaaGreat
open Go Go.Av
set_option maxHeartbeats 4000000
set_option maxRecDepth 4000
theorem Ac9 {S:Int} (h0:0≤S) (h1:S<4611686018427387904):0≤IntKind.i64.wrap ((((S % 2 ^ IntKind.i64.bits).toNat ^^^ (IntKind.i64.wrap (S.tdiv 64) % 2 ^ IntKind.i64.bits).toNat:Nat)):Int):=by
 have e1:0≤S.tdiv 64:=Int.tdiv_nonneg h0 (by omega);have e2:S.tdiv 64≤S:=Int.tdiv_le_self _ h0;have e3:IntKind.i64.wrap (S.tdiv 64)=S.tdiv 64:=wrO
 have e4:∀ T:Int,0≤T→T<4611686018427387904→(T % 2 ^ IntKind.i64.bits).toNat<2 ^ 62:=fun T k1 k2=>by
  have:T % 2 ^ IntKind.i64.bits=T:=Int.emod_eq_of_lt k1 (by simp[IntKind.bits];omega);rw[this];omega
 rw[e3];have:=Nat.xor_lt_two_pow (e4 S h0 h1) (e4 (S.tdiv 64) e1 (by omega));rw[wrO];omega
theorem bE (l:List UInt8) (p n:Int) (h0:0≤p) (h1:p<1000000000) (hl:l.length≤2000):∃ v,aH C0 40 [.own 0 0, .int n] [Rd l p]=some (.int v,[Rd l (p+1)])∧(1≤n→0≤v∧v<n)∧(n<1→v=0):=by
 have hw:IntKind.i64.wrap (p+1)=p+1:=wrO;have hw':IntKind.i64.wrap p=p:=wrO;by_cases hn:n<1
 ·refine⟨0,?_,by omega,fun _=>rfl⟩;rw[aD rfl Tryz.func40 rfl rfl];simp[Rd,hw,hn]
 by_cases he:l=[]
 ·refine⟨0,?_,by omega,fun _=>rfl⟩;rw[aD rfl Tryz.func40 rfl rfl];subst he;simp[Rd,hw,hn]
 have hlen:0<l.length:=xX.2 he;have hn0:n≠0:=by omega
 have hn1:(n != 0)=true:=by simp[hn0]
 by_cases hk:p<l.length
 ·obtain⟨x,hx1,hx2⟩:=A8 (l:=l) (j:=p.toNat) (by omega);have hwx:IntKind.i64.wrap (x:Int)=x:=wrO;refine⟨(x:Int).tmod n,?_,fun _=>⟨Int.tmod_nonneg _ (by omega),xA _ (by omega)⟩,by omega⟩;rw[aD rfl Tryz.func40 rfl rfl];simp[Rd,hw,hw',hn,hk,he,h0,fQ,hx2,hn1,hwx]
 ·obtain⟨x,hx1,hx2⟩:=A8 (l:=l) (j:=(p.tmod l.length).toNat) (by have:=xA p (b:=l.length) (by omega);omega);obtain⟨y,hy1,hy2⟩:=A8 (l:=l) (j:=((p*7+3).tmod l.length).toNat) (by have:=xA (p*7+3) (b:=l.length) (by omega);omega);have a1:0≤p.tmod l.length:=Int.tmod_nonneg _ h0;have a2:p.tmod l.length<l.length:=xA _ (by omega);have a3:0≤(p*7+3).tmod l.length:=Int.tmod_nonneg _ (by omega);have a4:(p*7+3).tmod l.length<l.length:=xA _ (by omega);have w7:IntKind.i64.wrap (p*7)=p*7:=wrO;have w8:IntKind.i64.wrap (p*7+3)=p*7+3:=wrO;have hwx:IntKind.i64.wrap (x:Int)=x:=wrO;have hwy:IntKind.i64.wrap (y:Int)=y:=wrO;have hl1:((l.length:Int) != 0)=true:=by simp[he]
  rw[aD rfl Tryz.func40 rfl rfl];have d1:0≤p.tdiv l.length:=Int.tdiv_nonneg h0 (by omega);have d2:p.tdiv l.length≤p:=Int.tdiv_le_self _ h0;have w1:IntKind.i64.wrap ((x:Int)*131)=x*131:=wrO;have w2:IntKind.i64.wrap ((y:Int)*1117)=y*1117:=wrO;have w3:IntKind.i64.wrap (p*29)=p*29:=wrO;have w4:IntKind.i64.wrap (p.tdiv l.length)=p.tdiv l.length:=wrO;have w5:IntKind.i64.wrap (p.tdiv l.length*53)=p.tdiv l.length*53:=wrO;have w6:IntKind.i64.wrap ((x:Int)*131+y*1117)=x*131+y*1117:=wrO;have w9:IntKind.i64.wrap ((x:Int)*131+y*1117+p*29)=x*131+y*1117+p*29:=wrO;have wA:IntKind.i64.wrap ((x:Int)*131+y*1117+p*29+p.tdiv l.length*53)=x*131+y*1117+p*29+p.tdiv l.length*53:=wrO;simp[Rd,hw,hw',hn,hk,he,fQ,hx2,hy2,hn1,hwx,hwy,w7,w8,hl1,a1,a2,a3,a4,w1,w2,w3,w4,w5,w6,w9,wA];intro hn2;have hx:=Ac9 (S:=x*131+y*1117+p*29+p.tdiv l.length*53) (by omega) (by omega);exact⟨Int.tmod_nonneg _ hx,xA _ (by omega)⟩
theorem M4 (n:Int):n=1∨n=2∨n=3∨n=4∨n=5∨n=6∨n=7∨n=8∨n=9∨n=10∨n=11∨(n≠1∧n≠2∧n≠3∧n≠4∧n≠5∧n≠6∧n≠7∧n≠8∧n≠9∧n≠10∧n≠11):=by omega
@[simp] theorem APB (n:Int):aH C0 209 [.int n] []=some (.int (dB n),[]):=by
  rw[aD rfl Tryz.func209 rfl rfl]
  rcases M4 n with rfl|rfl|rfl|rfl|rfl|rfl|rfl|rfl|rfl|rfl|rfl|⟨h1,h2,h3,h4,h5,h6,h7,h8,h9,h10,h11⟩
  all_goals first
   | (simp[dB];done)
   | (have e:dB n=-1:=by
       unfold dB;rw[if_neg (by omega),if_neg (by omega),if_neg (by omega)]
      simp[e,h1,h2,h3,h4,h5,h6,h7,h8,h9,h10,h11])
@[simp] theorem AZR (n:Int):aH C0 176 [.int n] []=some (.int (dB n),[]):=by
  rw[aD rfl Tryz.func176 rfl rfl]
  rcases M4 n with rfl|rfl|rfl|rfl|rfl|rfl|rfl|rfl|rfl|rfl|rfl|⟨h1,h2,h3,h4,h5,h6,h7,h8,h9,h10,h11⟩
  all_goals first
   | (simp[dB];done)
   | (have e:dB n=-1:=by
       unfold dB;rw[if_neg (by omega),if_neg (by omega),if_neg (by omega)]
      simp[e,h1,h2,h3,h4,h5,h6,h7,h8,h9,h10,h11])
@[simp] theorem ANL (n:Int):aH C0 102 [.int n] []=some (.bool (bG n),[]):=by
  rw[aD rfl Tryz.func102 rfl rfl];by_cases h1:1≤n<;>by_cases h2:n≤6<;>simp[bG,h1,h2]
@[simp] theorem QC (n a b:Int):aH C0 95 [.int n, .int a, .int b] []=some (.bool (decide (a≤n∧n≤b)),[]):=by
  rw[aD rfl Tryz.func95 rfl rfl];by_cases h1:a≤n<;>by_cases h2:n≤b<;>simp[h1,h2]
@[simp] theorem valid_eq (b:Bool) (n:Int):aH C0 177 [.i (.agg [.bool b, .int n])] []=some (.bool (Val.ok ⟨b,n⟩),[]):=by
  rw[aD rfl Tryz.func177 rfl rfl]
  cases b
  ·by_cases h1:-9999≤n<;>by_cases h2:n≤9999<;>simp[Val.ok,h1,h2]
  ·by_cases h1:n=0<;>simp[Val.ok,h1]
@[simp] theorem ANM (b:Bool) (n:Int):aH C0 153 [.i (.agg [.bool b, .int n])] []=some (.bool (Val.ok ⟨b,n⟩),[]):=by
  rw[aD rfl Tryz.func153 rfl rfl]
  cases b
  ·by_cases h1:-9999≤n<;>by_cases h2:n≤9999<;>simp[Val.ok,h1,h2]
  ·by_cases h1:n=0
   ·subst h1;simp[Val.ok]
   ·by_cases h2:-9999≤n<;>by_cases h3:n≤9999<;>simp[Val.ok,h1,h2,h3]
@[simp] theorem ABC (v:Val):aH C0 174 [.i (.agg [.bool v.null, .int v.n])] []=some (.i (.agg (Ex.mk 2 0 v []).cells),[]):=by
  rw[aD rfl Tryz.func174 rfl rfl];simp[Ex.cells,Ex.aB]
theorem AR0 {e:Ex} {w:Int} (n:Nat) (hk:¬ (e.kids.length:Int)=dB e.kind):aH C0 188 [.i (.iref e.cells), .int w, .int n] []=some (.bool false,[]):=by
 rw[aD rfl Tryz.func188 rfl rfl,Ex.aA];simp[Ex.bC,hk]
theorem AT3 {e:Ex} {w:Int} (hk:(e.kids.length:Int)=dB e.kind) (hz:0<dB e.kind):aH C0 188 [.i (.iref e.cells), .int w, .int 0] []=some (.bool false,[]):=by
 rw[aD rfl Tryz.func188 rfl rfl,Ex.aA];simp[Ex.bC,hk,hz]
theorem AHW {e:Ex} {w:Int} (n:Nat) (hk:(e.kids.length:Int)=dB e.kind) (hz:0<dB e.kind→n≠0) (hh:e.headOk w=false) :
 aH C0 188 [.i (.iref e.cells), .int w, .int n] []=some (.bool false,[]):=by
 rw[aD rfl Tryz.func188 rfl rfl,Ex.aA];unfold Ex.headOk at hh;by_cases h1:e.kind=1
 ·rw[h1]at hz hk;simp[h1,dB]at hh hk;by_cases h2:0≤e.col
  ·by_cases h3:e.col<w
   ·cases h4:e.val.null with
    | true=>simp[Ex.bC,hk,h1,zC2.2 h2,zG8.2 h3,h4,dB]
    | false=>simp[Ex.bC,hk,h1,zC2.2 h2,zG8.2 h3,h4,hh h2 h3 h4,dB]
   ·simp[Ex.bC,hk,h1,zC2.2 h2,zC2.1 h3,dB]
  ·simp[Ex.bC,hk,h1,zG8.1 h2,dB]
 ·by_cases h2:e.kind=2
  ·rw[h2]at hz hk;simp[h2,dB]at hh hk;by_cases h3:e.col=0
   ·have h4:Val.ok ⟨e.val.null,e.val.n⟩=false:=hh h3;simp[Ex.bC,hk,h2,h3,h4,dB]
   ·simp[Ex.bC,hk,h2,h3,dB]
  ·simp[h1,h2]at hh;by_cases h0:0<dB e.kind
   ·have hn:=hz h0;by_cases h3:e.col=0
    ·cases h4:e.val.null with
     | true=>simp[Ex.bC,hk,h1,h2,h3,h4,h0,hn,hz h0]
     | false=>simp[Ex.bC,hk,h1,h2,h3,h4,hh h3 h4,h0,hn,hz h0]
    ·simp[Ex.bC,hk,h1,h2,h3,h0,hn,hz h0]
   ·by_cases h3:e.col=0
    ·cases h4:e.val.null with
     | true=>simp[Ex.bC,hk,h1,h2,h3,h4,h0]
     | false=>simp[Ex.bC,hk,h1,h2,h3,h4,hh h3 h4,h0]
    ·simp[Ex.bC,hk,h1,h2,h3,h0]
def VX (e:Ex) (w n:Int) (i:Nat):AS :=
 { env:=[(0, .i (.iref [.int e.kind, .int 0, .bool false, .int 0, .isl (Ex.aB e.kids)])),(1, .int w),(2, .int n),(6, .bool false),(7, .int (dB e.kind)),(8,jk i (.int (i-1))),(28, .bool (n == 0)),(62, .bool false),(90, .bool false),(95, .int (dB e.kind)),(96, .int i),(97,jk i (.bool true)),(109,jk i (.bool false))],st:=[] }
theorem AY3 {e:Ex} {w:Int} (n:Nat) (hn:n≤8) (hk:(e.kids.length:Int)=dB e.kind) (hz:0<dB e.kind→n≠0) (hh:e.headOk w=true) (ih:∀ k∈e.kids,0<dB e.kind→aH C0 188 [.i (.iref k.cells), .int w, .int ((n:Int)-1)] []=some (.bool (Ex.vB w (n-1) k),[])) :
 aH C0 188 [.i (.iref e.cells), .int w, .int n] []=some (.bool (e.kids.all (Ex.vB w (n-1))),[]):=by
 rw[aD rfl Tryz.func188 rfl rfl,Ex.aA]
 rcases Ex.AG8 w e with h|⟨-,⟨hA,hB,hC,hD,hE,hF⟩|⟨hA,hB,hC,hD,hE,hF⟩|⟨hA,hB,hC,hD,hE,hF⟩⟩
 ·simp[h]at hh
 ·have h2:e.kids=[]:=by rw[hF]at hk;simpa using hk
  simp[h2,Ex.aB,hA,hD,hE,zC2.2 hB,zG8.2 hC,dB];rw[aF];simp
 ·have h2:e.kids=[]:=by rw[hF]at hk;simpa using hk
  simp[h2,Ex.aB,hA,hB,hC,dB];rw[aF];simp
 ·by_cases h0:0<dB e.kind
  ·have hn:=hz h0;simp[Ex.bC,hk,hA,hB,hC,hD,hE,h0,hn,hz h0];obtain⟨j,h1,h2⟩:=fZ (Ex.vB w (n-1)) e.kids;have w1:IntKind.i64.wrap ((n:Int)-1)=n-1:=wrO
   have rd:∀ (i:Nat) (k:Ex),e.kids[i]?=some k→k∈e.kids→i<e.kids.length∧fH (Ex.aB e.kids) i=some k.cells∧aH C0 188 [.i (.iref k.cells), .int w, .int ((n:Int)-1)] []=some (.bool (Ex.vB w (n-1) k),[]) :=
    fun i k a b=>⟨(zY.1 a).1,Ex.aR a,ih k b h0⟩
   have hlen:e.kids.length≤2:=by have:dB e.kind≤2:=by
                                  unfold dB;split;· omega
                                  split;· omega
                                  split<;>omega
                                 omega
   rw[aT (VX e w n) j (by simp[VX])]
   ·rw[aF]
    rcases h2 with ⟨hj,ha⟩|⟨k,h3,h4,h5,ha⟩
    ·have l1:¬ ((j:Int)<dB e.kind):=by omega
     simp[VX,l1,ha]
    ·obtain⟨r1,r2,r3⟩:=rd j k h3 h4;have l1:(j:Int)<dB e.kind:=by omega
     rw[Ex.aA]at r2 r3;simp[VX,l1,r1,ha,r2,r3,w1,h5]
   ·intro i hi;obtain⟨k,h3,h4,h5⟩:=h1 i hi;obtain⟨r1,r2,r3⟩:=rd i k h3 h4;have l1:(i:Int)<dB e.kind:=by omega
    have w2:IntKind.i64.wrap ((i:Int)+1)=i+1:=wrO;rw[Ex.aA]at r2 r3;simp[VX,l1,r1,r2,r3,w1,w2,h5]
  ·have h2:e.kids=[]:=by cases h:e.kids with
    | nil=>rfl
    | cons a l=>rw[h]at hk;simp at hk;omega
   rw[h2]at hk;simp at hk;simp[h2,Ex.aB,hA,hB,hC,hD,hE,← hk];rw[aF];simp
@[simp] theorem D7 {w:Int}:∀ (n:Nat) (e:Ex),n≤8→aH C0 188 [.i (.iref e.cells), .int w, .int n] []=some (.bool (Ex.vB w n e),[])
  | 0,e,hn=>by
   by_cases hk:(e.kids.length:Int)=dB e.kind
   ·by_cases hz:0<dB e.kind
    ·rw[show((0:Nat):Int)=0 from rfl,AT3 hk hz];simp[Ex.vB,zG8.2 hz]
    ·cases hh:e.headOk w with
     | false=>rw[AHW 0 hk (fun h=>absurd h hz) hh];simp[Ex.vB,hh]
     | true =>
      rw[AY3 0 hn hk (fun h=>absurd h hz) hh (fun k _ h=>absurd h hz)]
      have:e.kids=[]:=by cases h:e.kids with
       | nil=>rfl
       | cons a l=>rw[h]at hk;simp at hk;omega
      have h3:dB e.kind=0:=by rw[this]at hk;simpa using hk.symm
      simp[Ex.vB,hh,h3,this]
   ·rw[AR0 0 hk];simp[Ex.vB,hk]
  | n+1,e,hn=>by
   by_cases hk:(e.kids.length:Int)=dB e.kind
   ·cases hh:e.headOk w with
    | false=>rw[AHW (n+1) hk (fun _=>by omega) hh];simp[Ex.vB,hh]
    | true =>
     rw[AY3 (n+1) hn hk (fun _=>by omega) hh (fun k _ _=>by
      have:=D7 (w:=w) n k (by omega);rw[show(((n+1:Nat):Int)-1)=(n:Int)by omega]
      exact this)]
     simp[Ex.vB,hh,hk]
   ·rw[AR0 (n+1) hk];simp[Ex.vB,hk]
theorem AQZ {e:Ex} {w:Int} (n:Nat) (hk:¬ (e.kids.length:Int)=dB e.kind):aH C0 152 [.i (.agg e.cells), .int w, .int n] []=some (.bool false,[]):=by
 rw[aD rfl Tryz.func152 rfl rfl,Ex.aA];simp[hk]
theorem AT2 {e:Ex} {w:Int} (hk:(e.kids.length:Int)=dB e.kind) (hz:0<dB e.kind):aH C0 152 [.i (.agg e.cells), .int w, .int 0] []=some (.bool false,[]):=by
 rw[aD rfl Tryz.func152 rfl rfl,Ex.aA];simp[hk,hz]
def EX (e:Ex) (w n:Int) (v:AV) (i:Nat):AS :=
 { env:=[(0, .i (.agg [.int e.kind, .int e.col, .bool e.val.null, .int e.val.n, .isl (Ex.aB e.kids)])),(1, .int w),(2, .int n),(3, .own 0 0),(6, .bool false),(7, .int i),(24,v),(29,jk i (.bool true)),(41,jk i (.bool false)),(43, .junk),(44, .junk),(57, .junk)],
   st:=[some (.box [.int e.kind, .int e.col, .bool e.val.null, .int e.val.n, .i (.isl (Ex.aB e.kids))])] }
theorem AY2 {e:Ex} {w:Int} (n:Nat) (hn:n≤8) (hk:(e.kids.length:Int)=dB e.kind) (hz:0<dB e.kind→n≠0)  (hw:1≤w∧w≤6)
 (ih:∀ k∈e.kids,0<dB e.kind→aH C0 152 [.i (.agg k.cells), .int w, .int ((n:Int)-1)] []=some (.bool (Ex.vB w (n-1) k),[])) :
  aH C0 152 [.i (.agg e.cells), .int w, .int n] []=some (.bool (e.kids.all (Ex.vB w (n-1)) && e.headOk w),[]):=by
 rw[aD rfl Tryz.func152 rfl rfl,Ex.aA];have w0:IntKind.i64.wrap (w-1)=w-1:=wrO;by_cases h0:0<dB e.kind
 ·have hn:=hz h0;simp[hk,h0,hn];obtain⟨j,h1,h2⟩:=fZ (Ex.vB w (n-1)) e.kids;have w1:IntKind.i64.wrap ((n:Int)-1)=n-1:=wrO
  have rd:∀ (i:Nat) (k:Ex),e.kids[i]?=some k→k∈e.kids→i<e.kids.length∧fH (Ex.aB e.kids) i=some k.cells∧aH C0 152 [.i (.agg k.cells), .int w, .int ((n:Int)-1)] []=some (.bool (Ex.vB w (n-1) k),[]) :=
   fun i k a b=>⟨(zY.1 a).1,Ex.aR a,ih k b h0⟩
  have hlen:e.kids.length≤2:=by have:dB e.kind≤2:=by
                                 unfold dB;split;· omega
                                 split;· omega
                                 split<;>omega
                                omega
  have hk1:e.kind≠1:=fun h=>by rw[h]at h0;simp[dB]at h0
  have hk2:e.kind≠2:=fun h=>by rw[h]at h0;simp[dB]at h0
  rw[aT (EX e w n (.bool ((n:Int) == 0)) ) j (by simp[EX])]
  ·rw[aF]
   rcases h2 with ⟨hj,ha⟩|⟨k,h3,h4,h5,ha⟩
   ·have l1:¬ ((j:Int)<dB e.kind):=by omega
    by_cases h6:e.col=0
    ·cases h7:e.val.null with
     | true=>simp[EX,l1,hk,ha,Ex.headOk,hk1,hk2,h6,h7]
     | false=>simp[EX,l1,hk,ha,Ex.headOk,hk1,hk2,h6,h7]
    ·simp[EX,l1,hk,ha,Ex.headOk,hk1,hk2,h6]
   ·obtain⟨r1,r2,r3⟩:=rd j k h3 h4;have l1:(j:Int)<dB e.kind:=by omega
    rw[Ex.aA]at r2 r3;simp[EX,l1,r1,hk,ha,r2,r3,w1,h5]
  ·intro i hi;obtain⟨k,h3,h4,h5⟩:=h1 i hi;obtain⟨r1,r2,r3⟩:=rd i k h3 h4;have l1:(i:Int)<dB e.kind:=by omega
   have w2:IntKind.i64.wrap ((i:Int)+1)=i+1:=wrO;rw[Ex.aA]at r2 r3;simp[EX,l1,r1,hk,r2,r3,w1,w2,h5]
 ·have h2:e.kids=[]:=by cases h:e.kids with
   | nil=>rfl
   | cons a l=>rw[h]at hk;simp at hk;omega
  rw[h2]at hk;simp at hk;simp[h2,Ex.aB,← hk];rw[aF];by_cases h1:e.kind=1
  ·by_cases h4:0≤e.col
   ·by_cases h5:e.col<w
    ·cases h7:e.val.null with
     | true=>simp[h1,w0,Ex.headOk,h4,h5,h7,show e.col≤w-1 by omega]
     | false=>simp[h1,w0,Ex.headOk,h4,h5,h7,show e.col≤w-1 by omega]
    ·simp[h1,w0,Ex.headOk,h4,h5,show ¬ e.col≤w-1 by omega]
   ·simp[h1,w0,Ex.headOk,h4]
  ·by_cases h3:e.kind=2
   ·by_cases h4:e.col=0
    ·simp[h3,Ex.headOk,h4]
    ·simp[h3,Ex.headOk,h4]
   ·by_cases h4:e.col=0
    ·cases h7:e.val.null with
     | true=>simp[h1,h3,Ex.headOk,h4,h7]
     | false=>simp[h1,h3,Ex.headOk,h4,h7]
    ·simp[h1,h3,Ex.headOk,h4]
theorem GL {w:Int} (hw:1≤w∧w≤6):∀ (n:Nat) (e:Ex),n≤8→aH C0 152 [.i (.agg e.cells), .int w, .int n] []=some (.bool (Ex.vB w n e),[])
 | 0,e,hn=>by
  by_cases hk:(e.kids.length:Int)=dB e.kind
  ·by_cases hz:0<dB e.kind
   ·rw[show((0:Nat):Int)=0 from rfl,AT2 hk hz];simp[Ex.vB,zG8.2 hz]
   ·rw[AY2 0 hn hk (fun h=>absurd h hz) hw (fun k _ h=>absurd h hz)]
    have:e.kids=[]:=by cases h:e.kids with
     | nil=>rfl
     | cons a l=>rw[h]at hk;simp at hk;omega
    have h3:dB e.kind=0:=by rw[this]at hk;simpa using hk.symm
    simp[Ex.vB,h3,this]
  ·rw[AQZ 0 hk];simp[Ex.vB,hk]
 | n+1,e,hn=>by
  by_cases hk:(e.kids.length:Int)=dB e.kind
  ·rw[AY2 (n+1) hn hk (fun _=>by omega) hw (fun k _ _=>by
      have:=GL (w:=w) hw n k (by omega);rw[show(((n+1:Nat):Int)-1)=(n:Int)by omega]
      exact this)]
   simp[Ex.vB,hk,zF9]
  ·rw[AQZ (n+1) hk];simp[Ex.vB,hk]
theorem ok_eq (w:Int) (e:Ex):aH C0 156 [.i (.agg e.cells), .int w] []=some (.bool (e.ok w),[]):=by
 rw[aD rfl Tryz.func156 rfl rfl];have h:=D7 (w:=w) 8 e (by omega);rw[Ex.aA]at h ⊢;have e8:((8:Nat):Int)=8:=rfl;rw[e8]at h
 cases hw:bG w with
 | false=>simp[hw,Ex.ok]
 | true=>simp[hw,Ex.ok,h]
theorem VK (w:Int) (e:Ex):aH C0 97 [.i (.agg e.cells), .int w] []=some (.bool (e.ok w),[]):=by
 rw[aD rfl Tryz.func97 rfl rfl];by_cases hw:1≤w∧w≤6
 ·have h:=GL hw 8 e (by omega);rw[Ex.aA]at h ⊢;have e8:((8:Nat):Int)=8:=rfl;rw[e8]at h;simp[hw,Ex.ok,bG,h]
 ·rw[Ex.aA];simp[hw,Ex.ok,bG]
theorem APX {a b:Ex} (ih:aH C0 35 [.i (.isl (Ex.aB a.kids)), .i (.isl (Ex.aB b.kids))] []=some (.bool (Ex.rM a.kids b.kids),[])) :
 aH C0 79 [.i (.agg a.cells), .i (.agg b.cells)] []=some (.bool (a.eqb b),[]):=by
 rw[aD rfl Tryz.func79 rfl rfl,Ex.aA,Ex.aA,Ex.AB8];by_cases h1:a.kind=b.kind
 ·by_cases h2:a.col=b.col
  ·cases h3:(a.val.null == b.val.null && a.val.n == b.val.n)with
   | true=>simp[h1,h2,h3,ih]
   | false=>simp[h1,h2,h3]
  ·simp[h1,h2]
 ·simp[h1]
def LX (l m:List Ex) (i:Nat):AS :=
 { env:=[(0, .i (.isl (Ex.aB l))),(1, .i (.isl (Ex.aB m))),(4, .bool false),(5, .int i),(10, .bool false),(14,jk i (.bool true)),(26,jk i (.bool false))],st:=[] }
theorem ADF {l m:List Ex} (hl:l.length<1000000000) (ih:∀ a∈l,∀ b,aH C0 79 [.i (.agg a.cells), .i (.agg b.cells)] []=some (.bool (a.eqb b),[])) :
 aH C0 35 [.i (.isl (Ex.aB l)), .i (.isl (Ex.aB m))] []=some (.bool (Ex.rM l m),[]):=by
 rw[aD rfl Tryz.func35 rfl rfl];by_cases hlm:l.length=m.length
 ·simp[hlm];obtain⟨j,h1,h2⟩:=Ex.vZ l m hlm;rw[aT (LX l m) j (by simp[LX])]
  ·rw[aF]
   rcases h2 with ⟨hj,ha⟩|⟨a,b,k1,k2,k3,k4,ha⟩
   ·simp[LX,hj,hlm,ha]
   ·have r1:=(zY.1 k1).1;have r2:=(zY.1 k2).1;have s1:=Ex.aR k1;have s2:=Ex.aR k2;have hc:=ih a k3 b;rw[Ex.aA]at s1 s2;rw[Ex.aA,Ex.aA]at hc;simp[LX,r1,r2,s1,s2,ha,hc,k4]
  ·intro i hi;obtain⟨a,b,k1,k2,k3,k4⟩:=h1 i hi;have r1:=(zY.1 k1).1;have r2:=(zY.1 k2).1;have s1:=Ex.aR k1;have s2:=Ex.aR k2;have hc:=ih a k3 b;have w2:IntKind.i64.wrap ((i:Int)+1)=i+1:=wrO;rw[Ex.aA]at s1 s2;rw[Ex.aA,Ex.aA]at hc;simp[LX,r1,r2,s1,s2,hc,k4,w2]
 ·simp[show ¬ (l.length:Int)=m.length by omega,Ex.EM l m hlm]
theorem TP:∀ (a:Ex),a.thin→∀ b:Ex,aH C0 79 [.i (.agg a.cells), .i (.agg b.cells)] []=some (.bool (a.eqb b),[]):=by
 intro a
 induction a using Ex.ind with
 | h k c v ks ih =>
  intro ht b;have ht':=(Ex.bT _).1 ht;exact APX (ADF ht'.1 fun a ha b=>ih a ha (ht'.2 a ha) b)
theorem bB:IntKind.i64.wrap 1=1:=wrO
def CX (e:Ex) (i:Nat):AS :=
 { env:=[(0, .i (.agg [.int e.kind, .int e.col, .bool e.val.null, .int e.val.n, .isl (Ex.aB e.kids)])),(1, .own 0 0),(2, .own 1 0),(3, .own 2 0),(4, .int i),(16,jk i (.bool true))],
   st:=some (.box [.int e.kind, .int e.col, .bool e.val.null, .int e.val.n, .i (.isl (Ex.aB e.kids))])::some (.box [.int 0, .int 0, .bool false, .int 0, .nils]) ::
    some (.box [.int e.kind, .int e.col, .bool e.val.null, .int e.val.n,gro 3 5 i])::vT 5 (Ex.aB (e.kids.take i)) i }
theorem AVV {e:Ex} (hl:e.kids.length<1000000000) (ih:∀ a∈e.kids,aH C0 172 [.i (.agg a.cells)] []=some (.i (.agg a.cells),[])) :
 aH C0 172 [.i (.agg e.cells)] []=some (.i (.agg e.cells),[]):=by
 rw[aD rfl Tryz.func172 rfl rfl,Ex.aA];simp;rw[aT (CX e) e.kids.length (by simp[CX])]
 ·rw[aF]
  cases hn:e.kids.length with
  | zero =>
   have:e.kids=[]:=zW.1 hn;simp[CX,this,Ex.aB]
  | succ n =>
   have:e.kids.take (n+1)=e.kids:=zZ (by omega);simp[CX,hn,this]
 ·intro i hi;have h3:=zX hi;have hc:=ih _ (zV h3);have r2:=Ex.aR h3;generalize e.kids[i]=a at h3 hc r2;have w2:IntKind.i64.wrap ((i:Int)+1)=i+1:=wrO;by_cases h0:i=0
  ·subst h0;simp[CX,hi,r2,hc,bB,aO h3,Ex.aB]
  ·simp[CX,aL h0,aI h0,dK h0,hi,r2,hc,w2,aO h3,Ex.bF,show min i e.kids.length=i by omega,show(i+1)*56≤140737488355328 by omega,zF]
theorem BU:∀ (e:Ex),e.thin→aH C0 172 [.i (.agg e.cells)] []=some (.i (.agg e.cells),[]):=by
 intro e
 induction e using Ex.ind with
 | h k c v ks ih =>
  intro ht;have ht':=(Ex.bT _).1 ht;exact AVV ht'.1 fun a ha=>ih a ha (ht'.2 a ha)
def SX (e:Ex) (l:List Ex) (f:Ex→Ex) (i:Nat):AS :=
 { env:=[(0, .i (.agg [.int e.kind, .int e.col, .bool e.val.null, .int e.val.n, .isl (Ex.aB e.kids)])),(1, .i (.isl (Ex.aB l))),(2, .own 0 0),(4, .own 1 0),(5, .own 2 0),(6, .int i),(9, .bool false),(27,jk i (.bool true))],
   st:=some (.box [.int e.kind, .int e.col, .bool e.val.null, .int e.val.n, .i (.isl (Ex.aB e.kids))])::some (.box [.int 0, .int 0, .bool false, .int 0, .nils]) ::
    some (.box [.int e.kind, .int e.col, .bool e.val.null, .int e.val.n,gro 3 5 i])::vT 5 (Ex.aB ((e.kids.take i).map f)) i }
theorem uX {e b:Ex} {l:List Ex} (h1:e.kind=1) (h0:0≤e.col) (hb:l[e.col.toNat]?=some b) (ht:b.thin) :
 aH C0 127 [.i (.agg e.cells), .i (.isl (Ex.aB l))] []=some (.i (.agg b.cells),[]):=by
 rw[aD rfl Tryz.func127 rfl rfl,Ex.aA];have hc:=BU b ht;have r2:=Ex.aR hb;have r1:=(zY.1 hb).1;rw[Ex.aA]at hc r2 ⊢;simp[h1,h0,r2,hc,show e.col<l.length by omega]
theorem ANU {e:Ex} {l:List Ex} {f:Ex→Ex} (h1:e.kind≠1) (hl:e.kids.length<1000000000) (ih:∀ a∈e.kids,aH C0 127 [.i (.agg a.cells), .i (.isl (Ex.aB l))] []=some (.i (.agg (f a).cells),[])) :
 aH C0 127 [.i (.agg e.cells), .i (.isl (Ex.aB l))] []=some (.i (.agg (Ex.mk e.kind e.col e.val (e.kids.map f)).cells),[]):=by
 rw[aD rfl Tryz.func127 rfl rfl,Ex.aA];simp[h1];rw[aT (SX e l f) e.kids.length (by simp[SX,h1])]
 ·rw[aF]
  cases hn:e.kids.length with
  | zero =>
   have:e.kids=[]:=zW.1 hn;simp[SX,this,Ex.aB,Ex.cells]
  | succ n =>
   have:e.kids.take (n+1)=e.kids:=zZ (by omega);simp[SX,hn,this,Ex.cells,← List.map_take]
 ·intro i hi;have h3:=zX hi;have hc:=ih _ (zV h3);have r2:=Ex.aR h3;generalize e.kids[i]=a at h3 hc r2;have w2:IntKind.i64.wrap ((i:Int)+1)=i+1:=wrO;by_cases h0:i=0
  ·subst h0;simp[SX,hi,r2,hc,bB,aO h3,Ex.aB]
  ·simp[SX,aL h0,aI h0,dK h0,hi,r2,hc,w2,aO h3,Ex.bF,show min i e.kids.length=i by omega,show(i+1)*56≤140737488355328 by omega,← List.map_take,zF]
theorem nV (l:List Ex) (hlt:∀ b∈l,b.thin):∀ (e:Ex),e.thin→e.ABF l.length→aH C0 127 [.i (.agg e.cells), .i (.isl (Ex.aB l))] []=some (.i (.agg (e.sub l).cells),[]):=by
 intro e
 induction e using Ex.ind with
 | h k c v ks ih =>
  intro ht hc;have ht':=(Ex.bT _).1 ht;have hc':=(Ex.YJ _ _).1 hc;by_cases hk:k=1
  ·obtain⟨h0,h1⟩:=hc'.1 hk;have hi:c.toNat<l.length:=by simp[Ex.col]at h0 h1;omega
   have hb:=zX hi;rw[Ex.uX l (e:=.mk k c v ks) hk hb];exact uX hk h0 hb (hlt _ (xY hi))
  ·rw[Ex.uW l (e:=.mk k c v ks) hk];exact ANU hk ht'.1 fun a ha=>ih a ha (ht'.2 a ha) (hc'.2 hk a ha)
def HX (e:Ex) (i:Nat):AS :=
 { env:=[(0, .i (.iref [.int e.kind, .int e.col, .bool e.val.null, .int e.val.n, .isl (Ex.aB e.kids)])),(2, .int 0),(3, .int (Ex.htL (e.kids.take i):Nat)),(4,jk i (.int (i-1))),(9, .int e.kids.length),(10, .int i),(11,jk i (.bool true))],st:=[] }
theorem AAS {e:Ex} (hs:e.size<1000000000) (ih:∀ k∈e.kids,aH C0 160 [.i (.iref k.cells)] []=some (.int (k.ht:Nat),[])) :
 aH C0 160 [.i (.iref e.cells)] []=some (.int (e.ht:Nat),[]):=by
 rw[aD rfl Tryz.func160 rfl rfl,Ex.aA];simp;have hl:=Ex.dR e.kids;rw[Ex.size_eq]at hs;rw[aT (HX e) e.kids.length (by simp[HX,Ex.htL])]
 ·rw[aF];simp[HX,Ex.APL e]
 ·intro i hi;have h3:=zX hi;have hm:=zV h3;have hc:=ih _ hm;have r2:=Ex.aR h3;have hz:=Ex.l8 hm;generalize e.kids[i]=a at h3 hc r2 hz;have ha:=Ex.AL1 a;have w2:IntKind.i64.wrap ((i:Int)+1)=i+1:=wrO;have w1:IntKind.i64.wrap (1+(a.ht:Int))=1+a.ht:=wrO;rw[Ex.aA]at hc r2;have hmax:Ex.htL (e.kids.take (i+1))=max (Ex.htL (e.kids.take i)) (1+a.ht):=by rw[aO h3,Ex.AD1]
  by_cases hg:1+a.ht > Ex.htL (e.kids.take i)
  ·simp[HX,hi,r2,hc,w1,w2,hmax,show max (Ex.htL (e.kids.take i)) (1+a.ht)=1+a.ht by omega,show(Ex.htL (e.kids.take i):Int)<1+a.ht by omega]
  ·simp[HX,hi,r2,hc,w1,w2,hmax,show max (Ex.htL (e.kids.take i)) (1+a.ht)=Ex.htL (e.kids.take i)by omega,show ¬ (Ex.htL (e.kids.take i):Int)<1+a.ht by omega]
theorem AL6:∀ (e:Ex),e.size<1000000000→aH C0 160 [.i (.iref e.cells)] []=some (.int (e.ht:Nat),[]):=by
 intro e
 induction e using Ex.ind with
 | h k c v ks ih =>
  intro hs;exact AAS hs fun a ha=>ih a ha (by have:=Ex.l8 ha;simp only[Ex.size,Ex.kids]at hs this;omega)
theorem APT {e:Ex} {hs:List Nat} {n:Int} (hn:n<0):aH C0 161 [.i (.iref e.cells), .i (.isl (rW hs)), .int n] []=some (.bool false,[]):=by
 rw[aD rfl Tryz.func161 rfl rfl,Ex.aA];simp[hn]
theorem APU {e:Ex} {hs:List Nat} {n:Int} {h:Nat} (hn:0≤n) (hk:e.kind=1) (hks:e.kids=[]) (h0:0≤e.col) (hh:hs[e.col.toNat]?=some h) :
 aH C0 161 [.i (.iref e.cells), .i (.isl (rW hs)), .int n] []=some (.bool (decide ((h:Int)≤n)),[]):=by
 rw[aD rfl Tryz.func161 rfl rfl,Ex.aA];have r2:=X4 hh;have r1:=(zY.1 hh).1;by_cases hc:n<h
 ·simp[zC2.2 hn,hk,h0,r2,hc,show e.col<hs.length by omega]
 ·simp[zC2.2 hn,hk,h0,r2,hc,zC2.1 hc,show e.col<hs.length by omega,hks,Ex.aB];rw[aF];simp
def FX (e:Ex) (hs:List Nat) (n:Int) (i:Nat):AS :=
 { env:=[(0, .i (.iref [.int e.kind, .int e.col, .bool e.val.null, .int e.val.n, .isl (Ex.aB e.kids)])),(1, .i (.isl (rW hs))),(2, .int n),(6, .bool false),(7,jk i (.int (i-1))),(27, .bool false),(32, .int e.kids.length),(33, .int i),(34,jk i (.bool true)),(46,jk i (.bool false))],st:=[] }
theorem ALB {e:Ex} {hs:List Nat} {n:Int} (hn:0≤n) (hn8:n≤8) (hl:e.kids.length<1000000000) (hk:e.kind≠1)
 (ih:∀ k∈e.kids,aH C0 161 [.i (.iref k.cells), .i (.isl (rW hs)), .int (n-1)] []=some (.bool (decide ((k.htS hs:Int)≤n-1)),[])) :
  aH C0 161 [.i (.iref e.cells), .i (.isl (rW hs)), .int n] []=some (.bool (e.kids.all fun k=>decide ((k.htS hs:Int)≤n-1)),[]):=by
 rw[aD rfl Tryz.func161 rfl rfl,Ex.aA];simp[zC2.2 hn,hk];obtain⟨j,h1,h2⟩:=fZ (fun k:Ex=>decide ((k.htS hs:Int)≤n-1)) e.kids;have w1:IntKind.i64.wrap (n-1)=n-1:=wrO;rw[aT (FX e hs n) j (by simp[FX])]
 ·rw[aF]
  rcases h2 with ⟨hj,ha⟩|⟨k,h3,h4,h5,ha⟩
  ·simp[FX,hj,ha]
  ·have r1:=(zY.1 h3).1;have r2:=Ex.aR h3;have r3:=ih k h4;rw[Ex.aA]at r2 r3;rw[h5]at r3;simp[FX,r1,ha,r2,r3,w1]
 ·intro i hi;obtain⟨k,h3,h4,h5⟩:=h1 i hi;have r1:=(zY.1 h3).1;have r2:=Ex.aR h3;have r3:=ih k h4;have w2:IntKind.i64.wrap ((i:Int)+1)=i+1:=wrO;rw[Ex.aA]at r2 r3;rw[h5]at r3;simp[FX,r1,r2,r3,w1,w2]
theorem AVI {m:Int} {hs:List Nat} (hm:m=hs.length):∀ (e:Ex),e.wf m=true→e.size<1000000000→∀ n:Int,n≤8→aH C0 161 [.i (.iref e.cells), .i (.isl (rW hs)), .int n] []=some (.bool (decide ((e.htS hs:Int)≤n)),[]):=by
 intro e
 induction e using Ex.ind with
 | h k c v ks ih =>
  intro hw hs' n hn;by_cases h0:n<0
  ·rw[APT h0,show decide ((Ex.htS hs (.mk k c v ks):Int)≤n)=false by simp;omega]
  ·by_cases hk:k=1
   ·obtain⟨c0,c1,ck⟩:=Ex.oP hw hk;have hi:c.toNat<hs.length:=by simp[Ex.col]at c0 c1;omega
    have hb:=zX hi;rw[Ex.AL3 hs (e:=.mk k c v ks) (h:=hs[c.toNat]) hk hb];exact APU (by omega) hk ck c0 hb
   ·have hl:=Ex.dR ks;have hsz:Ex.cZ ks<1000000000:=by simp[Ex.size]at hs';omega
    have hn0:=zC2.1 h0;rw[ALB (e:=.mk k c v ks) (n:=n) hn0 hn (by simp only[Ex.kids];omega) hk fun x hx=>ih x hx (Ex.iZ hw hx) (by have:=Ex.l8 hx;simp only[Ex.kids]at this;omega) (n-1) (by omega)];rw[Ex.AL2 hs (e:=.mk k c v ks) hk]
    suffices hsf:(ks.all fun x=>decide ((x.htS hs:Int)≤n-1))=decide ((Ex.AN8 hs ks:Int)≤n)by simp only[Ex.kids];rw[hsf];rfl
    rw[zD0];have:=Ex.AL4 hs (n:=n.toNat) ks;simp only[zR,zS];constructor
    ·intro h;have h2:=this.2 fun x hx=>by have:=h x hx;omega
     omega
    ·intro h x hx;have h2:=this.1 (by omega) x hx;omega
@[simp] theorem YF {e:Ex} (h:e.size<1000000000):aH C0 61 [.i (.iref e.cells)] []=some (.i (.agg e.cells),[]):=by
  rw[aN (p:=N8) rfl];exact ADN h
theorem ANW {e b:Ex} {l:List Ex} (hk:e.kind=1) (h0:0≤e.col) (hb:l[e.col.toNat]?=some b) (hs:b.size<1000000000) :
 aH C0 162 [.i (.iref e.cells), .own 0 0] [some (.box [.i (.isl (Ex.aB l))])]=some (.i (.agg b.cells),[some (.box [.i (.isl (Ex.aB l))])]):=by
 rw[aD rfl Tryz.func162 rfl rfl];have hc:=YF hs;have r2:=Ex.aR hb;have r1:=(zY.1 hb).1;rw[Ex.aA]at hc r2 ⊢;rw[Ex.aA];simp[hk,h0,r2,hc,show e.col<l.length by omega]
theorem ANV {e:Ex} {l:List Ex} (hk:e.kind≠1) (hs:e.size<1000000000) :
 aH C0 162 [.i (.iref e.cells), .own 0 0] [some (.box [.i (.isl (Ex.aB l))])]=some (.i (.agg e.cells),[some (.box [.i (.isl (Ex.aB l))])]):=by
 rw[aD rfl Tryz.func162 rfl rfl];have hc:=YF hs;rw[Ex.aA]at hc ⊢;simp[hk,hc]
def AWS:List IV:=[.int 0, .int 0, .bool false, .int 0, .isl []]
def RX (e:Ex) (l:List Ex) (f:Ex→Ex) (i:Nat):AS :=
 { env:=[(0, .i (.iref [.int e.kind, .int e.col, .bool e.val.null, .int e.val.n, .isl (Ex.aB e.kids)])),(1, .fn (.func 162) [.own 0 0]),(4, .own 1 0),(5, .own 2 0),(6,jk i (.int (i-1))),(12, .bool ((e.kids.length:Int) == 0)),(39, .int e.kids.length),(40, .int i),(41,jk i (.bool true))],
   st:=[some (.box [.i (.isl (Ex.aB l))]),some (.box [.int 0, .int 0, .bool false, .int 0, .nils]),some (.box [.int e.kind, .int e.col, .bool e.val.null, .int e.val.n, .osl 3 5 0 e.kids.length]),some (.arr 5 (Ex.aB ((e.kids.map f).take i)++List.replicate (e.kids.length-i) AWS))] }
theorem AOM {e:Ex} {l:List Ex} {f:Ex→Ex} (hk:e.kids≠[]) (hl:e.kids.length<1000000000) (ih:∀ a∈e.kids,aH C0 157 [.i (.iref a.cells), .fn (.func 162) [.own 0 0]] [some (.box [.i (.isl (Ex.aB l))])]=some (.i (.agg (f a).cells),[some (.box [.i (.isl (Ex.aB l))])])) :
 aH C0 157 [.i (.iref e.cells), .fn (.func 162) [.own 0 0]] [some (.box [.i (.isl (Ex.aB l))])]=some (.i (.agg (Ex.mk e.kind e.col e.val (e.kids.map f)).cells),[some (.box [.i (.isl (Ex.aB l))])]):=by
 rw[aD rfl Tryz.func157 rfl rfl,Ex.aA];have hb:56*(e.kids.length:Int)≤281474976710656:=by omega
 simp[hk,hb];rw[aT (RX e l f) e.kids.length (by simp[RX,Ex.aB,AWS])]
 ·rw[aF];have ht:(e.kids.map f).take e.kids.length=e.kids.map f:=zZ (by simp);simp[RX,Ex.cells,ht]
 ·intro i hi;have h3:=zX hi;have hm:=zV h3;have hc:=ih _ hm;have r2:=Ex.aR h3;generalize e.kids[i]=a at h3 hc r2;have w2:IntKind.i64.wrap ((i:Int)+1)=i+1:=wrO;rw[Ex.aA]at hc r2;have hD:(Ex.aB ((e.kids.map f).take i)).length=i:=by simp;omega
  have hS:Ex.aB ((e.kids.map f).take i)++[(f a).cells]=Ex.aB ((e.kids.map f).take (i+1)):=by rw[aO (a:=f a) (by simp[h3]),Ex.bF]
  have g1:=JD (n:=e.kids.length) (z:=AWS) hD hi;have g2:=JC (n:=e.kids.length) (z:=AWS) (x:=(f a).cells) hD hi;have g3:splice AWS 0 (f a).cells=some (f a).cells:=wQ (by simp[AWS]);rw[hS]at g2;simp[RX,hi,r2,hc,w2,g1,g2,g3]
theorem ACB {e x:Ex} {l:List Ex} (hk:e.kids=[]) (h:aH C0 162 [.i (.iref e.cells), .own 0 0] [some (.box [.i (.isl (Ex.aB l))])]=some (.i (.agg x.cells),[some (.box [.i (.isl (Ex.aB l))])])) :
 aH C0 157 [.i (.iref e.cells), .fn (.func 162) [.own 0 0]] [some (.box [.i (.isl (Ex.aB l))])]=some (.i (.agg x.cells),[some (.box [.i (.isl (Ex.aB l))])]):=by
 rw[aD rfl Tryz.func157 rfl rfl];rw[Ex.aA e]at h ⊢;rw[Ex.aA x]at h ⊢;simp[hk,Ex.aB]at h ⊢;simp[h]
theorem VZ {m:Int} (l:List Ex) (hm:m=l.length) (hl:∀ b∈l,b.size<1000000000):∀ (e:Ex),e.wf m=true→e.size<1000000000 →
 aH C0 157 [.i (.iref e.cells), .fn (.func 162) [.own 0 0]] [some (.box [.i (.isl (Ex.aB l))])]=some (.i (.agg (e.sub l).cells),[some (.box [.i (.isl (Ex.aB l))])]):=by
 intro e
 induction e using Ex.ind with
 | h k c v ks ih =>
  intro hw hs;have hsz:=hs;rw[Ex.size_eq]at hsz;have hkl:=Ex.dR ks;by_cases hk:k=1
  ·obtain⟨c0,c1,ck⟩:=Ex.oP hw hk;have hi:c.toNat<l.length:=by simp[Ex.col]at c0 c1;omega
   have hb:=zX hi;rw[Ex.uX l (e:=.mk k c v ks) hk hb];exact ACB ck (ANW (e:=.mk k c v ks) hk c0 hb (hl _ (xY hi)))
  ·cases ks with
   | nil =>
    have hn:=ANV (e:=.mk k c v []) (l:=l) hk hs;rw[Ex.uW l (e:=.mk k c v []) hk];exact ACB (e:=.mk k c v []) rfl hn
   | cons a ks =>
    rw[Ex.uW l (e:=.mk k c v (a::ks)) hk];refine AOM (e:=.mk k c v (a::ks)) (by simp[Ex.kids]) (by simp only[Ex.kids]at hsz ⊢;omega) fun x hx=>ih x hx (Ex.iZ hw hx) ?_
    have:=Ex.l8 hx;omega
end Go.Proofs.YtnmimmaahhlgeaaGreat
namespace Go.Av
def Ex.subst (e:Ex) (l:List Ex) (w:Int):Option Ex:=if e.ok l.length && (l.all (Ex.ok w) && (e.sub l).ok w)then some (e.sub l)else none
def AU8:Option Ex→AV
 | some e=>.tup [.i (.agg e.cells), .bool true]
 | none=>.tup [.i (.agg Ex.zero.cells), .bool false]
theorem aX:Ex.zero.cells=[.int 0, .int 0, .bool false, .int 0, .isl []]:=by simp[Ex.zero,Ex.cells,Ex.aB,Val.zero]
end Go.Av
namespace Go.Proofs.YtnmimmaahhlgeaaGreat
open Go Go.Av
set_option maxRecDepth 4000
theorem AUX {e:Ex} {l:List Ex} {w:Int} (h:e.ok l.length=false):aH C0 115 [.i (.agg e.cells), .i (.isl (Ex.aB l)), .int w] []=some (AU8 (e.subst l w),[]):=by
 rw[aD rfl Tryz.func115 rfl rfl];have hc:=ok_eq l.length e;rw[h]at hc;rw[Ex.aA e]at hc ⊢;simp[hc,Ex.subst,h,AU8,aX]
theorem PT:∀ (hs:List Nat) (h:Nat),rW hs++[[.int h]]=rW (hs++[h])
 | [],_=>rfl
 | _::hs,h=>by simp[rW,PT hs h]
def IX (e:Ex) (l:List Ex) (w:Int) (i:Nat):AS :=
 { env:=[(0, .i (.agg [.int e.kind, .int e.col, .bool e.val.null, .int e.val.n, .isl (Ex.aB e.kids)])),(1, .i (.isl (Ex.aB l))),(2, .int w),(3, .own 0 0),(4, .own 1 0),(6, .own 2 0),(7, .bool false),(8, .osl 3 1 0 l.length),(9,jk i (.int (i-1))),(14, .bool false),(20, .int l.length),(21, .int i),(22,jk i (.bool true)),(30,jk i (.bool false)),(42, .junk)],
   st:=[some (.box [.int e.kind, .int e.col, .bool e.val.null, .int e.val.n, .i (.isl (Ex.aB e.kids))]),some (.box [.i (.isl (Ex.aB l))]),some (.box [.int 0, .int 0, .bool false, .int 0, .nils]),some (.arr 1 (rW ((l.map Ex.ht).take i)++List.replicate (l.length-i) [.int 0]))] }
theorem AUY {e:Ex} {l:List Ex} {w:Int} (h:e.ok l.length=true):aH C0 115 [.i (.agg e.cells), .i (.isl (Ex.aB l)), .int w] []=some (AU8 (e.subst l w),[]):=by
 rw[aD rfl Tryz.func115 rfl rfl];have hc:=ok_eq l.length e;rw[h]at hc;have hw:1≤(l.length:Int)∧(l.length:Int)≤6:=by simp[Ex.ok,bG]at h;omega
 have hwf:e.wf l.length=true:=by simp[Ex.ok,Ex.NS]at h;exact h.2.1
 have hsz:=Ex.jZ h;rw[Ex.aA e]at hc ⊢;have hb:8*(l.length:Int)≤281474976710656:=by omega
 simp[hc,hb];obtain⟨j,h1,h2⟩:=fZ (Ex.ok w) l;rw[aT (IX e l w) j (by simp[IX,rW])]
 ·rw[aF]
  rcases h2 with ⟨hj,ha⟩|⟨k,h3,h4,h5,ha⟩
  ·have ht:(l.map Ex.ht).take l.length=l.map Ex.ht:=zZ (by simp);have ht2:(rW (l.map Ex.ht)).take l.length=rW (l.map Ex.ht):=zZ (by simp);have hf:=AVI (m:=l.length) (hs:=l.map Ex.ht) (by simp) e hwf (by omega) 8 (by omega);have hr:=VZ (m:=l.length) l rfl (fun b hb=>by have:=Ex.jZ (zR.1 ha b hb);omega) e hwf (by omega)
   have hwl:∀ b∈l,b.wf w=true:=fun b hb=>by
    have:=zR.1 ha b hb;simp[Ex.ok,Ex.NS]at this;exact this.2.1
   have hww:bG w=true:=by
    cases l with
    | nil=>simp at hw
    | cons b l=>simp[Ex.ok]at ha;exact ha.1.1
   have hq:(e.sub l).ok w=decide ((e.htS (l.map Ex.ht):Int)≤8):=by
    simp only[Ex.ok,Ex.NS,Ex.AY1 (m:=l.length) l rfl hwl e hwf,Ex.AZY (w:=l.length) l rfl e hwf,hww,zB8];rw[zD0];simp;omega
   rw[Ex.aA e]at hf hr;rw[← hq]at hf
   cases hq':(e.sub l).ok w with
   | true=>rw[hq']at hf;simp[IX,hj,ht,ht2,hf,hr,Ex.subst,h,ha,hq',AU8]
   | false=>rw[hq']at hf;simp[IX,hj,ht,ht2,hf,Ex.subst,h,ha,hq',AU8,aX]
  ·have r1:=(zY.1 h3).1;have r2:=Ex.aR h3;have r3:=ok_eq w k;rw[h5]at r3;simp[IX,r1,r2,r3,Ex.subst,h,ha,AU8,aX]
 ·intro i hi;obtain⟨k,h3,h4,h5⟩:=h1 i hi;have r1:=(zY.1 h3).1;have r2:=Ex.aR h3;have r3:=ok_eq w k;have w2:IntKind.i64.wrap ((i:Int)+1)=i+1:=wrO;have hh:=AL6 k (by have:=Ex.jZ h5;omega);rw[h5]at r3;have hD:(rW ((l.map Ex.ht).take i)).length=i:=by simp;omega
  have g1:=JD (n:=l.length) (z:=[IV.int 0]) hD r1;have g2:=JC (n:=l.length) (z:=[IV.int 0]) (x:=[IV.int k.ht]) hD r1;rw[PT,← aO (a:=k.ht) (by simp[h3])]at g2;simp[IX,r1,r2,r3,w2,hh,g1,g2]
end Go.Proofs.YtnmimmaahhlgeaaGreat
namespace Go.Av
@[simp] theorem U6:∀ l:List UInt8,gX 1 (fG l)=true
  | []=>rfl
  | _::l=>by have:=U6 l;simp only[gX]at this;simp[fG,gX,this]
@[simp] theorem ABJ:∀ (n:Nat) (l:List UInt8),(fG l).take n=fG (l.take n)
  | 0,l=>by simp[fG]
  | n+1,[]=>by simp[fG]
  | n+1,b::l=>by simp[fG,ABJ n l]
end Go.Av
namespace Go.Proofs.YtnmimmaahhlgeaaGreat
open Go Go.Av
set_option maxRecDepth 4000
theorem X0 (l:List UInt8):∃ l':List UInt8,l'.length≤2000∧aH C0 21 [.i (.isl (fG l))] []=some (.own 0 0,[Rd l' 0]):=by
 by_cases h:(l.length:Int) > 2000
 ·refine⟨l.take 2000,by simp;omega,?_⟩;rw[aD rfl Tryz.func21 rfl rfl];simp[fQ,h,show(2000:Int)≤l.length by omega]
 ·refine⟨l,by omega,?_⟩;rw[aD rfl Tryz.func21 rfl rfl];simp[fQ,h]
theorem qM (l:List UInt8) (p:Int) (h0:0≤p) (h1:p<1000000000) (hl:l.length≤2000) (es:List (List IV)) (hn:0<es.length) (hes:es.length≤100) (hi:∀ r∈es,∃ x,r=[.int x]) :
 ∃ x:Int,aH C0 81 [.own 0 0, .osl 1 1 0 es.length] [Rd l p,some (.arr 1 es)]=some (.int x,[Rd l (p+1),some (.arr 1 es)])∧[.int x]∈es:=by
 obtain⟨v,hv,hv1,hv2⟩:=bE l p es.length h0 h1 hl;obtain⟨v0,v1⟩:=hv1 (by omega);have hlt:v.toNat<es.length:=by omega
 have hm:=xY hlt;obtain⟨x,hx⟩:=hi _ hm;refine⟨x,?_,hx ▸ hm⟩;have hnth:fH es v.toNat=some [.int x]:=by rw[dL,zX hlt,hx]
 have hw:gX 1 es=true:=by
  rw[gX,zR];intro r hr;obtain⟨y,rfl⟩:=hi r hr;rfl
 rw[aD rfl Tryz.func81 rfl rfl];simp[hv,v0,v1,hnth,hw]
theorem AR (l:List UInt8) (p:Int) (h0:0≤p) (h1:p<900000000) (hl:l.length≤2000) :
 ∃ (v:Val) (p':Int),aH C0 175 [.own 0 0] [Rd l p]=some (.i (.agg [.bool v.null, .int v.n]),[Rd l p'])∧p≤p'∧p'≤p+2:=by
 obtain⟨v,hv,hv1,hv2⟩:=bE l p 5 h0 (by omega) hl;by_cases h:v=0
 ·refine⟨⟨true,0⟩,p+1,?_,by omega,by omega⟩;rw[aD rfl Tryz.func175 rfl rfl];simp[hv,h]
 ·obtain⟨x,hx,_⟩:=qM l (p+1) (by omega) (by omega) hl [[.int 0],[.int 1],[.int 2],[.int 3],[.int (-1)]] (by simp) (by simp) (by simp);refine⟨⟨false,x⟩,p+1+1,?_,by omega,by omega⟩;rw[aD rfl Tryz.func175 rfl rfl];simp at hx;simp[hv,h,hx]
theorem NJ (l:List UInt8) (p:Int) (h0:0≤p) (h1:p<900000000) (hl:l.length≤2000) :
 ∃ (v:Val) (p':Int),aH C0 133 [.own 0 0] [Rd l p]=some (.i (.agg [.bool v.null, .int v.n]),[Rd l p'])∧p≤p'∧p'≤p+4:=by
 obtain⟨v,p1,hv,q1,q2⟩:=AR l p h0 (by omega) hl;obtain⟨k,hk,hk1,hk2⟩:=bE l p1 14 (by omega) (by omega) hl;by_cases g0:k=0
 ·refine⟨⟨true,1⟩,p1+1,?_,by omega,by omega⟩;rw[aD rfl Tryz.func133 rfl rfl];simp[hv,hk,g0]
 ·by_cases g1:k=1
  ·obtain⟨x,hx,_⟩:=qM l (p1+1) (by omega) (by omega) hl [[.int 10000],[.int (-10000)],[.int 9999],[.int (-9999)]] (by simp) (by simp) (by simp);refine⟨⟨false,x⟩,p1+1+1,?_,by omega,by omega⟩;rw[aD rfl Tryz.func133 rfl rfl];simp at hx;simp[hv,hk,g1,hx]
  ·refine⟨v,p1+1,?_,by omega,by omega⟩;rw[aD rfl Tryz.func133 rfl rfl];simp[hv,hk,g0,g1]
set_option maxHeartbeats 1000000
theorem AJG {l:List UInt8} (hl:l.length≤2000) {w:Int} {n:Nat} {p k:Int} (h0:0≤p) (h1:p<800000000) (hk:aH C0 40 [.own 0 0, .int 13] [Rd l p]=some (.int k,[Rd l (p+1)])) (hc:n=0∨k > 10) :
 ∃ (e:Ex) (p':Int),aH C0 132 [.own 0 0, .int w, .int n] [Rd l p]=some (.i (.agg e.cells),[Rd l p'])∧p≤p'∧p'≤p+4∧e.size=1:=by
 obtain⟨t,ht,ht1,ht2⟩:=bE l (p+1) 3 (by omega) (by omega) hl;by_cases g:t > 0
 ·obtain⟨c,hc',-,-⟩:=bE l (p+1+1) w (by omega) (by omega) hl;refine⟨.mk 1 c Val.zero [],p+1+1+1,?_,by omega,by omega,by simp[Ex.size,Ex.cZ]⟩;rw[aD rfl Tryz.func132 rfl rfl];by_cases hn:n=0
  ·simp[hk,hn,ht,g,hc',Ex.cells,Ex.aB,Val.zero]
  ·have hk10:k > 10:=by omega
   simp[hk,hn,hk10,ht,g,hc',Ex.cells,Ex.aB,Val.zero]
 ·obtain⟨v,p2,hv,q1,q2⟩:=AR l (p+1+1) (by omega) (by omega) hl;refine⟨.mk 2 0 v [],p2,?_,by omega,by omega,by simp[Ex.size,Ex.cZ]⟩;rw[aD rfl Tryz.func132 rfl rfl];by_cases hn:n=0
  ·simp[hk,hn,ht,g,hv]
  ·have hk10:k > 10:=by omega
   simp[hk,hn,hk10,ht,g,hv]
theorem AUB {l:List UInt8} (hl:l.length≤2000) {w:Int} {n c:Nat} {p k:Int} (h0:0≤p) (h1:p<800000000) (hk:aH C0 40 [.own 0 0, .int 13] [Rd l p]=some (.int k,[Rd l (p+1)])) (hk0:0≤k) (hk1:k≤10) (hn:n<10) (hc:c<100) (hpc:p+(2*c+1)<700000000) (ih:∀ p:Int,0≤p→p+c<700000000→∃ (e:Ex) (p':Int),aH C0 132 [.own 0 0, .int w, .int n] [Rd l p]=some (.i (.agg e.cells),[Rd l p'])∧p≤p'∧p'≤p+c∧e.size≤c) :
 ∃ (e:Ex) (p':Int),aH C0 132 [.own 0 0, .int w, .int ((n+1:Nat):Int)] [Rd l p]=some (.i (.agg e.cells),[Rd l p'])∧p≤p'∧p'≤p+(2*c+1:Nat)∧e.size≤2*c+1:=by
 obtain⟨e1,p1,he1,a1,a2,a3⟩:=ih (p+1) (by omega) (by omega);obtain⟨e2,p2,he2,b1,b2,b3⟩:=ih p1 (by omega) (by omega);have t1:0≤k.tmod 9:=Int.tmod_nonneg _ hk0;have t2:k.tmod 9<9:=xA _ (by omega);have w1:IntKind.i64.wrap (3+k.tmod 9)=3+k.tmod 9:=wrO;have w2:IntKind.i64.wrap (n:Int)=n:=wrO;have w3:IntKind.i64.wrap 2=2:=wrO;have hn1:¬ ((n:Int)+1=0):=by omega
 have wn:((n:Int)+1 == 0)=false:=by simp[hn1]
 have hkk:¬ (10<k):=by omega
 have hK:dB (3+k.tmod 9)=1∨dB (3+k.tmod 9)=2:=by
  unfold dB;split;· omega
  split;· exact .inl rfl
  split;· exact .inr rfl
  ·omega
 rcases hK with hK|hK
 ·refine⟨.mk (3+k.tmod 9) 0 Val.zero [e1],p1,?_,by omega,by omega,by simp[Ex.size,Ex.cZ];omega⟩;rw[aD rfl Tryz.func132 rfl rfl];simp[hk,hn1,wn,hkk,w1];rw[aF];simp[hK,w2,he1,bB];rw[aF];simp[hK,Ex.cells,Ex.aB,Val.zero]
 ·refine⟨.mk (3+k.tmod 9) 0 Val.zero [e1,e2],p2,?_,by omega,by omega,by simp[Ex.size,Ex.cZ];omega⟩;rw[aD rfl Tryz.func132 rfl rfl];simp[hk,hn1,wn,hkk,w1];rw[aF];simp[hK,w2,he1,bB];rw[aF];simp[hK,w2,he2,w3];rw[aF];simp[hK,Ex.cells,Ex.aB,Val.zero]
def l6:Nat→Nat
 | 0=>4
 | n+1=>2*l6 n+1
theorem ADM:∀ n,4≤l6 n
 | 0=>by simp[l6]
 | n+1=>by have:=ADM n;simp only[l6];omega
theorem rE (l:List UInt8) (hl:l.length≤2000) (w:Int):∀ n:Nat,l6 n<200→n<10→∀ p:Int,0≤p→p+l6 n<700000000→∃ (e:Ex) (p':Int),aH C0 132 [.own 0 0, .int w, .int n] [Rd l p]=some (.i (.agg e.cells),[Rd l p'])∧p≤p'∧p'≤p+l6 n∧e.size≤l6 n
 | 0,hc,hn,p,h0,h1=>by
  obtain⟨k,hk,-,-⟩:=bE l p 13 h0 (by omega) hl;obtain⟨e,p',a1,a2,a3,a4⟩:=AJG hl (n:=0) (w:=w) h0 (by omega) hk (.inl rfl);exact⟨e,p',a1,a2,by simp[l6];omega,by simp[l6];omega⟩
 | n+1,hc,hn,p,h0,h1=>by
  obtain⟨k,hk,hk1,-⟩:=bE l p 13 h0 (by omega) hl;obtain⟨k0,k1⟩:=hk1 (by omega);have hc':l6 (n+1)=2*l6 n+1:=rfl;by_cases hg:k > 10
  ·obtain⟨e,p',a1,a2,a3,a4⟩:=AJG hl (n:=n+1) (w:=w) h0 (by omega) hk (.inr hg);have h4:=ADM n;exact⟨e,p',a1,a2,by omega,by omega⟩
  ·rw[hc'];exact AUB hl h0 (by omega) hk k0 (by omega) (by omega) (by omega) (by omega) fun q q0 q1=>rE l hl w n (by omega) (by omega) q q0 q1
theorem AA8 (l:List UInt8) (hl:l.length≤2000) (w p:Int) (h0:0≤p) (h1:p<600000000):∃ (e:Ex) (p':Int),aH C0 132 [.own 0 0, .int w, .int 3] [Rd l p]=some (.i (.agg e.cells),[Rd l p'])∧p≤p'∧p'≤p+39∧e.size≤39:=rE l hl w 3 (by decide) (by omega) p h0 (by simp only[l6];omega)
theorem KQ (l:List UInt8) (hl:l.length≤2000) (w p:Int) (h0:0≤p) (h1:p<600000000):∃ (e:Ex) (p':Int),aH C0 132 [.own 0 0, .int w, .int 2] [Rd l p]=some (.i (.agg e.cells),[Rd l p'])∧p≤p'∧p'≤p+19∧e.size≤19:=rE l hl w 2 (by decide) (by omega) p h0 (by simp only[l6];omega)
end Go.Proofs.YtnmimmaahhlgeaaGreat
namespace Go.Av
end Go.Av
namespace Go.Proofs.YtnmimmaahhlgeaaGreat
open Go Go.Av
set_option maxRecDepth 4000
set_option maxHeartbeats 1000000
theorem AHA (l:List UInt8) (hl:l.length≤2000) (w p:Int) (h0:0≤p) (h1:p<500000000):∃ (e:Ex) (p':Int),aH C0 82 [.own 0 0, .int w] [Rd l p]=some (.i (.agg e.cells),[Rd l p'])∧p≤p'∧p'≤p+50∧e.size≤39:=by
 obtain⟨e,p1,he,a1,a2,a3⟩:=AA8 l hl w p h0 (by omega);obtain⟨k,hk,-,-⟩:=bE l p1 18 (by omega) (by omega) hl;rw[Ex.aA]at he;by_cases g0:k=0
 ·obtain⟨x,hx,-⟩:=qM l (p1+1) (by omega) (by omega) hl [[.int 0],[.int 12],[.int 3],[.int 10]] (by simp) (by simp) (by simp);refine⟨.mk x e.col e.val e.kids,p1+1+1,?_,by omega,by omega,by rw[Ex.size_eq]at a3 ⊢;simpa [Ex.kids]using a3⟩;rw[aD rfl Tryz.func82 rfl rfl];simp at hx;simp[he,hk,g0,hx,Ex.cells]
 ·by_cases g1:k=1
  ·obtain⟨x,hx,-⟩:=qM l (p1+1) (by omega) (by omega) hl [[.int (-1)],[.int 6],[.int w]] (by simp) (by simp) (by simp);refine⟨.mk e.kind x e.val e.kids,p1+1+1,?_,by omega,by omega,by rw[Ex.size_eq]at a3 ⊢;simpa [Ex.kids]using a3⟩;rw[aD rfl Tryz.func82 rfl rfl];simp at hx;simp[he,hk,g1,hx,Ex.cells]
  ·by_cases g2:k=2
   ·obtain⟨v,p2,hv,q1,q2⟩:=NJ l (p1+1) (by omega) (by omega) hl;refine⟨.mk e.kind e.col v e.kids,p2,?_,by omega,by omega,by rw[Ex.size_eq]at a3 ⊢;simpa [Ex.kids]using a3⟩;rw[aD rfl Tryz.func82 rfl rfl];simp[he,hk,g2,hv,Ex.cells]
   ·refine⟨e,p1+1,?_,by omega,by omega,by omega⟩;rw[aD rfl Tryz.func82 rfl rfl];simp[he,hk,g0,g1,g2,Ex.aA e]
end Go.Proofs.YtnmimmaahhlgeaaGreat
namespace Go.Av
def AnT (i:Nat):Ex:=.mk 1 i Val.zero []
def AdY (n:Nat):List Ex:=(List.range n).map AnT
def APQ (o:Option Ex):Ex:=o.getD Ex.zero
theorem AU7 (o:Option Ex):AU8 o=.tup [.i (.agg (APQ o).cells), .bool o.isSome]:=by cases o<;>rfl
end Go.Av
namespace Go.Proofs.YtnmimmaahhlgeaaGreat
open Go Go.Av
set_option maxRecDepth 4000
set_option maxHeartbeats 1000000
theorem AKU (e:Ex) (l:List Ex) (w:Int):aH C0 115 [.i (.agg e.cells), .i (.isl (Ex.aB l)), .int w] []=some (.tup [.i (.agg (APQ (e.subst l w)).cells), .bool (e.subst l w).isSome],[]):=by
 rw[← AU7]
 cases h:e.ok l.length with
 | true=>exact AUY h
 | false=>exact AUX h
def WX (code:List UInt8) (e:Ex) (l:List Ex) (w:Int) (i:Nat):AS :=
 { env:=[(0, .i (.isl (fG code))),(2, .bool false),(3, .own 0 0),(4, .i (.isl (Ex.aB l))),(5, .int w),(6, .own 1 0),(7, .bool (e.subst l w).isSome),(8, .own 2 0),(9, .bool (e.subst l w).isSome),(10, .osl 3 5 0 i),(11, .int i),(12, .junk),(13, .junk),(16, .bool false),(52, .bool false),(65,jk i (.bool true))],
   st:=[some (.box (nE e.cells)),some (.box (nE (APQ (e.subst l w)).cells)),some (.box (nE (APQ (e.subst l w)).cells)),some (.arr 5 (Ex.aB (AdY i)))] }
theorem AY0:IntKind.i64.wrap 0=0:=wrO
@[simp] theorem OU (b:Bool) (n:Int):aH C0 139 [.i (.agg [.bool b, .int n])] []=some (.int (Val.tr ⟨b,n⟩),[]):=by
  rw[aD rfl Tryz.func139 rfl rfl]
  cases b
  ·by_cases h:n=0<;>simp[Val.tr,h]
  ·simp[Val.tr]
@[simp] theorem LB:aH C0 143 [] []=some (.i (.agg [.bool true, .int 0]),[]):=by
  rw[aD rfl Tryz.func143 rfl rfl];simp
@[simp] theorem number_eq (n:Int):aH C0 149 [.int n] []=some (.i (.agg [.bool false, .int n]),[]):=by
  rw[aD rfl Tryz.func149 rfl rfl];simp
@[simp] theorem AK3 (n:Int):aH C0 197 [.int n] []=some (.i (.agg [.bool (ARW n).null, .int (ARW n).n]),[]):=by
  rw[aD rfl Tryz.func197 rfl rfl];by_cases h:-9999≤n∧n≤9999<;>simp[ARW,Val.ok,h]
@[simp] theorem AdA (b:Bool):aH C0 181 [.bool b] []=some (.i (.agg [.bool (O9 b).null, .int (O9 b).n]),[]):=by
  rw[aD rfl Tryz.func181 rfl rfl]
  cases b<;>simp[O9]
@[simp] theorem AY4 (t:Int):aH C0 180 [.int t] []=some (.i (.agg [.bool (trV t).null, .int (trV t).n]),[]):=by
  rw[aD rfl Tryz.func180 rfl rfl];by_cases h:t=1
  ·simp[trV,h]
  ·by_cases h2:t=2<;>simp[trV,O9,h,h2]
theorem pM (k:Int) (a b:Val) (ha:a.ok=true) (hb:b.ok=true):aH C0 182 [.int k, .i (.agg [.bool a.null, .int a.n]), .i (.agg [.bool b.null, .int b.n])] []=some (.i (.agg [.bool (Val.cmb k a b).null, .int (Val.cmb k a b).n]),[]):=by
 rw[aD rfl Tryz.func182 rfl rfl];obtain⟨an,a⟩:=a;obtain⟨bn,b⟩:=b;have ba:-9999≤a∧a≤9999:=by cases an<;>simp[Val.ok]at ha<;>omega
 have bb:-9999≤b∧b≤9999:=by cases bn<;>simp[Val.ok]at hb<;>omega
 have w1:IntKind.i64.wrap (a+b)=a+b:=wrO;have w2:IntKind.i64.wrap (a-b)=a-b:=wrO
 have w3:IntKind.i64.wrap (a*b)=a*b:=by
  have h1:a*b≤9999*9999:=by
   have:=Int.mul_le_mul_of_natAbs_le (x:=a) (y:=b) (s:=9999) (t:=9999) (by omega) (by omega);omega
  have h2:-(9999*9999)≤a*b:=by
   have:=Int.mul_le_mul_of_natAbs_le (x:=-a) (y:=b) (s:=9999) (t:=9999) (by omega) (by omega);rw[Int.neg_mul]at this;omega
  exact wrO
 by_cases k8:k=8
 ·by_cases hm:Val.tr ⟨bn,b⟩<Val.tr ⟨an,a⟩<;>simp[Val.cmb,k8,hm]
 by_cases k9:k=9
 ·by_cases hm:Val.tr ⟨an,a⟩<Val.tr ⟨bn,b⟩<;>simp[Val.cmb,k9,hm]
 cases an
 ·cases bn
  ·by_cases k3:k=3
   ·simp[Val.cmb,k3,w1]
   by_cases k4:k=4
   ·simp[Val.cmb,k4,w2]
   by_cases k5:k=5
   ·simp[Val.cmb,k5,w3]
   by_cases k6:k=6
   ·simp[Val.cmb,k6]
   ·simp[Val.cmb,k8,k9,k3,k4,k5,k6]
  ·simp[Val.cmb,k8,k9]
 ·simp[Val.cmb,k8,k9]
theorem Af9 (v:Val):0≤v.tr∧v.tr≤2:=by
 unfold Val.tr;split
 ·omega
 ·split<;>omega
theorem AHZ {e:Ex} {row:List Val} {v:Val} (hk:e.kind=1) (h0:0≤e.col) (hv:row[e.col.toNat]?=some v) :
 aH C0 140 [.i (.iref e.cells), .i (.isl (aP row))] []=some (.i (.agg [.bool v.null, .int v.n]),[]):=by
 rw[aD rfl Tryz.func140 rfl rfl,Ex.aA];have r1:=(zY.1 hv).1;simp[hk,h0,bZ hv,show e.col<row.length by omega]
theorem ZN {e:Ex} {row:List Val} (hk:e.kind=2) :
 aH C0 140 [.i (.iref e.cells), .i (.isl (aP row))] []=some (.i (.agg [.bool e.val.null, .int e.val.n]),[]):=by
 rw[aD rfl Tryz.func140 rfl rfl,Ex.aA];simp[hk]
theorem AHY {e a:Ex} {va:Val} {row:List Val} (hk:e.kind=10∨e.kind=11) (hks:e.kids=[a]) (ha:aH C0 140 [.i (.iref a.cells), .i (.isl (aP row))] []=some (.i (.agg [.bool va.null, .int va.n]),[])) :
 aH C0 140 [.i (.iref e.cells), .i (.isl (aP row))] []=some (.i (.agg [.bool (evN row e.kind e.col e.val [va]).null, .int (evN row e.kind e.col e.val [va]).n]),[]):=by
 rw[aD rfl Tryz.func140 rfl rfl,Ex.aA,hks]
 have w:IntKind.i64.wrap (2-Val.tr ⟨va.null,va.n⟩)=2-Val.tr ⟨va.null,va.n⟩:=by
  have:=Af9 ⟨va.null,va.n⟩;exact wrO
 rcases hk with hk|hk
 ·simp[hk,Ex.aB,ha,w,evN]
 ·simp[hk,Ex.aB,ha,evN]
theorem AHX {e a b:Ex} {va vb:Val} {row:List Val} (h1:e.kind≠1) (h2:e.kind≠2) (h3:e.kind≠10) (h4:e.kind≠11) (hks:e.kids=[a,b]) (oa:va.ok=true) (ob:vb.ok=true) (ha:aH C0 140 [.i (.iref a.cells), .i (.isl (aP row))] []=some (.i (.agg [.bool va.null, .int va.n]),[]))
 (hb:aH C0 140 [.i (.iref b.cells), .i (.isl (aP row))] []=some (.i (.agg [.bool vb.null, .int vb.n]),[])) :
 aH C0 140 [.i (.iref e.cells), .i (.isl (aP row))] []=some (.i (.agg [.bool (evN row e.kind e.col e.val [va,vb]).null, .int (evN row e.kind e.col e.val [va,vb]).n]),[]):=by
 rw[aD rfl Tryz.func140 rfl rfl,Ex.aA,hks];have hc:=pM e.kind va vb oa ob;simp[h1,h2,h3,h4,Ex.aB,ha,hb,hc,evN]
theorem AKN {e:Ex} {w:Int} (h:e.wf w=true):(e.kind=1∧e.kids=[])∨(e.kind=2∧e.kids=[])∨((e.kind=10∨e.kind=11)∧∃ a,e.kids=[a])∨(e.kind≠1∧e.kind≠2∧e.kind≠10∧e.kind≠11∧∃ a b,e.kids=[a,b]):=by
 rw[Ex.EZ]at h;simp at h;have hl:=h.1
 rcases M4 e.kind with k|k|k|k|k|k|k|k|k|k|k|⟨h1,h2,h3,h4,h5,h6,h7,h8,h9,h10,h11⟩
 case inr.inr.inr.inr.inr.inr.inr.inr.inr.inr.inr =>
  have:dB e.kind=-1:=by unfold dB;rw[if_neg (by omega),if_neg (by omega),if_neg (by omega)]
  omega
 all_goals (rw[k]at hl;simp[dB]at hl;simp[k])
 all_goals first
  | exact hl
  | (cases hk:e.kids with
     | nil=>rw[hk]at hl;simp at hl
     | cons a r=>cases r with
      | nil=>first|exact⟨a,rfl⟩|(rw[hk]at hl;simp at hl)
      | cons b r=>cases r with
       | nil=>first|exact⟨a,b,rfl⟩|(rw[hk]at hl;simp at hl)
       | cons c r=>rw[hk]at hl;simp at hl;omega)
theorem ABW {m:Int} (row:List Val) (hm:m=row.length) (hr:row.all Val.ok=true):∀ (e:Ex),e.wf m=true→aH C0 140 [.i (.iref e.cells), .i (.isl (aP row))] []=some (.i (.agg [.bool (e.ev row).null, .int (e.ev row).n]),[]):=by
 intro e
 induction e using Ex.ind with
 | h k c v ks ih =>
  intro h
  rcases AKN h with ⟨k1,ck⟩|⟨k1,ck⟩|⟨k1,a,ck⟩|⟨k1,k2,k3,k4,a,b,ck⟩
  ·obtain⟨h0,h1,_⟩:=Ex.oP h k1;have hi:c.toNat<row.length:=by simp[Ex.col]at h0 h1;omega
   have hb:=zX hi;have:=AHZ (e:=.mk k c v ks) (row:=row) k1 h0 hb;rw[this];simp[Ex.kind]at k1;simp[Ex.ev,evN,k1,hb]
  ·rw[ZN k1];simp[Ex.kind]at k1;simp[Ex.ev,evN,k1,Ex.val]
  ·have ck':ks=[a]:=ck;subst ck';have hw:=Ex.iZ h (k:=a) (by simp[Ex.kids]);have:=AHY k1 ck (ih a (by simp) hw);simpa [Ex.ev,Ex.evL,Ex.kind,Ex.col,Ex.val]using this
  ·have ck':ks=[a,b]:=ck;subst ck';have hwa:=Ex.iZ h (k:=a) (by simp[Ex.kids]);have hwb:=Ex.iZ h (k:=b) (by simp[Ex.kids]);have:=AHX (e:=.mk k c v [a,b]) k1 k2 k3 k4 ck (AVL row hm hr a hwa) (AVL row hm hr b hwb) (ih a (by simp) hwa) (ih b (by simp) hwb);simpa [Ex.ev,Ex.evL,Ex.kind,Ex.col,Ex.val]using this
def VR (row:List Val) (i:Nat):AS :=
 { env:=[(0, .i (.isl (aP row))),(2, .bool false),(4,if i=0 then .junk else .own 0 0),(8, .bool false),(9, .i (.isl (aP row))),(10, .int row.length),(11, .int i),(12,jk i (.bool true)),(17,jk i (.bool false))],
   st:=if i=0 then []else [some (.box [.bool ((row[i-1]?).getD Val.zero).null, .int ((row[i-1]?).getD Val.zero).n])] }
theorem JQ (row:List Val) (hl:row.length<1000000000):aH C0 135 [.i (.isl (aP row))] []=some (.bool (vN row),[]):=by
 rw[aD rfl Tryz.func135 rfl rfl]
 cases hw:bG row.length with
 | false=>simp[hw,vN]
 | true =>
  simp[hw,vN];obtain⟨j,h1,h2⟩:=fZ Val.ok row;rw[aT (VR row) j (by simp[VR])]
  ·rw[aF]
   rcases h2 with ⟨hj,ha⟩|⟨v,h3,h4,h5,ha⟩
   ·by_cases h0:j=0
    ·have:row.length=0:=by omega
     have:row=[]:=zW.1 this;subst this;subst h0;simp[VR,aP]
    ·have hz:row.length≠0:=by omega
     simp[VR,hj,ha,hz]
   ·have r1:=(zY.1 h3).1;have r2:=bZ h3;have r3:Val.ok ⟨v.null,v.n⟩=false:=h5;by_cases h0:j=0
    ·subst h0;simp[VR,r1,r2,r3,ha]
    ·simp[VR,h0,r1,r2,r3,ha]
  ·intro i hi;obtain⟨v,h3,h4,h5⟩:=h1 i hi;have r1:=(zY.1 h3).1;have r2:=bZ h3;have r3:Val.ok ⟨v.null,v.n⟩=true:=h5;obtain⟨_,hv⟩:=zY.1 h3;have w2:IntKind.i64.wrap ((i:Int)+1)=i+1:=wrO;by_cases h0:i=0
   ·subst h0;simp[VR,r1,r2,r3,hv,bB]
   ·simp[VR,h0,r1,r2,r3,hv,w2]
end Go.Proofs.YtnmimmaahhlgeaaGreat
namespace Go.Av
end Go.Av
namespace Go.Proofs.YtnmimmaahhlgeaaGreat
open Go Go.Av
set_option maxRecDepth 4000
set_option maxHeartbeats 1000000
end Go.Proofs.YtnmimmaahhlgeaaGreat
namespace Go.Av
def iX (v:Val):Ex:=.mk 2 0 v []
theorem cO (v:Val):(iX v).cells=[.int 2, .int 0, .bool v.null, .int v.n, .isl []]:=by simp[iX,Ex.cells,Ex.aB]
end Go.Av
namespace Go.Proofs.YtnmimmaahhlgeaaGreat
open Go Go.Av
set_option maxRecDepth 4000
set_option maxHeartbeats 1000000
def SB (e:Ex) (w:Int) (vs:List Val) (i:Nat):AS :=
 { env:=[(0, .i (.agg [.int e.kind, .int e.col, .bool e.val.null, .int e.val.n, .isl (Ex.aB e.kids)])),(1, .int w),(2, .i (.isl (aP vs))),(3, .own 0 0),(6, .own 1 0),(7, .bool false),(8, .int i),(9, .junk),(10, .junk),(14,jk i (.bool true)),(22,jk i (.bool false)),(34, .junk),(41, .junk)],
   st:=[some (.box [.int e.kind, .int e.col, .bool e.val.null, .int e.val.n, .i (.isl (Ex.aB e.kids))]),some (.box [.int 0, .int 0, .bool false, .int 0, .nils])] }
end Go.Proofs.YtnmimmaahhlgeaaGreat
namespace Go.Av
mutual
def Ex.ext (w:Int) (vs:List Val):Ex→Ex×List Val
 | .mk k c v ks=>if k=2 then(.mk 1 (w+vs.length) Val.zero [],vs++[v])else((.mk k c Val.zero (Ex.Ac0 w vs ks).1),(Ex.Ac0 w vs ks).2)
def Ex.Ac0 (w:Int) (vs:List Val):List Ex→List Ex×List Val
 | []=>([],vs)
 | e::es=>(((Ex.ext w vs e).1::(Ex.Ac0 w (Ex.ext w vs e).2 es).1),(Ex.Ac0 w (Ex.ext w vs e).2 es).2)
end
end Go.Av
namespace Go.Proofs.YtnmimmaahhlgeaaGreat
open Go Go.Av
set_option maxRecDepth 4000
set_option maxHeartbeats 2000000
def xv (a b:Nat):AV:=if b=a then .osl 0 2 0 a else .osl 1 2 0 b
def wi (n:Nat):Nat:=if n=0 then 1 else 2
end Go.Proofs.YtnmimmaahhlgeaaGreat
namespace Go.Av
end Go.Av
namespace Go.Proofs.YtnmimmaahhlgeaaGreat
open Go Go.Av
set_option maxRecDepth 4000
set_option maxHeartbeats 2000000
end Go.Proofs.YtnmimmaahhlgeaaGreat
namespace Go.Av
end Go.Av
namespace Go.Proofs.YtnmimmaahhlgeaaGreat
open Go Go.Av
set_option maxRecDepth 4000
set_option maxHeartbeats 2000000
set_option maxHeartbeats 4000000
def sI (c:Int):Ex:=.mk 1 c Val.zero []
def two (k:Int) (a b:Ex):Ex:=.mk k 0 Val.zero [a,b]
theorem dS (c:Int):(sI c).cells=[.int 1, .int c, .bool false, .int 0, .isl []]:=by simp[sI,Ex.cells,Ex.aB,Val.zero]
theorem eQ (k:Int) (a b:Ex):(two k a b).cells=[.int k, .int 0, .bool false, .int 0, .isl [a.cells,b.cells]]:=by simp[two,Ex.cells,Ex.aB,Val.zero]
def AQ4:Nat→Nat
 | 0=>40
 | n+1=>AQ4 n+40
theorem YH (l:List UInt8) (hl:l.length≤2000) (w:Int) (n c:Nat) (hn:n≤3) (p:Int) (h0:0≤p) (h1:p+10*n<500000000)
 (ih:n=0∨∀ p:Int,0≤p→p+10*((n:Int)-1)<500000000→∃ (e:Ex) (p':Int),aH C0 173 [.own 0 0, .int w, .int ((n:Int)-1)] [Rd l p]=some (.i (.agg e.cells),[Rd l p'])∧p≤p'∧p'≤p+c∧e.size≤c) :
 ∃ (e:Ex) (p':Int),aH C0 173 [.own 0 0, .int w, .int n] [Rd l p]=some (.i (.agg e.cells),[Rd l p'])∧p≤p'∧p'≤p+(c+40:Nat)∧e.size≤c+40:=by
 obtain⟨c1,hc1,-,-⟩:=bE l p w h0 (by omega) hl;obtain⟨x,hx,-,-⟩:=bE l (p+1) 4 (by omega) (by omega) hl;obtain⟨t,ht,-,-⟩:=bE l (p+1+1) 3 (by omega) (by omega) hl;obtain⟨c2,hc2,-,-⟩:=bE l (p+1+1+1) w (by omega) (by omega) hl;have hcon:=ABC ⟨false,x⟩;rw[show(Ex.mk 2 0 ⟨false,x⟩ []).cells=(iX ⟨false,x⟩).cells from rfl]at hcon;simp at hcon;have wn:IntKind.i64.wrap ((n:Int)-1)=n-1:=wrO;by_cases g:t=0
 ·obtain⟨k,hk,-,-⟩:=bE l (p+1+1+1+1) 8 (by omega) (by omega) hl;by_cases k0:k=0
  ·obtain⟨e,p',he,a1,a2,a3⟩:=KQ l hl w (p+1+1+1+1+1) (by omega) (by omega);refine⟨e,p',?_,by omega,by omega,by omega⟩;rw[aD rfl Tryz.func173 rfl rfl];simp[hc1,hx,ht,hk,hcon,g,hc2,dS,cO,eQ,Ex.aB,k0,he]
  by_cases k1:k=1
  ·refine⟨.mk 10 0 Val.zero [.mk 11 0 Val.zero [sI c1]],p+1+1+1+1+1,?_,by omega,by omega,by simp[sI,Ex.size,Ex.cZ]⟩;rw[aD rfl Tryz.func173 rfl rfl];simp[hc1,hx,ht,hk,hcon,g,hc2,dS,cO,eQ,Ex.aB,k1,Ex.cells,Val.zero]
  by_cases k2:k=2
  ·rcases ih with rfl|ih
   ·refine⟨two 7 (sI c1) (sI c2),p+1+1+1+1+1,?_,by omega,by omega,by simp[two,sI,iX,Ex.size,Ex.cZ]⟩;rw[aD rfl Tryz.func173 rfl rfl];simp[hc1,hx,ht,hk,hcon,g,hc2,dS,cO,eQ,Ex.aB,k2]
   ·by_cases n0:n=0
    ·refine⟨two 7 (sI c1) (sI c2),p+1+1+1+1+1,?_,by omega,by omega,by simp[two,sI,iX,Ex.size,Ex.cZ]⟩;rw[aD rfl Tryz.func173 rfl rfl];simp[hc1,hx,ht,hk,hcon,g,hc2,dS,cO,eQ,Ex.aB,k2,n0]
    ·obtain⟨e,p',he,a1,a2,a3⟩:=ih (p+1+1+1+1+1) (by omega) (by omega);refine⟨two 8 e (two 6 (sI c1) (sI c2)),p',?_,by omega,by omega,by simp[two,sI,iX,Ex.size,Ex.cZ];omega⟩;rw[aD rfl Tryz.func173 rfl rfl];simp[hc1,hx,ht,hk,hcon,g,hc2,dS,cO,eQ,Ex.aB,k2,n0,wn,he]
  by_cases k3:k=3
  ·refine⟨two 7 (sI c2) (sI c1),p+1+1+1+1+1,?_,by omega,by omega,by simp[two,sI,iX,Ex.size,Ex.cZ]⟩;rw[aD rfl Tryz.func173 rfl rfl];simp[hc1,hx,ht,hk,hcon,g,hc2,dS,cO,eQ,Ex.aB,k3]
  by_cases k4:k=4
  ·refine⟨two 7 (sI c2) (sI c1),p+1+1+1+1+1,?_,by omega,by omega,by simp[two,sI,iX,Ex.size,Ex.cZ]⟩;rw[aD rfl Tryz.func173 rfl rfl];simp[hc1,hx,ht,hk,hcon,g,hc2,dS,cO,eQ,Ex.aB,k4]
  by_cases k5:k=5
  ·refine⟨two 7 (sI c1) (sI c2),p+1+1+1+1+1,?_,by omega,by omega,by simp[two,sI,iX,Ex.size,Ex.cZ]⟩;rw[aD rfl Tryz.func173 rfl rfl];simp[hc1,hx,ht,hk,hcon,g,hc2,dS,cO,eQ,Ex.aB,k5]
  refine⟨two 6 (sI c1) (sI c2),p+1+1+1+1+1,?_,by omega,by omega,by simp[two,sI,iX,Ex.size,Ex.cZ]⟩;rw[aD rfl Tryz.func173 rfl rfl];simp[hc1,hx,ht,hk,hcon,g,hc2,dS,cO,eQ,Ex.aB,k0,k1,k2,k3,k4,k5]
 ·obtain⟨k,hk,-,-⟩:=bE l (p+1+1+1) 8 (by omega) (by omega) hl;by_cases k0:k=0
  ·obtain⟨e,p',he,a1,a2,a3⟩:=KQ l hl w (p+1+1+1+1) (by omega) (by omega);refine⟨e,p',?_,by omega,by omega,by omega⟩;rw[aD rfl Tryz.func173 rfl rfl];simp[hc1,hx,ht,hk,hcon,g,dS,cO,eQ,Ex.aB,k0,he]
  by_cases k1:k=1
  ·refine⟨.mk 10 0 Val.zero [.mk 11 0 Val.zero [sI c1]],p+1+1+1+1,?_,by omega,by omega,by simp[sI,Ex.size,Ex.cZ]⟩;rw[aD rfl Tryz.func173 rfl rfl];simp[hc1,hx,ht,hk,hcon,g,dS,cO,eQ,Ex.aB,k1,Ex.cells,Val.zero]
  by_cases k2:k=2
  ·rcases ih with rfl|ih
   ·refine⟨two 7 (sI c1) (iX ⟨false,x⟩),p+1+1+1+1,?_,by omega,by omega,by simp[two,sI,iX,Ex.size,Ex.cZ]⟩;rw[aD rfl Tryz.func173 rfl rfl];simp[hc1,hx,ht,hk,hcon,g,dS,cO,eQ,Ex.aB,k2]
   ·by_cases n0:n=0
    ·refine⟨two 7 (sI c1) (iX ⟨false,x⟩),p+1+1+1+1,?_,by omega,by omega,by simp[two,sI,iX,Ex.size,Ex.cZ]⟩;rw[aD rfl Tryz.func173 rfl rfl];simp[hc1,hx,ht,hk,hcon,g,dS,cO,eQ,Ex.aB,k2,n0]
    ·obtain⟨e,p',he,a1,a2,a3⟩:=ih (p+1+1+1+1) (by omega) (by omega);refine⟨two 8 e (two 6 (sI c1) (iX ⟨false,x⟩)),p',?_,by omega,by omega,by simp[two,sI,iX,Ex.size,Ex.cZ];omega⟩;rw[aD rfl Tryz.func173 rfl rfl];simp[hc1,hx,ht,hk,hcon,g,dS,cO,eQ,Ex.aB,k2,n0,wn,he]
  by_cases k3:k=3
  ·refine⟨two 7 (iX ⟨false,x⟩) (sI c1),p+1+1+1+1,?_,by omega,by omega,by simp[two,sI,iX,Ex.size,Ex.cZ]⟩;rw[aD rfl Tryz.func173 rfl rfl];simp[hc1,hx,ht,hk,hcon,g,dS,cO,eQ,Ex.aB,k3]
  by_cases k4:k=4
  ·refine⟨two 7 (iX ⟨false,x⟩) (sI c1),p+1+1+1+1,?_,by omega,by omega,by simp[two,sI,iX,Ex.size,Ex.cZ]⟩;rw[aD rfl Tryz.func173 rfl rfl];simp[hc1,hx,ht,hk,hcon,g,dS,cO,eQ,Ex.aB,k4]
  by_cases k5:k=5
  ·refine⟨two 7 (sI c1) (iX ⟨false,x⟩),p+1+1+1+1,?_,by omega,by omega,by simp[two,sI,iX,Ex.size,Ex.cZ]⟩;rw[aD rfl Tryz.func173 rfl rfl];simp[hc1,hx,ht,hk,hcon,g,dS,cO,eQ,Ex.aB,k5]
  refine⟨two 6 (sI c1) (iX ⟨false,x⟩),p+1+1+1+1,?_,by omega,by omega,by simp[two,sI,iX,Ex.size,Ex.cZ]⟩;rw[aD rfl Tryz.func173 rfl rfl];simp[hc1,hx,ht,hk,hcon,g,dS,cO,eQ,Ex.aB,k0,k1,k2,k3,k4,k5]
theorem ALW (l:List UInt8) (hl:l.length≤2000) (w:Int):∀ (n:Nat),n≤3→∀ p:Int,0≤p→p+10*n<500000000→∃ (e:Ex) (p':Int),aH C0 173 [.own 0 0, .int w, .int n] [Rd l p]=some (.i (.agg e.cells),[Rd l p'])∧p≤p'∧p'≤p+AQ4 n∧e.size≤AQ4 n
 | 0,hn,p,h0,h1=>YH l hl w 0 0 hn p h0 h1 (.inl rfl)
 | n+1,hn,p,h0,h1=>by
  refine YH l hl w (n+1) (AQ4 n) hn p h0 h1 (.inr fun q q0 q1=>?_);rw[show((n+1:Nat):Int)-1=n by omega]at q1 ⊢;exact ALW l hl w n (by omega) q q0 q1
end Go.Proofs.YtnmimmaahhlgeaaGreat
namespace Go.Av
end Go.Av
namespace Go.Proofs.YtnmimmaahhlgeaaGreat
open Go Go.Av
set_option maxRecDepth 4000
set_option maxHeartbeats 2000000
theorem aQ (l:List UInt8) (hl:l.length≤2000) (w p:Int) (h0:0≤p) (h1:p<400000000):∃ (e:Ex) (p':Int),aH C0 131 [.own 0 0, .int w] [Rd l p]=some (.i (.agg e.cells),[Rd l p'])∧p≤p'∧p'≤p+120∧e.size≤120:=by
 obtain⟨e,p',he,a1,a2,a3⟩:=ALW l hl w 2 (by omega) p h0 (by omega);refine⟨e,p',?_,a1,a2,a3⟩;rw[aD rfl Tryz.func131 rfl rfl];rw[show((2:Nat):Int)=2 from rfl,Ex.aA]at he;rw[Ex.aA];simp[he]
end Go.Proofs.YtnmimmaahhlgeaaGreat
namespace Go.Proofs.YtnmimmaahhlgeaaGreat.P
open Go Go.Av
set_option maxRecDepth 4000
theorem vJ (n:Int):n=1∨n=2∨n=3∨n=4∨n=5∨n=6∨n=7∨n=8∨(n≠1∧n≠2∧n≠3∧n≠4∧n≠5∧n≠6∧n≠7∧n≠8):=by omega
@[simp] theorem AN2 (n:Int):aH C0 103 [.int n] []=some (.tup [.int (fB n), .int (kD n)],[]):=by
  rw[aD rfl Tryz.func103 rfl rfl]
  rcases vJ n with rfl|rfl|rfl|rfl|rfl|rfl|rfl|rfl|⟨h1,h2,h3,h4,h5,h6,h7,h8⟩
  all_goals first
   | (simp[fB,kD];done)
   | (have e1:fB n=0:=by unfold fB;rw[if_neg (by omega)]
      have e2:kD n=-1:=by unfold kD;rw[if_neg (by omega),if_neg (by omega),if_neg (by omega)]
      simp[e1,e2,h1,h2,h3,h4,h5,h6,h7,h8])
def pv (cs:List Int) (i:Nat):Int:=((-1)::cs)[i]?.getD 0
theorem AJH {cs:List Int} {i:Nat} {c:Int} (h:cs[i]?=some c):pv cs (i+1)=c:=by simp[pv,h]
theorem EO {cs:List Int} {i:Nat} {x:Int×Int} (h:(cs.zip (-1::cs))[i]?=some x):cs[i]?=some x.1∧pv cs i=x.2:=by
 rw[List.getElem?_zip_eq_some]at h;exact⟨h.1,by simp[pv,h.2]⟩
theorem ADR (cs:List Int):(cs.zip (-1::cs)).length=cs.length:=by simp
def GX (cs:List Int) (w:Int) (i:Nat):AS :=
 { env:=[(0, .i (.isl (aG cs))),(1, .int w),(4, .bool false),(5, .int (pv cs i)),(7,jk i (.int (pv cs i))),(10, .bool false),(11, .i (.isl (aG cs))),(12, .int cs.length),(13, .int i),(14,jk i (.bool true)),(24,jk i (.bool false))],st:=[] }
theorem AB (cs:List Int) (w:Int):aH C0 155 [.i (.isl (aG cs)), .int w] []=some (.bool (decide (cs.length<6) && sH w cs),[]):=by
 rw[aD rfl Tryz.func155 rfl rfl];by_cases h6:cs.length<6
 case neg=>simp[h6,show(6:Int)≤cs.length by omega]
 simp[h6,show ¬ (6:Int)≤cs.length by omega];obtain⟨j,h1,h2⟩:=fZ (fun x:Int×Int=>decide (x.2<x.1∧x.1<w)) (cs.zip (-1::cs));rw[aT (GX cs w) j (by simp[GX,pv])]
 ·rw[aF]
  rcases h2 with ⟨hj,ha⟩|⟨x,h3,_,h4,ha⟩
  ·rw[ADR]at hj;have ha:sH w cs=true:=ha;simp[GX,hj,ha]
  ·obtain⟨c1,c2⟩:=EO h3;have r1:=(zY.1 c1).1;have r2:=bL c1;have hb:¬ (x.2<x.1∧x.1<w):=by simpa using h4
   have ha:sH w cs=false:=ha;by_cases hx:x.1≤x.2
   ·simp[GX,r1,r2,c2,hx,ha]
   ·simp[GX,r1,r2,c2,hx,ha,show w≤x.1 by omega]
 ·intro i hi;obtain⟨x,h3,_,h4⟩:=h1 i hi;obtain⟨c1,c2⟩:=EO h3;have r1:=(zY.1 c1).1;have r2:=bL c1;have c3:=AJH c1;have hb:x.2<x.1∧x.1<w:=by simpa using h4
  have w2:IntKind.i64.wrap ((i:Int)+1)=i+1:=wrO;simp[GX,r1,r2,c2,c3,w2,show ¬ x.1≤x.2 by omega,show ¬ w≤x.1 by omega]
def WX (p:Pn) (a b y:Int) (x14:Bool) (n21 n22:Nat) (x22:Bool) (n26 n27:Nat) (x27:Bool) (i:Nat):AS :=
 { env:=[(0, .i (.iref [.int p.kind, .int p.table, .isl (Ex.aB p.exprs), .isl (aG p.cols), .isl (Pn.aB p.kids)])),(1, .int a),(2, .int b),(6, .int 0),(7, .int y),(8,jk i (.int (i-1))),(13, .int p.kind),(14, .bool x14),(21,jk n21 (.bool false)),(22,jk n22 (.bool x22)),(26,jk n26 (.bool false)),(27,jk n27 (.bool x27)),(35, .junk),(46, .int p.exprs.length),(47, .int i),(48,jk i (.bool true)),(59,jk i (.bool false)),(65, .junk)],st:=[] }
theorem iY (p:Pn) (a b:Int) (ha:0≤a∧a≤6) (hb:0≤b∧b≤6) (hd:p.headOk=true):aH C0 104 [.i (.iref p.cells), .int a, .int b] []=some (.int (dM p.kind p.exprs p.cols a b),[]):=by
 rw[aD rfl Tryz.func104 rfl rfl];have he:=Pn.vQ hd;rw[Pn.aA];have hg:=AB p.cols a;have w1:IntKind.i64.wrap (a+b)=a+b:=wrO;by_cases h6:p.kind=6
 ·have h8:p.kind≠8:=by omega
  have h4:p.kind≠5:=by omega
  have hz:p.exprs=[]:=by
   simp only[Pn.headOk,zU,zS,h6]at hd;have:=hd.2.1;simp[fB]at this;exact this
  by_cases hab:a=b
  ·subst hab;simp[h6];rw[aF];simp[hz,h6,dM]
  ·simp[h6,hab,dM]
 by_cases h8:p.kind=8
 ·by_cases h9:p.cols.length<6
  ·have w3:IntKind.i64.wrap ((p.cols.length:Int)+1)=p.cols.length+1:=wrO
   cases hc:sH a p.cols<;>simp[h8,hg,h9,hc,dM,w3]
  ·simp[h8,hg,h9,dM]
 by_cases h45:p.kind=4∨p.kind=5
 ·by_cases hs:a+b≤6
  case neg=>rcases h45 with h4|h4<;>simp[h4,w1,show 6<a+b by omega,dM,hs]
  have h4:True:=trivial
  rcases h45 with h45|h45
  ·simp[h45,w1,show ¬ 6<a+b by omega];obtain⟨j,h1,h2⟩:=fZ (Ex.ok (a+b)) p.exprs;rw[aT (WX p a b (a+b) true 1 0 false 0 0 false) j (by simp[WX,h45])]
   ·rw[aF]
    rcases h2 with ⟨hj,hall⟩|⟨x,h3,_,h5,hall⟩
    ·simp[WX,hj,hall,dM,h45,hs]
    ·have r1:=(zY.1 h3).1;have r2:=Ex.aR h3;have r3:=ok_eq (a+b) x;rw[h5]at r3;rw[Ex.aA]at r2 r3;simp[WX,r1,r2,r3,hall,dM,h45,hs]
   ·intro i hi;obtain⟨x,h3,_,h5⟩:=h1 i hi;have r1:=(zY.1 h3).1;have r2:=Ex.aR h3;have r3:=ok_eq (a+b) x;rw[h5]at r3;rw[Ex.aA]at r2 r3;have w2:IntKind.i64.wrap ((i:Int)+1)=i+1:=wrO;simp[WX,r1,r2,r3,w2,h45]
  ·simp[h45,w1,show ¬ 6<a+b by omega];obtain⟨j,h1,h2⟩:=fZ (Ex.ok (a+b)) p.exprs;rw[aT (WX p a b (a+b) true 1 0 false 0 0 false) j (by simp[WX,h45])]
   ·rw[aF]
    rcases h2 with ⟨hj,hall⟩|⟨x,h3,_,h5,hall⟩
    ·simp[WX,hj,hall,dM,h45,hs]
    ·have r1:=(zY.1 h3).1;have r2:=Ex.aR h3;have r3:=ok_eq (a+b) x;rw[h5]at r3;rw[Ex.aA]at r2 r3;simp[WX,r1,r2,r3,hall,dM,h45,hs]
   ·intro i hi;obtain⟨x,h3,_,h5⟩:=h1 i hi;have r1:=(zY.1 h3).1;have r2:=Ex.aR h3;have r3:=ok_eq (a+b) x;rw[h5]at r3;rw[Ex.aA]at r2 r3;have w2:IntKind.i64.wrap ((i:Int)+1)=i+1:=wrO;simp[WX,r1,r2,r3,w2,h45]
 have h4:p.kind≠4:=by omega
 have h5':p.kind≠5:=by omega
 simp[h6,h8,h4,h5'];obtain⟨j,h1,h2⟩:=fZ (Ex.ok (a)) p.exprs;rw[aT (WX p a b a false 0 1 false 0 1 false) j (by simp[WX,h6,h8,h5'])]
 ·rw[aF]
  rcases h2 with ⟨hj,hall⟩|⟨x,h3,_,h5,hall⟩
  ·by_cases h3':p.kind=3
   ·simp[WX,hj,hall,dM,h3']
   ·simp[WX,hj,hall,dM,h6,h8,h4,h5',h3']
  ·have r1:=(zY.1 h3).1;have r2:=Ex.aR h3;have r3:=ok_eq (a) x;rw[h5]at r3;rw[Ex.aA]at r2 r3;by_cases h3':p.kind=3
   ·simp[WX,r1,r2,r3,hall,dM,h3']
   ·simp[WX,r1,r2,r3,hall,dM,h6,h8,h4,h5',h3']
 ·intro i hi;obtain⟨x,h3,_,h5⟩:=h1 i hi;have r1:=(zY.1 h3).1;have r2:=Ex.aR h3;have r3:=ok_eq (a) x;rw[h5]at r3;rw[Ex.aA]at r2 r3;have w2:IntKind.i64.wrap ((i:Int)+1)=i+1:=wrO;simp[WX,r1,r2,r3,w2]
set_option maxHeartbeats 2000000
@[simp] theorem AcZ:kD 1=0:=by decide
@[simp] theorem AbQ:fB 1=0:=by decide
@[simp] theorem AcY:kD 2=1:=by decide
@[simp] theorem AbP:fB 2=1:=by decide
@[simp] theorem AcX:kD 3=1:=by decide
@[simp] theorem AbO:fB 3=1:=by decide
@[simp] theorem AcW:kD 4=2:=by decide
@[simp] theorem AbN:fB 4=1:=by decide
@[simp] theorem AcV:kD 5=2:=by decide
@[simp] theorem AbM:fB 5=1:=by decide
@[simp] theorem AcU:kD 6=2:=by decide
@[simp] theorem AbL:fB 6=0:=by decide
@[simp] theorem AcT:kD 7=1:=by decide
@[simp] theorem AbK:fB 7=0:=by decide
@[simp] theorem AcS:kD 8=1:=by decide
@[simp] theorem AbJ:fB 8=0:=by decide
theorem ACO {k:Int} (h:k≠1∧k≠2∧k≠3∧k≠4∧k≠5∧k≠6∧k≠7∧k≠8):kD k=-1:=by
 unfold kD;rw[if_neg (by omega),if_neg (by omega),if_neg (by omega)]
theorem ABK {ws:List Int} {t:Int} {es:List Ex} {cs:List Int} {ks:List Pn} {lv:Nat} {k:Int} (h:k≠1∧k≠2∧k≠3∧k≠4∧k≠5∧k≠6∧k≠7∧k≠8):aH C0 48 [.i (.iref [.int k, .int t, .isl (Ex.aB es), .isl (aG cs), .isl (Pn.aB ks)]), .i (.isl (aG ws)), .int lv] []=some (.int 0,[]):=by
 rw[aD rfl Tryz.func48 rfl rfl];have c1:¬ (ks.length:Int)=-1:=by omega
 have hn:=ACO h;simp[h.2.2.1,hn,c1]
theorem AMJ {ws:List Int} {t:Int} {es:List Ex} {cs:List Int} {ks:List Pn} {lv:Nat} (h:¬ ((ks.length:Int)=0∧(es.length:Int)=0∧True∧cs=[])):aH C0 48 [.i (.iref [.int 1, .int t, .isl (Ex.aB es), .isl (aG cs), .isl (Pn.aB ks)]), .i (.isl (aG ws)), .int lv] []=some (.int 0,[]):=by
 rw[aD rfl Tryz.func48 rfl rfl];by_cases c1:(ks.length:Int)=0
 case neg=>simp at c1;simp[c1]
 by_cases c2:(es.length:Int)=0
 case neg=>simp at c2;simp[c1,c2]
 by_cases c5:cs=[]
 case neg=>simp[c1,c2,c5]
 exact absurd (by simp[c1,c2,c5]) h
theorem AMI {ws:List Int} {t:Int} {es:List Ex} {cs:List Int} {ks:List Pn} {lv:Nat} (h:¬ ((ks.length:Int)=1∧(es.length:Int)=1∧lv≠0∧t=0∧cs=[])):aH C0 48 [.i (.iref [.int 2, .int t, .isl (Ex.aB es), .isl (aG cs), .isl (Pn.aB ks)]), .i (.isl (aG ws)), .int lv] []=some (.int 0,[]):=by
 rw[aD rfl Tryz.func48 rfl rfl];by_cases c1:(ks.length:Int)=1
 case neg=>simp[c1]
 by_cases c2:(es.length:Int)=1
 case neg=>simp[c1,c2]
 by_cases c3:lv=0
 case pos=>subst c3;simp[c1,c2]
 have c3':¬ (lv:Int)=0:=by omega
 by_cases c4:t=0
 case neg=>simp[c1,c2,c3,c3',c4]
 by_cases c5:cs=[]
 case neg=>simp[c1,c2,c3,c3',c4,c5]
 exact absurd (by simp[c1,c2,c3,c3',c4,c5]) h
theorem AMH {ws:List Int} {t:Int} {es:List Ex} {cs:List Int} {ks:List Pn} {lv:Nat} (h:¬ ((ks.length:Int)=1∧(es.length:Int)=(if bG es.length=true then(es.length:Int)else 1)∧lv≠0∧t=0∧cs=[])):aH C0 48 [.i (.iref [.int 3, .int t, .isl (Ex.aB es), .isl (aG cs), .isl (Pn.aB ks)]), .i (.isl (aG ws)), .int lv] []=some (.int 0,[]):=by
 rw[aD rfl Tryz.func48 rfl rfl]
 cases hv:bG es.length
 ·have hq:(es.length:Int)≠1:=fun hq=>by rw[hq]at hv;simp[bG]at hv
  by_cases c1:(ks.length:Int)=1
  case neg=>simp[hv,c1]
  simp[hv,c1,hq]
 by_cases c1:(ks.length:Int)=1
 case neg=>simp[hv,c1]
 by_cases c3:lv=0
 case pos=>subst c3;simp[hv,c1]
 have c3':¬ (lv:Int)=0:=by omega
 by_cases c4:t=0
 case neg=>simp[hv,c1,c3,c3',c4]
 by_cases c5:cs=[]
 case neg=>simp[hv,c1,c3,c3',c4,c5]
 exact absurd (by simp[hv,c1,c3,c4,c5]) h
theorem AMG {ws:List Int} {t:Int} {es:List Ex} {cs:List Int} {ks:List Pn} {lv:Nat} (h:¬ ((ks.length:Int)=2∧(es.length:Int)=1∧lv≠0∧t=0∧cs=[])):aH C0 48 [.i (.iref [.int 4, .int t, .isl (Ex.aB es), .isl (aG cs), .isl (Pn.aB ks)]), .i (.isl (aG ws)), .int lv] []=some (.int 0,[]):=by
 rw[aD rfl Tryz.func48 rfl rfl];by_cases c1:(ks.length:Int)=2
 case neg=>simp[c1]
 by_cases c2:(es.length:Int)=1
 case neg=>simp[c1,c2]
 by_cases c3:lv=0
 case pos=>subst c3;simp[c1,c2]
 have c3':¬ (lv:Int)=0:=by omega
 by_cases c4:t=0
 case neg=>simp[c1,c2,c3,c3',c4]
 by_cases c5:cs=[]
 case neg=>simp[c1,c2,c3,c3',c4,c5]
 exact absurd (by simp[c1,c2,c3,c3',c4,c5]) h
theorem AMF {ws:List Int} {t:Int} {es:List Ex} {cs:List Int} {ks:List Pn} {lv:Nat} (h:¬ ((ks.length:Int)=2∧(es.length:Int)=1∧lv≠0∧t=0∧cs=[])):aH C0 48 [.i (.iref [.int 5, .int t, .isl (Ex.aB es), .isl (aG cs), .isl (Pn.aB ks)]), .i (.isl (aG ws)), .int lv] []=some (.int 0,[]):=by
 rw[aD rfl Tryz.func48 rfl rfl];by_cases c1:(ks.length:Int)=2
 case neg=>simp[c1]
 by_cases c2:(es.length:Int)=1
 case neg=>simp[c1,c2]
 by_cases c3:lv=0
 case pos=>subst c3;simp[c1,c2]
 have c3':¬ (lv:Int)=0:=by omega
 by_cases c4:t=0
 case neg=>simp[c1,c2,c3,c3',c4]
 by_cases c5:cs=[]
 case neg=>simp[c1,c2,c3,c3',c4,c5]
 exact absurd (by simp[c1,c2,c3,c3',c4,c5]) h
theorem AME {ws:List Int} {t:Int} {es:List Ex} {cs:List Int} {ks:List Pn} {lv:Nat} (h:¬ ((ks.length:Int)=2∧(es.length:Int)=0∧lv≠0∧t=0∧cs=[])):aH C0 48 [.i (.iref [.int 6, .int t, .isl (Ex.aB es), .isl (aG cs), .isl (Pn.aB ks)]), .i (.isl (aG ws)), .int lv] []=some (.int 0,[]):=by
 rw[aD rfl Tryz.func48 rfl rfl];by_cases c1:(ks.length:Int)=2
 case neg=>simp[c1]
 by_cases c2:(es.length:Int)=0
 case neg=>simp at c2;simp[c1,c2]
 by_cases c3:lv=0
 case pos=>subst c3;simp[c1,c2]
 have c3':¬ (lv:Int)=0:=by omega
 by_cases c4:t=0
 case neg=>simp[c1,c2,c3,c3',c4]
 by_cases c5:cs=[]
 case neg=>simp[c1,c2,c3,c3',c4,c5]
 exact absurd (by simp[c1,c2,c3,c3',c4,c5]) h
theorem AMD {ws:List Int} {t:Int} {es:List Ex} {cs:List Int} {ks:List Pn} {lv:Nat} (h:¬ ((ks.length:Int)=1∧(es.length:Int)=0∧lv≠0∧t=0∧cs=[])):aH C0 48 [.i (.iref [.int 7, .int t, .isl (Ex.aB es), .isl (aG cs), .isl (Pn.aB ks)]), .i (.isl (aG ws)), .int lv] []=some (.int 0,[]):=by
 rw[aD rfl Tryz.func48 rfl rfl];by_cases c1:(ks.length:Int)=1
 case neg=>simp[c1]
 by_cases c2:(es.length:Int)=0
 case neg=>simp at c2;simp[c1,c2]
 by_cases c3:lv=0
 case pos=>subst c3;simp[c1,c2]
 have c3':¬ (lv:Int)=0:=by omega
 by_cases c4:t=0
 case neg=>simp[c1,c2,c3,c3',c4]
 by_cases c5:cs=[]
 case neg=>simp[c1,c2,c3,c3',c4,c5]
 exact absurd (by simp[c1,c2,c3,c3',c4,c5]) h
theorem AMC {ws:List Int} {t:Int} {es:List Ex} {cs:List Int} {ks:List Pn} {lv:Nat} (h:¬ ((ks.length:Int)=1∧(es.length:Int)=0∧lv≠0∧t=0)):aH C0 48 [.i (.iref [.int 8, .int t, .isl (Ex.aB es), .isl (aG cs), .isl (Pn.aB ks)]), .i (.isl (aG ws)), .int lv] []=some (.int 0,[]):=by
 rw[aD rfl Tryz.func48 rfl rfl];by_cases c1:(ks.length:Int)=1
 case neg=>simp[c1]
 by_cases c2:(es.length:Int)=0
 case neg=>simp at c2;simp[c1,c2]
 by_cases c3:lv=0
 case pos=>subst c3;simp[c1,c2]
 have c3':¬ (lv:Int)=0:=by omega
 by_cases c4:t=0
 case neg=>simp[c1,c2,c3,c3',c4]
 exact absurd (by simp[c1,c2,c3,c3',c4]) h
theorem AH5 {ws:List Int} {t:Int} {lv:Nat}:aH C0 48 [.i (.iref [.int 1, .int t, .isl (Ex.aB []), .isl (aG []), .isl (Pn.aB [])]), .i (.isl (aG ws)), .int lv] []=some (.int (if 0≤t then(ws[t.toNat]?).getD 0 else 0),[]):=by
 rw[aD rfl Tryz.func48 rfl rfl];by_cases h0:0≤t
 case neg=>simp[Ex.aB,Pn.aB,aG,h0,show t<0 by omega]
 cases hx:ws[t.toNat]? with
 | none =>
  have:=zC3.1 hx;simp[Ex.aB,Pn.aB,aG,h0,show ¬ t<0 by omega,show(ws.length:Int)≤t by omega]
 | some x =>
  have r1:=(zY.1 hx).1;have r2:=bL hx;simp[Ex.aB,Pn.aB,aG,h0,show ¬ t<0 by omega,show ¬ (ws.length:Int)≤t by omega,r2,show t<ws.length by omega]
theorem AH4 {ws:List Int} {es:List Ex} {a:Pn} {lv:Nat} {va:Int} (hl:lv≠0) (hl8:lv≤8) (hd:Pn.headOk (Pn.mk 2 0 es [] [a])=true) (ha:aH C0 48 [.i (.iref a.cells), .i (.isl (aG ws)), .int (lv-1:Nat)] []=some (.int va,[])) (ra:0≤va∧va≤6):aH C0 48 [.i (.iref [.int 2, .int 0, .isl (Ex.aB es), .isl (aG []), .isl (Pn.aB [a])]), .i (.isl (aG ws)), .int lv] []=some (.int (if va=0 then 0 else dM 2 es [] va 0),[]):=by
 rw[aD rfl Tryz.func48 rfl rfl];have c3':¬ (lv:Int)=0:=by omega
 have w1:IntKind.i64.wrap ((lv:Int)-1)=(lv-1:Nat):=by rw[wrO];omega
 have r0:fH [a.cells] 0=some a.cells:=rfl;have hov:=iY (Pn.mk 2 0 es [] [a]) va 0 ra (by omega) hd;rw[Pn.bJ]at hov;simp only[Pn.fT,Pn.dO,Pn.gK,Pn.aB,aG,Ex.aB]at hov;rw[Pn.aA a]at ha hov r0
 have c2:(es.length:Int)=1:=by
  simp only[Pn.headOk,zU,zS,Pn.dO,Pn.fT]at hd;simpa using hd.2.1
 simp[c2,hl,c3',Pn.aB,aG,Ex.aB];rw[Pn.aA a];rw[aF];by_cases z1:va=0
 case pos=>simp[w1,ha,r0,z1]
 simp[w1,ha,r0,z1,bB];rw[aF];simp[hov,z1]
theorem AH3 {ws:List Int} {es:List Ex} {a:Pn} {lv:Nat} {va:Int} (hl:lv≠0) (hl8:lv≤8) (hd:Pn.headOk (Pn.mk 3 0 es [] [a])=true) (ha:aH C0 48 [.i (.iref a.cells), .i (.isl (aG ws)), .int (lv-1:Nat)] []=some (.int va,[])) (ra:0≤va∧va≤6):aH C0 48 [.i (.iref [.int 3, .int 0, .isl (Ex.aB es), .isl (aG []), .isl (Pn.aB [a])]), .i (.isl (aG ws)), .int lv] []=some (.int (if va=0 then 0 else dM 3 es [] va 0),[]):=by
 rw[aD rfl Tryz.func48 rfl rfl];have c3':¬ (lv:Int)=0:=by omega
 have w1:IntKind.i64.wrap ((lv:Int)-1)=(lv-1:Nat):=by rw[wrO];omega
 have r0:fH [a.cells] 0=some a.cells:=rfl;have hov:=iY (Pn.mk 3 0 es [] [a]) va 0 ra (by omega) hd;rw[Pn.bJ]at hov;simp only[Pn.fT,Pn.dO,Pn.gK,Pn.aB,aG,Ex.aB]at hov;rw[Pn.aA a]at ha hov r0
 have hv:bG es.length=true∨(es.length:Int)=1:=by
  simp only[Pn.headOk,zU,zS,Pn.dO,Pn.fT]at hd;have:=hd.2.1;split at this
  ·rename_i h;exact .inl h.2
  ·exact .inr (by simpa using this)
 have hv:bG es.length=true:=by
  rcases hv with h|h
  ·exact h
  ·rw[h];decide
 simp[hv,hl,c3',Pn.aB,aG,Ex.aB];rw[Pn.aA a];rw[aF];by_cases z1:va=0
 case pos=>simp[w1,ha,r0,z1]
 simp[w1,ha,r0,z1,bB];rw[aF];simp[hov,z1]
theorem AH2 {ws:List Int} {es:List Ex} {a b:Pn} {lv:Nat} {va vb:Int} (hl:lv≠0) (hl8:lv≤8) (hd:Pn.headOk (Pn.mk 4 0 es [] [a,b])=true) (ha:aH C0 48 [.i (.iref a.cells), .i (.isl (aG ws)), .int (lv-1:Nat)] []=some (.int va,[])) (ra:0≤va∧va≤6) (hb:aH C0 48 [.i (.iref b.cells), .i (.isl (aG ws)), .int (lv-1:Nat)] []=some (.int vb,[])) (rb:0≤vb∧vb≤6):aH C0 48 [.i (.iref [.int 4, .int 0, .isl (Ex.aB es), .isl (aG []), .isl (Pn.aB [a,b])]), .i (.isl (aG ws)), .int lv] []=some (.int (if va=0∨vb=0 then 0 else dM 4 es [] va vb),[]):=by
 rw[aD rfl Tryz.func48 rfl rfl];have c3':¬ (lv:Int)=0:=by omega
 have w1:IntKind.i64.wrap ((lv:Int)-1)=(lv-1:Nat):=by rw[wrO];omega
 have r0:fH [a.cells,b.cells] 0=some a.cells:=rfl;have r1:fH [a.cells,b.cells] 1=some b.cells:=rfl;have hov:=iY (Pn.mk 4 0 es [] [a,b]) va vb ra rb hd;rw[Pn.bJ]at hov;simp only[Pn.fT,Pn.dO,Pn.gK,Pn.aB,aG,Ex.aB]at hov;rw[Pn.aA a]at ha hov r0 r1;rw[Pn.aA b]at hb hov r0 r1
 have c2:(es.length:Int)=1:=by
  simp only[Pn.headOk,zU,zS,Pn.dO,Pn.fT]at hd;simpa using hd.2.1
 simp[c2,hl,c3',Pn.aB,aG,Ex.aB];rw[Pn.aA a,Pn.aA b];rw[aF];by_cases z1:va=0
 case pos=>simp[w1,ha,r0,z1]
 simp[w1,ha,r0,z1,bB];rw[aF];by_cases z2:vb=0
 case pos=>simp[w1,hb,r1,z2]
 simp[w1,hb,r1,z1,z2,wrap64 (x:=2) (by omega) (by omega)];rw[aF];simp[hov,z1,z2]
theorem AH1 {ws:List Int} {es:List Ex} {a b:Pn} {lv:Nat} {va vb:Int} (hl:lv≠0) (hl8:lv≤8) (hd:Pn.headOk (Pn.mk 5 0 es [] [a,b])=true) (ha:aH C0 48 [.i (.iref a.cells), .i (.isl (aG ws)), .int (lv-1:Nat)] []=some (.int va,[])) (ra:0≤va∧va≤6) (hb:aH C0 48 [.i (.iref b.cells), .i (.isl (aG ws)), .int (lv-1:Nat)] []=some (.int vb,[])) (rb:0≤vb∧vb≤6):aH C0 48 [.i (.iref [.int 5, .int 0, .isl (Ex.aB es), .isl (aG []), .isl (Pn.aB [a,b])]), .i (.isl (aG ws)), .int lv] []=some (.int (if va=0∨vb=0 then 0 else dM 5 es [] va vb),[]):=by
 rw[aD rfl Tryz.func48 rfl rfl];have c3':¬ (lv:Int)=0:=by omega
 have w1:IntKind.i64.wrap ((lv:Int)-1)=(lv-1:Nat):=by rw[wrO];omega
 have r0:fH [a.cells,b.cells] 0=some a.cells:=rfl;have r1:fH [a.cells,b.cells] 1=some b.cells:=rfl;have hov:=iY (Pn.mk 5 0 es [] [a,b]) va vb ra rb hd;rw[Pn.bJ]at hov;simp only[Pn.fT,Pn.dO,Pn.gK,Pn.aB,aG,Ex.aB]at hov;rw[Pn.aA a]at ha hov r0 r1;rw[Pn.aA b]at hb hov r0 r1
 have c2:(es.length:Int)=1:=by
  simp only[Pn.headOk,zU,zS,Pn.dO,Pn.fT]at hd;simpa using hd.2.1
 simp[c2,hl,c3',Pn.aB,aG,Ex.aB];rw[Pn.aA a,Pn.aA b];rw[aF];by_cases z1:va=0
 case pos=>simp[w1,ha,r0,z1]
 simp[w1,ha,r0,z1,bB];rw[aF];by_cases z2:vb=0
 case pos=>simp[w1,hb,r1,z2]
 simp[w1,hb,r1,z1,z2,wrap64 (x:=2) (by omega) (by omega)];rw[aF];simp[hov,z1,z2]
theorem AH0 {ws:List Int} {a b:Pn} {lv:Nat} {va vb:Int} (hl:lv≠0) (hl8:lv≤8) (hd:Pn.headOk (Pn.mk 6 0 [] [] [a,b])=true) (ha:aH C0 48 [.i (.iref a.cells), .i (.isl (aG ws)), .int (lv-1:Nat)] []=some (.int va,[])) (ra:0≤va∧va≤6) (hb:aH C0 48 [.i (.iref b.cells), .i (.isl (aG ws)), .int (lv-1:Nat)] []=some (.int vb,[])) (rb:0≤vb∧vb≤6):aH C0 48 [.i (.iref [.int 6, .int 0, .isl (Ex.aB []), .isl (aG []), .isl (Pn.aB [a,b])]), .i (.isl (aG ws)), .int lv] []=some (.int (if va=0∨vb=0 then 0 else dM 6 [] [] va vb),[]):=by
 rw[aD rfl Tryz.func48 rfl rfl];have c3':¬ (lv:Int)=0:=by omega
 have w1:IntKind.i64.wrap ((lv:Int)-1)=(lv-1:Nat):=by rw[wrO];omega
 have r0:fH [a.cells,b.cells] 0=some a.cells:=rfl;have r1:fH [a.cells,b.cells] 1=some b.cells:=rfl;have hov:=iY (Pn.mk 6 0 [] [] [a,b]) va vb ra rb hd;rw[Pn.bJ]at hov;simp only[Pn.fT,Pn.dO,Pn.gK,Pn.aB,aG,Ex.aB]at hov;rw[Pn.aA a]at ha hov r0 r1;rw[Pn.aA b]at hb hov r0 r1;simp[hl,c3',Pn.aB,aG,Ex.aB];rw[Pn.aA a,Pn.aA b];rw[aF];by_cases z1:va=0
 case pos=>simp[w1,ha,r0,z1]
 simp[w1,ha,r0,z1,bB];rw[aF];by_cases z2:vb=0
 case pos=>simp[w1,hb,r1,z2]
 simp[w1,hb,r1,z1,z2,wrap64 (x:=2) (by omega) (by omega)];rw[aF];simp[hov,z1,z2]
theorem AGZ {ws:List Int} {a:Pn} {lv:Nat} {va:Int} (hl:lv≠0) (hl8:lv≤8) (hd:Pn.headOk (Pn.mk 7 0 [] [] [a])=true) (ha:aH C0 48 [.i (.iref a.cells), .i (.isl (aG ws)), .int (lv-1:Nat)] []=some (.int va,[])) (ra:0≤va∧va≤6):aH C0 48 [.i (.iref [.int 7, .int 0, .isl (Ex.aB []), .isl (aG []), .isl (Pn.aB [a])]), .i (.isl (aG ws)), .int lv] []=some (.int (if va=0 then 0 else dM 7 [] [] va 0),[]):=by
 rw[aD rfl Tryz.func48 rfl rfl];have c3':¬ (lv:Int)=0:=by omega
 have w1:IntKind.i64.wrap ((lv:Int)-1)=(lv-1:Nat):=by rw[wrO];omega
 have r0:fH [a.cells] 0=some a.cells:=rfl;have hov:=iY (Pn.mk 7 0 [] [] [a]) va 0 ra (by omega) hd;rw[Pn.bJ]at hov;simp only[Pn.fT,Pn.dO,Pn.gK,Pn.aB,aG,Ex.aB]at hov;rw[Pn.aA a]at ha hov r0;simp[hl,c3',Pn.aB,aG,Ex.aB];rw[Pn.aA a];rw[aF];by_cases z1:va=0
 case pos=>simp[w1,ha,r0,z1]
 simp[w1,ha,r0,z1,bB];rw[aF];simp[hov,z1]
theorem AGY {ws:List Int} {cs:List Int} {a:Pn} {lv:Nat} {va:Int} (hl:lv≠0) (hl8:lv≤8) (hd:Pn.headOk (Pn.mk 8 0 [] cs [a])=true) (ha:aH C0 48 [.i (.iref a.cells), .i (.isl (aG ws)), .int (lv-1:Nat)] []=some (.int va,[])) (ra:0≤va∧va≤6):aH C0 48 [.i (.iref [.int 8, .int 0, .isl (Ex.aB []), .isl (aG cs), .isl (Pn.aB [a])]), .i (.isl (aG ws)), .int lv] []=some (.int (if va=0 then 0 else dM 8 [] cs va 0),[]):=by
 rw[aD rfl Tryz.func48 rfl rfl];have c3':¬ (lv:Int)=0:=by omega
 have w1:IntKind.i64.wrap ((lv:Int)-1)=(lv-1:Nat):=by rw[wrO];omega
 have r0:fH [a.cells] 0=some a.cells:=rfl;have hov:=iY (Pn.mk 8 0 [] cs [a]) va 0 ra (by omega) hd;rw[Pn.bJ]at hov;simp only[Pn.fT,Pn.dO,Pn.gK,Pn.aB,aG,Ex.aB]at hov;rw[Pn.aA a]at ha hov r0;simp[hl,c3',Pn.aB,aG,Ex.aB];rw[Pn.aA a];rw[aF];by_cases z1:va=0
 case pos=>simp[w1,ha,r0,z1]
 simp[w1,ha,r0,z1,bB];rw[aF];simp[hov,z1]
theorem oN (k t:Int) (es:List Ex) (cs:List Int) (ks:List Pn):Pn.headOk (.mk k t es cs ks)=true↔((ks.length:Int)=kD k∧(es.length:Int)=(if k=3∧bG es.length=true then(es.length:Int)else fB k)∧(k=1∨t=0)∧(k=8∨cs=[])):=by
 unfold Pn.headOk;simp only[zU,zA2,zS];exact Iff.rfl
theorem nQ {α:Type} {l:List α} (h:(l.length:Int)=1):∃ a,l=[a]:=zF6.1 (by omega)
theorem FM {α:Type} {l:List α} (h:(l.length:Int)=2):∃ a b,l=[a,b]:=by
 match l,h with
 | [a,b],_=>exact⟨a,b,rfl⟩
 | [],h=>simp at h
 | [_],h=>simp at h
 | _::_::_::_,h=>simp at h;omega
theorem iW {α:Type} {l:List α} (h:(l.length:Int)=0):l=[]:=zW.1 (by omega)
theorem CS {ws:List Int} (hw:∀ w∈ws,0≤w∧w≤6):∀ (p:Pn) (lv:Nat),lv≤8→aH C0 48 [.i (.iref p.cells), .i (.isl (aG ws)), .int lv] []=some (.int (p.wd ws lv),[]):=by
 intro p
 induction p using Pn.ind with
 | h k t es cs ks ih =>
  intro lv hlv;rw[Pn.bJ];by_cases hh:Pn.headOk (.mk k t es cs ks)=true∧(ks=[]∨lv≠0)
  case neg =>
   rw[Pn.AED hh];rw[oN]at hh
   rcases vJ k with rfl|rfl|rfl|rfl|rfl|rfl|rfl|rfl|h
   ·refine AMJ fun h=>hh ?_
    have:=iW h.1;simp[h.2.1,h.2.2.2,this]
   ·exact AMI fun h=>hh (by simp[h.1,h.2.1,h.2.2.1,h.2.2.2.1,h.2.2.2.2])
   ·exact AMH fun h=>hh (by refine⟨⟨by simp[h.1],by simpa using h.2.1,by simp[h.2.2.2.1],by simp[h.2.2.2.2]⟩, .inr h.2.2.1⟩)
   ·exact AMG fun h=>hh (by simp[h.1,h.2.1,h.2.2.1,h.2.2.2.1,h.2.2.2.2])
   ·exact AMF fun h=>hh (by simp[h.1,h.2.1,h.2.2.1,h.2.2.2.1,h.2.2.2.2])
   ·exact AME fun h=>hh (by simp[h.1,iW h.2.1,h.2.2.1,h.2.2.2.1,h.2.2.2.2])
   ·exact AMD fun h=>hh (by simp[h.1,iW h.2.1,h.2.2.1,h.2.2.2.1,h.2.2.2.2])
   ·exact AMC fun h=>hh (by simp[h.1,iW h.2.1,h.2.2.1,h.2.2.2])
   ·exact ABK h
  have hd:=hh.1;have hx:=Pn.AA ws lv (.mk k t es cs ks);rw[if_pos (by simpa using hh)]at hx;simp only[Pn.fT,Pn.kK,Pn.dO,Pn.gK,Pn.fU]at hx;rw[hx];rw[oN]at hh;obtain⟨⟨h1,h2,h3,h4⟩,h5⟩:=hh;have hr:=fun a=>Pn.kJ hw a (lv-1)
  rcases vJ k with rfl|rfl|rfl|rfl|rfl|rfl|rfl|rfl|h
  ·obtain rfl:=iW (by simpa using h1);obtain rfl:es=[]:=iW (by simpa using h2);obtain rfl:cs=[]:=by simpa using h4
   exact AH5
  ·obtain⟨a,rfl⟩:=nQ (by simpa using h1);obtain rfl:cs=[]:=by simpa using h4
   obtain rfl:t=0:=by simpa using h3
   have hl:lv≠0:=by simpa using h5
   rw[AH4 hl hlv hd (ih a (by simp) (lv-1) (by omega)) (hr a)];by_cases z:a.wd ws (lv-1)=0<;>simp[z]
  ·obtain⟨a,rfl⟩:=nQ (by simpa using h1);obtain rfl:cs=[]:=by simpa using h4
   obtain rfl:t=0:=by simpa using h3
   have hl:lv≠0:=by simpa using h5
   rw[AH3 hl hlv hd (ih a (by simp) (lv-1) (by omega)) (hr a)];by_cases z:a.wd ws (lv-1)=0<;>simp[z]
  ·obtain⟨a,b,rfl⟩:=FM (by simpa using h1);obtain rfl:cs=[]:=by simpa using h4
   obtain rfl:t=0:=by simpa using h3
   have hl:lv≠0:=by simpa using h5
   rw[AH2 hl hlv hd (ih a (by simp) (lv-1) (by omega)) (hr a) (ih b (by simp) (lv-1) (by omega)) (hr b)];by_cases z:a.wd ws (lv-1)=0<;>by_cases z2:b.wd ws (lv-1)=0<;>simp[z,z2]
  ·obtain⟨a,b,rfl⟩:=FM (by simpa using h1);obtain rfl:cs=[]:=by simpa using h4
   obtain rfl:t=0:=by simpa using h3
   have hl:lv≠0:=by simpa using h5
   rw[AH1 hl hlv hd (ih a (by simp) (lv-1) (by omega)) (hr a) (ih b (by simp) (lv-1) (by omega)) (hr b)];by_cases z:a.wd ws (lv-1)=0<;>by_cases z2:b.wd ws (lv-1)=0<;>simp[z,z2]
  ·obtain⟨a,b,rfl⟩:=FM (by simpa using h1);obtain rfl:es=[]:=iW (by simpa using h2);obtain rfl:cs=[]:=by simpa using h4
   obtain rfl:t=0:=by simpa using h3
   have hl:lv≠0:=by simpa using h5
   rw[AH0 hl hlv hd (ih a (by simp) (lv-1) (by omega)) (hr a) (ih b (by simp) (lv-1) (by omega)) (hr b)];by_cases z:a.wd ws (lv-1)=0<;>by_cases z2:b.wd ws (lv-1)=0<;>simp[z,z2]
  ·obtain⟨a,rfl⟩:=nQ (by simpa using h1);obtain rfl:es=[]:=iW (by simpa using h2);obtain rfl:cs=[]:=by simpa using h4
   obtain rfl:t=0:=by simpa using h3
   have hl:lv≠0:=by simpa using h5
   rw[AGZ hl hlv hd (ih a (by simp) (lv-1) (by omega)) (hr a)];by_cases z:a.wd ws (lv-1)=0<;>simp[z]
  ·obtain⟨a,rfl⟩:=nQ (by simpa using h1);obtain rfl:es=[]:=iW (by simpa using h2);obtain rfl:t=0:=by simpa using h3
   have hl:lv≠0:=by simpa using h5
   rw[AGY hl hlv hd (ih a (by simp) (lv-1) (by omega)) (hr a)];by_cases z:a.wd ws (lv-1)=0<;>simp[z]
  ·exact absurd h1 (by rw[ACO h];omega)
def VX (ws:List Int) (i:Nat):AS :=
 { env:=[(0, .i (.isl (aG ws))),(2, .bool false),(4,jk i (.int (ws[i-1]?.getD 0))),(12, .bool false),(13, .i (.isl (aG ws))),(14, .int ws.length),(15, .int i),(16,jk i (.bool true)),(21,jk i (.bool false))],st:=[] }
theorem NR (ws:List Int):aH C0 47 [.i (.isl (aG ws))] []=some (.bool (lZ ws),[]):=by
 rw[aD rfl Tryz.func47 rfl rfl];by_cases h1:ws.length=0
 ·have:=zW.1 h1;subst this;simp[aG,lZ]
 by_cases h4:ws.length≤4
 case neg=>simp[lZ,h4,show ¬ (ws.length:Int)<1 by omega,show 4<(ws.length:Int)by omega]
 simp[show ¬ (ws.length:Int)<1 by omega,show ¬ 4<(ws.length:Int)by omega];obtain⟨j,h1',h2⟩:=fZ bG ws;rw[aT (VX ws) j (by simp[VX])]
 ·rw[aF]
  rcases h2 with ⟨hj,ha⟩|⟨x,h3,_,h5,ha⟩
  ·simp[VX,hj,lZ,h4,ha,show 1≤ws.length by omega]
  ·have r1:=(zY.1 h3).1;have r2:=bL h3;simp[VX,r1,r2,h5,lZ,ha]
 ·intro i hi;obtain⟨x,h3,_,h5⟩:=h1' i hi;have r1:=(zY.1 h3).1;have r2:=bL h3;have w2:IntKind.i64.wrap ((i:Int)+1)=i+1:=wrO;have h3':ws[i]=x:=(zY.1 h3).2;simp[VX,r1,r2,h5,w2,h3']
theorem mG {ws:List Int} (h:lZ ws=true):∀ w∈ws,0≤w∧w≤6:=by
 intro w hw;simp only[lZ,zU]at h;have:=zR.1 h.2 w hw;simp[bG]at this;omega
theorem qK (p:Pn) (ws:List Int):aH C0 26 [.i (.agg p.cells), .i (.isl (aG ws))] []=some (.int (p.width ws),[]):=by
 rw[aD rfl Tryz.func26 rfl rfl];have hv:=NR ws
 cases h:lZ ws with
 | false=>rw[h]at hv;rw[Pn.aA];simp[hv,Pn.width,h]
 | true =>
  rw[h]at hv;have hb:=CS (mG h) p 8 (by omega);rw[show((8:Nat):Int)=8 from rfl]at hb;rw[Pn.aA]at hb ⊢;simp[hv,Pn.width,h,hb]
def only (k t:Int) (es:List Ex) (cs:List Int) (ks:List Pn):Bool:=decide (1≤k∧k≤8) && (decide ((ks.length:Int)=kD k) && (decide ((es.length:Int)=if k=3 then(es.length:Int)else fB k) && ((decide (t=0) || decide (k=1)) && (decide (cs=[]) || decide (k=8)))))
theorem fJ (k t:Int) (es:List Ex) (cs:List Int) (ks:List Pn):aH C0 96 [.i (.agg [.int k, .int t, .isl (Ex.aB es), .isl (aG cs), .isl (Pn.aB ks)])] []=some (.bool (only k t es cs ks),[]):=by
 rw[aD rfl Tryz.func96 rfl rfl]
 rcases vJ k with rfl|rfl|rfl|rfl|rfl|rfl|rfl|rfl|h
 case inr.inr.inr.inr.inr.inr.inr.inr =>
  have h1:¬ (1≤k∧k≤8):=by omega
  simp[h.1,h.2.1,h.2.2.1,h.2.2.2.1,h.2.2.2.2.1,h.2.2.2.2.2.1,h1,only]
 case inr.inr.inl =>
  by_cases c1:(ks.length:Int)=1
  case neg=>simp[c1,only]
  by_cases c3:t=0
  case neg=>simp[c1,c3,only]
  by_cases c5:cs=[]<;>simp[c1,c3,c5,only,aG]
 case inl =>
  by_cases c1:ks=[]
  case neg=>simp[c1,only]
  by_cases c2:es=[]
  case neg=>simp[c1,c2,only]
  by_cases c3:t=0<;>by_cases c5:cs=[]<;>simp[c1,c2,c3,c5,only,aG,Ex.aB,Pn.aB]
 case inr.inl =>
  by_cases c1:(ks.length:Int)=1
  case neg=>simp[c1,only]
  by_cases c2:(es.length:Int)=1
  case neg=>simp[c1,c2,only]
  by_cases c3:t=0
  case neg=>simp[c1,c2,c3,only]
  by_cases c5:cs=[]<;>simp[c1,c2,c3,c5,only,aG]
 case inr.inr.inr.inl =>
  by_cases c1:(ks.length:Int)=2
  case neg=>simp[c1,only]
  by_cases c2:(es.length:Int)=1
  case neg=>simp[c1,c2,only]
  by_cases c3:t=0
  case neg=>simp[c1,c2,c3,only]
  by_cases c5:cs=[]<;>simp[c1,c2,c3,c5,only,aG]
 case inr.inr.inr.inr.inl =>
  by_cases c1:(ks.length:Int)=2
  case neg=>simp[c1,only]
  by_cases c2:(es.length:Int)=1
  case neg=>simp[c1,c2,only]
  by_cases c3:t=0
  case neg=>simp[c1,c2,c3,only]
  by_cases c5:cs=[]<;>simp[c1,c2,c3,c5,only,aG]
 case inr.inr.inr.inr.inr.inl =>
  by_cases c1:(ks.length:Int)=2
  case neg=>simp[c1,only]
  by_cases c2:es=[]
  case neg=>simp[c1,c2,only]
  by_cases c3:t=0
  case neg=>simp[c1,c2,c3,only]
  by_cases c5:cs=[]<;>simp[c1,c2,c3,c5,only,aG,Ex.aB]
 case inr.inr.inr.inr.inr.inr.inl =>
  by_cases c1:(ks.length:Int)=1
  case neg=>simp[c1,only]
  by_cases c2:es=[]
  case neg=>simp[c1,c2,only]
  by_cases c3:t=0
  case neg=>simp[c1,c2,c3,only]
  by_cases c5:cs=[]<;>simp[c1,c2,c3,c5,only,aG,Ex.aB]
 case inr.inr.inr.inr.inr.inr.inr.inl =>
  by_cases c1:(ks.length:Int)=1
  case neg=>simp[c1,only]
  by_cases c2:es=[]
  case neg=>simp[c1,c2,only]
  by_cases c3:t=0
  case neg=>simp[c1,c2,c3,only]
  by_cases c5:cs=[]<;>simp[c1,c2,c3,c5,only,aG,Ex.aB]
theorem AUC {cs:List Int} {w:Int}:∀ {i:Nat},(∀ k,k<i→∃ x,(cs.zip (-1::cs))[k]?=some x∧x∈cs.zip (-1::cs)∧decide (x.2<x.1∧x.1<w)=true)→-1≤pv cs i∧(i≠0→0≤pv cs i)
 | 0,_=>by simp[pv]
 | i+1,h=>by
  obtain⟨x,h3,_,h4⟩:=h i (by omega);obtain⟨c1,c2⟩:=EO h3;rw[AJH c1];have hb:x.2<x.1∧x.1<w:=by simpa using h4
  have:=AUC (i:=i) fun k hk=>h k (by omega)
  omega
def CX (cs:List Int) (w:Int) (i:Nat):AS :=
 { env:=[(0, .i (.isl (aG cs))),(1, .int w),(4, .bool false),(5, .int i),(9,jk i (.bool true)),(35,jk i (.bool false))],st:=[] }
theorem V4 (cs:List Int) (w:Int) (hl:cs.length<9223372036854775808) (hw:0≤w∧w≤6):aH C0 99 [.i (.isl (aG cs)), .int w] []=some (.bool (sH w cs),[]):=by
 rw[aD rfl Tryz.func99 rfl rfl];have w1:IntKind.i64.wrap (w-1)=w-1:=wrO;simp;obtain⟨j,h1,h2⟩:=fZ (fun x:Int×Int=>decide (x.2<x.1∧x.1<w)) (cs.zip (-1::cs));rw[aT (CX cs w) j (by simp[CX])]
 ·rw[aF]
  rcases h2 with ⟨hj,ha⟩|⟨x,h3,_,h4,ha⟩
  ·rw[ADR]at hj;have ha:sH w cs=true:=ha;simp[CX,hj,ha]
  ·obtain⟨c1,c2⟩:=EO h3;have r1:=(zY.1 c1).1;have r2:=bL c1;have hb:¬ (x.2<x.1∧x.1<w):=by simpa using h4
   have ha:sH w cs=false:=ha;have hp:=AUC (i:=j) h1;by_cases hin:0≤x.1∧x.1≤w-1
   ·have hj:j≠0:=fun h=>by subst h;simp[pv]at c2;omega
    obtain⟨j,rfl⟩:∃ i,j=i+1:=⟨j-1,by omega⟩
    have q1:cs[j]?=some x.2:=by
     have:pv cs (j+1)=x.2:=c2;simp only[pv,zC9]at this;rw[zX (by omega)]at this ⊢;simpa using this
    have q2:=bL q1;have w4:IntKind.i64.wrap ((j:Int)+1-1)=j:=by rw[wrO];omega
    have w5:IntKind.i64.wrap ((j:Int))=j:=by rw[wrO]
    simp[CX,r1,r2,w1,hin,ha,q2,w4,w5,show(0:Int)<j+1 by omega,show x.1≤x.2 by omega,show(0:Int)≤(j:Int)+1 by omega,show j<cs.length by omega,show((j:Int)+1<cs.length)by omega]
   ·simp[CX,r1,r2,w1,hin,ha]
 ·intro i hi;obtain⟨x,h3,_,h4⟩:=h1 i hi;obtain⟨c1,c2⟩:=EO h3;have r1:=(zY.1 c1).1;have r2:=bL c1;have hb:x.2<x.1∧x.1<w:=by simpa using h4
  have hp:=AUC (i:=i) fun k hk=>h1 k (by omega)
  have hin:0≤x.1∧x.1≤w-1:=by omega
  have w2:IntKind.i64.wrap ((i:Int)+1)=i+1:=wrO;by_cases h0:i=0
  ·subst h0;simp[CX,r1,r2,w1,hin,bB]
  ·obtain⟨i,rfl⟩:∃ j,i=j+1:=⟨i-1,by omega⟩
   have q1:cs[i]?=some x.2:=by
    have:pv cs (i+1)=x.2:=c2;simp only[pv,zC9]at this;rw[zX (by omega)]at this ⊢;simpa using this
   have q2:=bL q1;have w5:IntKind.i64.wrap ((i:Int))=i:=by rw[wrO]
   have w2':IntKind.i64.wrap ((i:Int)+1+1)=i+1+1:=wrO;simp[CX,r1,r2,w1,hin,q2,w5,w2',show(0:Int)<i+1 by omega,show ¬ x.1≤x.2 by omega,show(0:Int)≤(i:Int)+1 by omega,show i<cs.length by omega,show((i:Int)+1<cs.length)by omega]
def pW (es:List Ex) (w:Int):Int:=if es.all (Ex.ok w)=true∧es.length≤6 then(es.length:Int)else 0
def QX (es:List Ex) (w:Int) (i:Nat):AS :=
 { env:=[(0, .i (.isl (Ex.aB es))),(1, .int w),(4, .int 0),(5, .int i),(9,jk i (.bool true)),(18,jk i (.bool false)),(21, .junk)],st:=[] }
theorem KR (es:List Ex) (w:Int) (hl:es.length<9223372036854775808):aH C0 98 [.i (.isl (Ex.aB es)), .int w] []=some (.int (pW es w),[]):=by
 rw[aD rfl Tryz.func98 rfl rfl];simp;obtain⟨j,h1,h2⟩:=fZ (Ex.ok w) es;rw[aT (QX es w) j (by simp[QX])]
 ·rw[aF]
  rcases h2 with ⟨hj,hall⟩|⟨x,h3,_,h5,hall⟩
  ·by_cases h6:es.length≤6
   ·have hq:pW es w=es.length:=if_pos ⟨hall,h6⟩;simp[QX,hj,hq,show ¬ (6:Int)<es.length by omega]
   ·have hq:pW es w=0:=if_neg fun h=>h6 h.2
    simp[QX,hj,hq,show(6:Int)<es.length by omega]
  ·have r1:=(zY.1 h3).1;have r2:=Ex.aR h3;have r3:=VK w x;rw[h5]at r3;rw[Ex.aA]at r2 r3;have hq:pW es w=0:=if_neg fun h=>by rw[hall]at h;simp at h
   simp[QX,r1,r2,r3,hq]
 ·intro i hi;obtain⟨x,h3,_,h5⟩:=h1 i hi;have r1:=(zY.1 h3).1;have r2:=Ex.aR h3;have r3:=VK w x;rw[h5]at r3;rw[Ex.aA]at r2 r3;have w2:IntKind.i64.wrap ((i:Int)+1)=i+1:=wrO;simp[QX,r1,r2,r3,w2]
def UX (ws:List Int) (i:Nat):AS :=
 { env:=[(0, .i (.isl (aG ws))),(2, .bool false),(3, .int i),(7,jk i (.bool true)),(15,jk i (.bool false))],st:=[] }
theorem JW (ws:List Int) (hl:ws.length<9223372036854775808):aH C0 44 [.i (.isl (aG ws))] []=some (.bool (lZ ws),[]):=by
 rw[aD rfl Tryz.func44 rfl rfl];simp;obtain⟨j,h1',h2⟩:=fZ bG ws;rw[aT (UX ws) j (by simp[UX])]
 ·rw[aF]
  rcases h2 with ⟨hj,ha⟩|⟨x,h3,_,h5,ha⟩
  ·by_cases h4:1≤ws.length∧ws.length≤4
   ·simp[UX,hj,lZ,h4,ha,show(1:Int)≤ws.length∧(ws.length:Int)≤4 by omega]
   ·simp[UX,hj,lZ,h4,ha,show ¬ ((1:Int)≤ws.length∧(ws.length:Int)≤4)by omega]
  ·have r1:=(zY.1 h3).1;have r2:=bL h3;have h5:¬ (1≤x∧x≤6):=by simpa [bG]using h5
   simp[UX,r1,r2,h5,lZ,ha]
 ·intro i hi;obtain⟨x,h3,_,h5⟩:=h1' i hi;have r1:=(zY.1 h3).1;have r2:=bL h3;have h5:1≤x∧x≤6:=by simpa [bG]using h5
  have w2:IntKind.i64.wrap ((i:Int)+1)=i+1:=wrO;simp[UX,r1,r2,h5,w2]
theorem AO6 {ws:List Int} {k t:Int} {es:List Ex} {cs:List Int} {ks:List Pn} {lv:Nat} (h:¬ (only k t es cs ks=true∧(ks=[]∨lv≠0))):aH C0 45 [.i (.agg [.int k, .int t, .isl (Ex.aB es), .isl (aG cs), .isl (Pn.aB ks)]), .i (.isl (aG ws)), .int lv] []=some (.int 0,[]):=by
 rw[aD rfl Tryz.func45 rfl rfl];have ho:=fJ k t es cs ks
 cases hq:only k t es cs ks with
 | false=>rw[hq]at ho;simp[ho]
 | true =>
  rw[hq]at ho;by_cases hk:ks=[]
  ·exact absurd ⟨hq, .inl hk⟩ h
  by_cases hl:lv=0
  ·have:0<ks.length:=xX.2 hk;subst hl;simp[ho,hk,this]
  ·exact absurd ⟨hq, .inr hl⟩ h
theorem AF4 {ws:List Int} {lv:Nat} {t:Int} (ho:only 1 t [] [] []=true) (hw:ws.length<1000000000):aH C0 45 [.i (.agg [.int 1, .int t, .isl (Ex.aB []), .isl (aG []), .isl (Pn.aB [])]), .i (.isl (aG ws)), .int lv] []=some (.int (if 0≤t then(ws[t.toNat]?).getD 0 else 0),[]):=by
 rw[aD rfl Tryz.func45 rfl rfl];have hf:=fJ 1 t [] [] [];rw[ho]at hf;have w1:IntKind.i64.wrap ((ws.length:Int)-1)=ws.length-1:=wrO;simp only[Ex.aB,Pn.aB,aG]at hf ⊢;simp[hf,w1];rw[aF];by_cases h0:0≤t
 case neg=>simp[h0,w1]
 cases hx:ws[t.toNat]? with
 | none =>
  have:=zC3.1 hx;simp[h0,w1,show ¬ t≤ws.length-1 by omega]
 | some x =>
  have r1:=(zY.1 hx).1;have r2:=bL hx;simp[h0,w1,show t≤ws.length-1 by omega,show t<ws.length by omega,r2]
theorem AF3 {ws:List Int} {lv:Nat} {a:Pn} {va:Int} {e:Ex} (ho:only 2 0 [e] [] [a]=true) (hl:lv≠0) (hl8:lv≤8) (ha:aH C0 45 [.i (.agg a.cells), .i (.isl (aG ws)), .int (lv-1:Nat)] []=some (.int va,[])) (ra:0≤va∧va≤6):aH C0 45 [.i (.agg [.int 2, .int 0, .isl (Ex.aB [e]), .isl (aG []), .isl (Pn.aB [a])]), .i (.isl (aG ws)), .int lv] []=some (.int (if va=0 then 0 else if e.ok va=true then va else 0),[]):=by
 rw[aD rfl Tryz.func45 rfl rfl];have hf:=fJ 2 0 [e] [] [a];rw[ho]at hf;have c3':¬ (lv:Int)=0:=by omega
 have w1:IntKind.i64.wrap ((lv:Int)-1)=(lv-1:Nat):=by rw[wrO];omega
 have w2:IntKind.i64.wrap (1:Int)=1:=bB;have w3:IntKind.i64.wrap (2:Int)=2:=wrO;have r0:fH [a.cells] 0=some a.cells:=rfl;simp only[Pn.aB,aG,Ex.aB]at hf ⊢;have q0:fH [e.cells] 0=some e.cells:=rfl;have qe:=VK (va) e;rw[Ex.aA e]at q0 qe hf ⊢;rw[Pn.aA a]at ha r0 hf ⊢;simp[hf,hl,c3'];rw[aF];by_cases z1:va=0
 case pos=>simp[w1,ha,r0,z1]
 simp[w1,w2,ha,r0,z1];rw[aF]
 cases hv:e.ok va<;>rw[hv]at qe<;>simp[z1,q0,qe]
theorem P9 {ws:List Int} {lv:Nat} {a:Pn} {va:Int} {es:List Ex} (ho:only 3 0 es [] [a]=true) (hl:lv≠0) (hl8:lv≤8) (ha:aH C0 45 [.i (.agg a.cells), .i (.isl (aG ws)), .int (lv-1:Nat)] []=some (.int va,[])) (ra:0≤va∧va≤6) (he:es.length<9223372036854775808):aH C0 45 [.i (.agg [.int 3, .int 0, .isl (Ex.aB es), .isl (aG []), .isl (Pn.aB [a])]), .i (.isl (aG ws)), .int lv] []=some (.int (if va=0 then 0 else pW es va),[]):=by
 rw[aD rfl Tryz.func45 rfl rfl];have hf:=fJ 3 0 es [] [a];rw[ho]at hf;have c3':¬ (lv:Int)=0:=by omega
 have w1:IntKind.i64.wrap ((lv:Int)-1)=(lv-1:Nat):=by rw[wrO];omega
 have w2:IntKind.i64.wrap (1:Int)=1:=bB;have w3:IntKind.i64.wrap (2:Int)=2:=wrO;have r0:fH [a.cells] 0=some a.cells:=rfl;simp only[Pn.aB,aG,Ex.aB]at hf ⊢;rw[Pn.aA a]at ha r0 hf ⊢;simp[hf,hl,c3'];rw[aF];by_cases z1:va=0
 case pos=>simp[w1,ha,r0,z1]
 simp[w1,w2,ha,r0,z1];rw[aF];have hp:=KR es va he;simp[z1,hp]
theorem AF2 {ws:List Int} {lv:Nat} {a:Pn} {va:Int} {b:Pn} {vb:Int} {e:Ex} (ho:only 4 0 [e] [] [a,b]=true) (hl:lv≠0) (hl8:lv≤8) (ha:aH C0 45 [.i (.agg a.cells), .i (.isl (aG ws)), .int (lv-1:Nat)] []=some (.int va,[])) (ra:0≤va∧va≤6) (hb:aH C0 45 [.i (.agg b.cells), .i (.isl (aG ws)), .int (lv-1:Nat)] []=some (.int vb,[])) (rb:0≤vb∧vb≤6):aH C0 45 [.i (.agg [.int 4, .int 0, .isl (Ex.aB [e]), .isl (aG []), .isl (Pn.aB [a,b])]), .i (.isl (aG ws)), .int lv] []=some (.int (if va=0∨vb=0 then 0 else if va+vb≤6∧e.ok (va+vb)=true then va+vb else 0),[]):=by
 rw[aD rfl Tryz.func45 rfl rfl];have hf:=fJ 4 0 [e] [] [a,b];rw[ho]at hf;have c3':¬ (lv:Int)=0:=by omega
 have w1:IntKind.i64.wrap ((lv:Int)-1)=(lv-1:Nat):=by rw[wrO];omega
 have w2:IntKind.i64.wrap (1:Int)=1:=bB;have w3:IntKind.i64.wrap (2:Int)=2:=wrO;have r0:fH [a.cells,b.cells] 0=some a.cells:=rfl;have r1:fH [a.cells,b.cells] 1=some b.cells:=rfl;simp only[Pn.aB,aG,Ex.aB]at hf ⊢;have q0:fH [e.cells] 0=some e.cells:=rfl;have qe:=VK (va+vb) e;rw[Ex.aA e]at q0 qe hf ⊢;rw[Pn.aA a]at ha r0 hf ⊢;rw[Pn.aA a]at r1;rw[Pn.aA b]at hb r0 r1 hf ⊢;simp[hf,hl,c3'];rw[aF];by_cases z1:va=0
 case pos=>simp[w1,ha,r0,z1]
 simp[w1,w2,ha,r0,z1];rw[aF];by_cases z2:vb=0
 case pos=>simp[w1,hb,r1,z2]
 simp[w1,hb,r1,z1,z2,w2,w3];rw[aF];have w4:IntKind.i64.wrap (va+vb)=va+vb:=wrO;by_cases h6:va+vb≤6
 ·cases hv:e.ok (va+vb)<;>rw[hv]at qe<;>simp[z1,z2,q0,qe,w4,h6]
 ·simp[z1,z2,w4,h6]
theorem AF1 {ws:List Int} {lv:Nat} {a:Pn} {va:Int} {b:Pn} {vb:Int} {e:Ex} (ho:only 5 0 [e] [] [a,b]=true) (hl:lv≠0) (hl8:lv≤8) (ha:aH C0 45 [.i (.agg a.cells), .i (.isl (aG ws)), .int (lv-1:Nat)] []=some (.int va,[])) (ra:0≤va∧va≤6) (hb:aH C0 45 [.i (.agg b.cells), .i (.isl (aG ws)), .int (lv-1:Nat)] []=some (.int vb,[])) (rb:0≤vb∧vb≤6):aH C0 45 [.i (.agg [.int 5, .int 0, .isl (Ex.aB [e]), .isl (aG []), .isl (Pn.aB [a,b])]), .i (.isl (aG ws)), .int lv] []=some (.int (if va=0∨vb=0 then 0 else if va+vb≤6∧e.ok (va+vb)=true then va+vb else 0),[]):=by
 rw[aD rfl Tryz.func45 rfl rfl];have hf:=fJ 5 0 [e] [] [a,b];rw[ho]at hf;have c3':¬ (lv:Int)=0:=by omega
 have w1:IntKind.i64.wrap ((lv:Int)-1)=(lv-1:Nat):=by rw[wrO];omega
 have w2:IntKind.i64.wrap (1:Int)=1:=bB;have w3:IntKind.i64.wrap (2:Int)=2:=wrO;have r0:fH [a.cells,b.cells] 0=some a.cells:=rfl;have r1:fH [a.cells,b.cells] 1=some b.cells:=rfl;simp only[Pn.aB,aG,Ex.aB]at hf ⊢;have q0:fH [e.cells] 0=some e.cells:=rfl;have qe:=VK (va+vb) e;rw[Ex.aA e]at q0 qe hf ⊢;rw[Pn.aA a]at ha r0 hf ⊢;rw[Pn.aA a]at r1;rw[Pn.aA b]at hb r0 r1 hf ⊢;simp[hf,hl,c3'];rw[aF];by_cases z1:va=0
 case pos=>simp[w1,ha,r0,z1]
 simp[w1,w2,ha,r0,z1];rw[aF];by_cases z2:vb=0
 case pos=>simp[w1,hb,r1,z2]
 simp[w1,hb,r1,z1,z2,w2,w3];rw[aF];have w4:IntKind.i64.wrap (va+vb)=va+vb:=wrO;by_cases h6:va+vb≤6
 ·cases hv:e.ok (va+vb)<;>rw[hv]at qe<;>simp[z1,z2,q0,qe,w4,h6]
 ·simp[z1,z2,w4,h6]
theorem AF0 {ws:List Int} {lv:Nat} {a:Pn} {va:Int} {b:Pn} {vb:Int} (ho:only 6 0 [] [] [a,b]=true) (hl:lv≠0) (hl8:lv≤8) (ha:aH C0 45 [.i (.agg a.cells), .i (.isl (aG ws)), .int (lv-1:Nat)] []=some (.int va,[])) (ra:0≤va∧va≤6) (hb:aH C0 45 [.i (.agg b.cells), .i (.isl (aG ws)), .int (lv-1:Nat)] []=some (.int vb,[])) (rb:0≤vb∧vb≤6):aH C0 45 [.i (.agg [.int 6, .int 0, .isl (Ex.aB []), .isl (aG []), .isl (Pn.aB [a,b])]), .i (.isl (aG ws)), .int lv] []=some (.int (if va=0∨vb=0 then 0 else if va=vb then va else 0),[]):=by
 rw[aD rfl Tryz.func45 rfl rfl];have hf:=fJ 6 0 [] [] [a,b];rw[ho]at hf;have c3':¬ (lv:Int)=0:=by omega
 have w1:IntKind.i64.wrap ((lv:Int)-1)=(lv-1:Nat):=by rw[wrO];omega
 have w2:IntKind.i64.wrap (1:Int)=1:=bB;have w3:IntKind.i64.wrap (2:Int)=2:=wrO;have r0:fH [a.cells,b.cells] 0=some a.cells:=rfl;have r1:fH [a.cells,b.cells] 1=some b.cells:=rfl;simp only[Pn.aB,aG,Ex.aB]at hf ⊢;rw[Pn.aA a]at ha r0 hf ⊢;rw[Pn.aA a]at r1;rw[Pn.aA b]at hb r0 r1 hf ⊢;simp[hf,hl,c3'];rw[aF];by_cases z1:va=0
 case pos=>simp[w1,ha,r0,z1]
 simp[w1,w2,ha,r0,z1];rw[aF];by_cases z2:vb=0
 case pos=>simp[w1,hb,r1,z2]
 simp[w1,hb,r1,z1,z2,w2,w3];rw[aF];by_cases h6:va=vb<;>simp[z1,z2,h6]
theorem AEZ {ws:List Int} {lv:Nat} {a:Pn} {va:Int} (ho:only 7 0 [] [] [a]=true) (hl:lv≠0) (hl8:lv≤8) (ha:aH C0 45 [.i (.agg a.cells), .i (.isl (aG ws)), .int (lv-1:Nat)] []=some (.int va,[])) (ra:0≤va∧va≤6):aH C0 45 [.i (.agg [.int 7, .int 0, .isl (Ex.aB []), .isl (aG []), .isl (Pn.aB [a])]), .i (.isl (aG ws)), .int lv] []=some (.int (if va=0 then 0 else va),[]):=by
 rw[aD rfl Tryz.func45 rfl rfl];have hf:=fJ 7 0 [] [] [a];rw[ho]at hf;have c3':¬ (lv:Int)=0:=by omega
 have w1:IntKind.i64.wrap ((lv:Int)-1)=(lv-1:Nat):=by rw[wrO];omega
 have w2:IntKind.i64.wrap (1:Int)=1:=bB;have w3:IntKind.i64.wrap (2:Int)=2:=wrO;have r0:fH [a.cells] 0=some a.cells:=rfl;simp only[Pn.aB,aG,Ex.aB]at hf ⊢;rw[Pn.aA a]at ha r0 hf ⊢;simp[hf,hl,c3'];rw[aF];by_cases z1:va=0
 case pos=>simp[w1,ha,r0,z1]
 simp[w1,w2,ha,r0,z1];rw[aF];simp[z1]
theorem AEY {ws:List Int} {lv:Nat} {a:Pn} {va:Int} {cs:List Int} (ho:only 8 0 [] cs [a]=true) (hl:lv≠0) (hl8:lv≤8) (ha:aH C0 45 [.i (.agg a.cells), .i (.isl (aG ws)), .int (lv-1:Nat)] []=some (.int va,[])) (ra:0≤va∧va≤6) (hc:cs.length<9223372036854775808):aH C0 45 [.i (.agg [.int 8, .int 0, .isl (Ex.aB []), .isl (aG cs), .isl (Pn.aB [a])]), .i (.isl (aG ws)), .int lv] []=some (.int (if va=0 then 0 else if cs.length<6∧sH va cs=true then(cs.length:Int)+1 else 0),[]):=by
 rw[aD rfl Tryz.func45 rfl rfl];have hf:=fJ 8 0 [] cs [a];rw[ho]at hf;have c3':¬ (lv:Int)=0:=by omega
 have w1:IntKind.i64.wrap ((lv:Int)-1)=(lv-1:Nat):=by rw[wrO];omega
 have w2:IntKind.i64.wrap (1:Int)=1:=bB;have w3:IntKind.i64.wrap (2:Int)=2:=wrO;have r0:fH [a.cells] 0=some a.cells:=rfl;simp only[Pn.aB,aG,Ex.aB]at hf ⊢;rw[Pn.aA a]at ha r0 hf ⊢;simp[hf,hl,c3'];rw[aF];by_cases z1:va=0
 case pos=>simp[w1,ha,r0,z1]
 simp[w1,w2,ha,r0,z1];rw[aF];have hp:=V4 cs va hc ra;by_cases h6:cs.length<6
 ·have w5:IntKind.i64.wrap ((cs.length:Int)+1)=cs.length+1:=wrO
  cases hv:sH va cs<;>rw[hv]at hp<;>simp[z1,hp,h6,show(cs.length:Int)<6 by omega,w5]
 ·cases hv:sH va cs<;>rw[hv]at hp<;>simp[z1,hp,h6,show ¬ (cs.length:Int)<6 by omega]
theorem ACK (k t:Int) (es:List Ex) (cs:List Int) (ks:List Pn):only k t es cs ks=true↔((1≤k∧k≤8)∧(ks.length:Int)=kD k∧((es.length:Int)=if k=3 then(es.length:Int)else fB k)∧(t=0∨k=1)∧(cs=[]∨k=8)):=by
 unfold only;simp only[zU,zA2,zS]
theorem nW {ws:List Int} (hw:∀ w∈ws,0≤w∧w≤6) (hwl:ws.length<1000000000):∀ (p:Pn),p.lim→∀ (lv:Nat),lv≤8→aH C0 45 [.i (.agg p.cells), .i (.isl (aG ws)), .int lv] []=some (.int (p.wd ws lv),[]):=by
 intro p
 induction p using Pn.ind with
 | h k t es cs ks ih =>
  intro hp lv hlv;have hp:=(Pn.M3 _).1 hp;simp only[Pn.dO,Pn.gK,Pn.fU]at hp;obtain⟨he,hc,-,hks⟩:=hp;rw[Pn.bJ];have hr:=fun a=>Pn.kJ hw a (lv-1)
  by_cases ho:only k t es cs ks=true∧(ks=[]∨lv≠0)
  case neg =>
   rw[AO6 ho,Pn.AED];intro hh;apply ho;refine⟨?_,hh.2⟩;have h:=(oN k t es cs ks).1 hh.1;rw[ACK];refine⟨?_,h.1,?_,h.2.2.1.symm,h.2.2.2.symm⟩
   ·rcases LG k with h1|h1|h1|h1<;>omega
   ·by_cases h3:k=3
    ·rw[if_pos h3]
    ·have:=h.2.1;rw[if_neg fun h=>h3 h.1]at this;rw[if_neg h3];exact this
  have hoo:=ho.1;have hq:=(ACK k t es cs ks).1 ho.1;obtain⟨h0,h1,h2,h3,h4⟩:=hq;have h5:=ho.2;by_cases hd:Pn.headOk (.mk k t es cs ks)=true
  case neg =>
   rw[Pn.AED fun h=>hd h.1]
   have hk3:k=3∧¬ bG es.length=true∧(es.length:Int)≠1:=by
    by_cases hk:k=3
    ·refine⟨hk,?_,?_⟩
     ·intro hv;exact hd ((oN k t es cs ks).2 ⟨h1,by rw[if_pos ⟨hk,hv⟩],h3.symm,h4.symm⟩)
     ·intro hv;have:bG es.length=true:=by rw[hv];decide
      exact hd ((oN k t es cs ks).2 ⟨h1,by rw[if_pos ⟨hk,this⟩],h3.symm,h4.symm⟩)
    ·exact absurd ((oN k t es cs ks).2 ⟨h1,by rw[if_neg fun h=>hk h.1];rwa [if_neg hk]at h2,h3.symm,h4.symm⟩) hd
   obtain⟨rfl,hv,hv1⟩:=hk3;obtain⟨a,rfl⟩:=nQ (by simpa using h1);obtain rfl:cs=[]:=by simpa using h4
   obtain rfl:t=0:=by simpa using h3
   have hl:lv≠0:=by simpa using h5
   rw[P9 hoo hl hlv (ih a (by simp) (hks a (by simp)) (lv-1) (by omega)) (hr a) he]
   have:pW es (a.wd ws (lv-1))=0:=by
    unfold pW;split
    ·rename_i h;have:¬ (1≤(es.length:Int)∧(es.length:Int)≤6):=by simpa [bG]using hv
     omega
    ·rfl
   simp[this]
  have hx:=Pn.AA ws lv (.mk k t es cs ks);rw[if_pos (by simpa using (⟨hd,h5⟩:_∧_))]at hx;simp only[Pn.fT,Pn.kK,Pn.dO,Pn.gK,Pn.fU]at hx;rw[hx]
  rcases vJ k with rfl|rfl|rfl|rfl|rfl|rfl|rfl|rfl|h
  ·obtain rfl:=iW (by simpa using h1);obtain rfl:es=[]:=iW (by simpa using h2);obtain rfl:cs=[]:=by simpa using h4
   exact AF4 hoo hwl
  ·obtain⟨a,rfl⟩:=nQ (by simpa using h1);obtain⟨e,rfl⟩:=nQ (by simpa using h2);obtain rfl:cs=[]:=by simpa using h4
   obtain rfl:t=0:=by simpa using h3
   have hl:lv≠0:=by simpa using h5
   rw[AF3 hoo hl hlv (ih a (by simp) (hks a (by simp)) (lv-1) (by omega)) (hr a)];by_cases z:a.wd ws (lv-1)=0<;>simp[z,dM]
  ·obtain⟨a,rfl⟩:=nQ (by simpa using h1);obtain rfl:cs=[]:=by simpa using h4
   obtain rfl:t=0:=by simpa using h3
   have hl:lv≠0:=by simpa using h5
   rw[P9 hoo hl hlv (ih a (by simp) (hks a (by simp)) (lv-1) (by omega)) (hr a) he];have h6:=Pn.vQ hd;simp only[Pn.dO]at h6;by_cases z:a.wd ws (lv-1)=0<;>simp[z,dM,pW,h6]
  ·obtain⟨a,b,rfl⟩:=FM (by simpa using h1);obtain⟨e,rfl⟩:=nQ (by simpa using h2);obtain rfl:cs=[]:=by simpa using h4
   obtain rfl:t=0:=by simpa using h3
   have hl:lv≠0:=by simpa using h5
   rw[AF2 hoo hl hlv (ih a (by simp) (hks a (by simp)) (lv-1) (by omega)) (hr a) (ih b (by simp) (hks b (by simp)) (lv-1) (by omega)) (hr b)];by_cases z:a.wd ws (lv-1)=0<;>by_cases z2:b.wd ws (lv-1)=0<;>simp[z,z2,dM]
  ·obtain⟨a,b,rfl⟩:=FM (by simpa using h1);obtain⟨e,rfl⟩:=nQ (by simpa using h2);obtain rfl:cs=[]:=by simpa using h4
   obtain rfl:t=0:=by simpa using h3
   have hl:lv≠0:=by simpa using h5
   rw[AF1 hoo hl hlv (ih a (by simp) (hks a (by simp)) (lv-1) (by omega)) (hr a) (ih b (by simp) (hks b (by simp)) (lv-1) (by omega)) (hr b)];by_cases z:a.wd ws (lv-1)=0<;>by_cases z2:b.wd ws (lv-1)=0<;>simp[z,z2,dM]
  ·obtain⟨a,b,rfl⟩:=FM (by simpa using h1);obtain rfl:es=[]:=iW (by simpa using h2);obtain rfl:cs=[]:=by simpa using h4
   obtain rfl:t=0:=by simpa using h3
   have hl:lv≠0:=by simpa using h5
   rw[AF0 hoo hl hlv (ih a (by simp) (hks a (by simp)) (lv-1) (by omega)) (hr a) (ih b (by simp) (hks b (by simp)) (lv-1) (by omega)) (hr b)];by_cases z:a.wd ws (lv-1)=0<;>by_cases z2:b.wd ws (lv-1)=0<;>simp[z,z2,dM]
  ·obtain⟨a,rfl⟩:=nQ (by simpa using h1);obtain rfl:es=[]:=iW (by simpa using h2);obtain rfl:cs=[]:=by simpa using h4
   obtain rfl:t=0:=by simpa using h3
   have hl:lv≠0:=by simpa using h5
   rw[AEZ hoo hl hlv (ih a (by simp) (hks a (by simp)) (lv-1) (by omega)) (hr a)];by_cases z:a.wd ws (lv-1)=0<;>simp[z,dM]
  ·obtain⟨a,rfl⟩:=nQ (by simpa using h1);obtain rfl:es=[]:=iW (by simpa using h2);obtain rfl:t=0:=by simpa using h3
   have hl:lv≠0:=by simpa using h5
   rw[AEY hoo hl hlv (ih a (by simp) (hks a (by simp)) (lv-1) (by omega)) (hr a) hc];by_cases z:a.wd ws (lv-1)=0<;>simp[z,dM]
  ·omega
theorem EY (p:Pn) (hp:p.lim) (ws:List Int) (hl:ws.length<9223372036854775808):aH C0 23 [.i (.agg p.cells), .i (.isl (aG ws))] []=some (.int (p.width ws),[]):=by
 rw[aD rfl Tryz.func23 rfl rfl];have hv:=JW ws hl
 cases h:lZ ws with
 | false=>rw[h]at hv;rw[Pn.aA];simp[hv,Pn.width,h]
 | true =>
  rw[h]at hv;have h4:ws.length≤4:=by simp[lZ]at h;omega
  have hb:=nW (mG h) (by omega) p hp 8 (by omega);rw[show((8:Nat):Int)=8 from rfl]at hb;rw[Pn.aA]at hb ⊢;simp[hv,Pn.width,h,hb]
def IX (l m:List Int) (i:Nat):AS :=
 { env:=[(0, .i (.isl (aG l))),(1, .i (.isl (aG m))),(4, .bool false),(5, .int i),(10, .bool false),(14,jk i (.bool true)),(25,jk i (.bool false))],st:=[] }
theorem Y7 {l m:List Int} (hl:l.length<9223372036854775808):aH C0 36 [.i (.isl (aG l)), .i (.isl (aG m))] []=some (.bool (l == m),[]):=by
 rw[aD rfl Tryz.func36 rfl rfl];by_cases hlm:l.length=m.length
 case neg =>
  have:(l == m)=false:=by simp;intro h;rw[h]at hlm;exact hlm rfl
  simp[show ¬ (l.length:Int)=m.length by omega,this]
 obtain⟨j,h1,h2⟩:=XP l m hlm;simp[hlm];rw[aT (IX l m) j (by simp[IX])]
 ·rw[aF]
  rcases h2 with ⟨hj,ha⟩|⟨a,b,k1,k2,k3,ha⟩
  ·simp[IX,hj,hlm];exact(beq_iff_eq.1 ha)
  ·have r1:=(zY.1 k1).1;have s1:=bL k1;have s2:=bL k2;have ha:=beq_eq_false_iff_ne.1 ha;have r3:=(zY.1 k2).1;simp[IX,r1,r3,s1,s2,k3,ha]
 ·intro i hi;obtain⟨a,k1,k2⟩:=h1 i hi;have r1:=(zY.1 k1).1;have s1:=bL k1;have s2:=bL k2;have w2:IntKind.i64.wrap ((i:Int)+1)=i+1:=wrO;have r3:=(zY.1 k2).1;simp[IX,r1,r3,s1,s2,w2]
theorem TN {l m:List Ex} (hl:l.length<1000000000) (ht:∀ a∈l,a.thin):aH C0 35 [.i (.isl (Ex.aB l)), .i (.isl (Ex.aB m))] []=some (.bool (Ex.rM l m),[]) :=
 ADF hl fun a ha b=>TP a (ht a ha) b
def PX (p q:Pn) (i:Nat):AS :=
 { env:=[(0, .i (.agg [.int p.kind, .int p.table, .isl (Ex.aB p.exprs), .isl (aG p.cols), .isl (Pn.aB p.kids)])),(1, .i (.agg [.int q.kind, .int q.table, .isl (Ex.aB q.exprs), .isl (aG q.cols), .isl (Pn.aB q.kids)])),(2, .own 0 0),(3, .own 1 0),(4, .bool false),(5, .int i),(42, .bool false),(47,jk i (.bool true)),(61,jk i (.bool false))],
   st:=[some (.box [.int p.kind, .int p.table, .i (.isl (Ex.aB p.exprs)), .i (.isl (aG p.cols)), .i (.isl (Pn.aB p.kids))]),some (.box [.int q.kind, .int q.table, .i (.isl (Ex.aB q.exprs)), .i (.isl (aG q.cols)), .i (.isl (Pn.aB q.kids))])] }
theorem MS {p q:Pn} (hp:p.thin) (ih:∀ a∈p.kids,∀ b,aH C0 19 [.i (.agg a.cells), .i (.agg b.cells)] []=some (.bool (a.eqb b),[])) :
 aH C0 19 [.i (.agg p.cells), .i (.agg q.cells)] []=some (.bool (p.eqb q),[]):=by
 have ht:=(Pn.bT _).1 hp;obtain⟨t1,t2,t3,t4,-⟩:=ht;have q1:=TN (m:=q.exprs) t1 t2;have q2:=Y7 (l:=p.cols) (m:=q.cols) (by omega);rw[aD rfl Tryz.func19 rfl rfl,Pn.aA,Pn.aA,Pn.AB8];by_cases h1:p.kind=q.kind
 case neg=>simp[h1]
 by_cases h2:p.table=q.table
 case neg=>simp[h1,h2]
 cases h3:Ex.rM p.exprs q.exprs with
 | false=>rw[h3]at q1;simp[h1,h2,q1]
 | true =>
 rw[h3]at q1;by_cases h4:p.cols=q.cols
 case neg =>
  have hb:(p.cols == q.cols)=false:=by simpa using h4
  rw[hb]at q2;simp[h1,h2,q1,q2,h4]
 have hb:(p.cols == q.cols)=true:=by simpa using h4
 rw[hb,h4]at q2;by_cases h5:p.kids.length=q.kids.length
 case neg=>simp[h1,h2,q1,q2,h4,show ¬ (p.kids.length:Int)=q.kids.length by omega,Pn.EM _ _ h5]
 obtain⟨j,u1,u2⟩:=Pn.vZ _ _ h5;simp[h1,h2,h4,q1,q2,h5];rw[aT (PX p q) j (by simp[PX,h1,h2,h4])]
 ·rw[aF]
  rcases u2 with ⟨hj,ha⟩|⟨a,b,k1,k2,k3,k4,ha⟩
  ·simp[PX,hj,h5,ha]
  ·have r1:=(zY.1 k1).1;have r3:=(zY.1 k2).1;have s1:=Pn.aR k1;have s2:=Pn.aR k2;have hc:=ih a k3 b;rw[Pn.aA]at s1 s2;rw[Pn.aA,Pn.aA]at hc;simp[PX,r1,r3,s1,s2,ha,hc,k4]
 ·intro i hi;obtain⟨a,b,k1,k2,k3,k4⟩:=u1 i hi;have r1:=(zY.1 k1).1;have r3:=(zY.1 k2).1;have s1:=Pn.aR k1;have s2:=Pn.aR k2;have hc:=ih a k3 b;have w2:IntKind.i64.wrap ((i:Int)+1)=i+1:=wrO;rw[Pn.aA]at s1 s2;rw[Pn.aA,Pn.aA]at hc;simp[PX,r1,r3,s1,s2,hc,k4,w2]
theorem EL:∀ (p:Pn),p.thin→∀ q:Pn,aH C0 19 [.i (.agg p.cells), .i (.agg q.cells)] []=some (.bool (p.eqb q),[]):=by
 intro p
 induction p using Pn.ind with
 | h k t es cs ks ih =>
  intro ht q;exact MS ht fun a ha b=>ih a ha (((Pn.bT _).1 ht).2.2.2.2 a ha) b
def SX (l m:List Int) (i:Nat):AS :=
 { env:=[(0, .i (.isl (aG l))),(1, .i (.isl (aG m))),(4, .bool false),(5,jk i (.int (i-1))),(10, .bool false),(12, .int l.length),(13, .int i),(14,jk i (.bool true)),(24,jk i (.bool false))],st:=[] }
def EX (a b:Ex) (i:Nat):AS :=
 { env:=[(0, .i (.iref [.int a.kind, .int a.col, .bool a.val.null, .int a.val.n, .isl (Ex.aB a.kids)])),(1, .i (.iref [.int b.kind, .int b.col, .bool b.val.null, .int b.val.n, .isl (Ex.aB b.kids)])),(4, .bool false),(5,jk i (.int (i-1))),(49, .bool false),(54, .int a.kids.length),(55, .int i),(56,jk i (.bool true)),(71,jk i (.bool false))],st:=[] }
def FX (a b:Ex) (i:Nat):AS :=
 { env:=[(0, .i (.agg [.int a.kind, .int a.col, .bool a.val.null, .int a.val.n, .isl (Ex.aB a.kids)])),(1, .i (.agg [.int b.kind, .int b.col, .bool b.val.null, .int b.val.n, .isl (Ex.aB b.kids)])),(2, .own 0 0),(3, .own 1 0),(4, .bool false),(5, .int i),(33, .bool false),(38,jk i (.bool true)),(52,jk i (.bool false))],
   st:=[some (.box [.int a.kind, .int a.col, .bool a.val.null, .int a.val.n, .i (.isl (Ex.aB a.kids))]),some (.box [.int b.kind, .int b.col, .bool b.val.null, .int b.val.n, .i (.isl (Ex.aB b.kids))])] }
def HX (p q:Pn) (n m:Nat) (i j k:AV) (x51 x65 x70 x83 x88 x102:AV):AS :=
 { env:=[(0, .i (.agg [.int p.kind, .int p.table, .isl (Ex.aB p.exprs), .isl (aG p.cols), .isl (Pn.aB p.kids)])),(1, .i (.agg [.int q.kind, .int q.table, .isl (Ex.aB q.exprs), .isl (aG q.cols), .isl (Pn.aB q.kids)])),(2, .own 0 0),(3, .own 1 0),(4, .bool false),(5,i),(6,j),(7,k),(46, .bool false),(51,x51),(65,x65),(70,x70),(83,x83),(88,x88),(102,x102)],
   st:=[some (.box [.int p.kind, .int p.table, .i (.isl (Ex.aB p.exprs)), .i (.isl (aG p.cols)), .i (.isl (Pn.aB p.kids))]),some (.box [.int q.kind, .int q.table, .i (.isl (Ex.aB q.exprs)), .i (.isl (aG q.cols)), .i (.isl (Pn.aB q.kids))])] }
def H1 (p q:Pn) (i:Nat):AS:=HX p q 0 0 (.int i) .junk .junk (jk i (.bool true)) (jk i (.bool false)) .junk .junk .junk .junk
def H2 (p q:Pn) (i:Nat):AS:=HX p q 0 0 (.int p.exprs.length) (.int i) .junk (.bool false) (jk p.exprs.length (.bool false)) (jk i (.bool true)) (jk i (.bool false)) .junk .junk
def KX (p:Pn) (i:Nat):AS :=
 { env:=[(0, .i (.agg [.int p.kind, .int p.table, .isl (Ex.aB p.exprs), .isl (aG p.cols), .isl (Pn.aB p.kids)])),(1, .own 0 0),(2, .own 1 0),(3, .own 2 0),(4, .int i),(5, .junk),(19,jk i (.bool true)),(37, .junk)],
   st:=some (.box [.int p.kind, .int p.table, .i (.isl (Ex.aB p.exprs)), .i (.isl (aG p.cols)), .i (.isl (Pn.aB p.kids))])::some (.box [.int 0, .int 0, .nils, .nils, .nils]) ::
    some (.box [.int p.kind, .int p.table,gro 3 5 i, .osl (if i=0 then 3 else 4) 1 0 p.cols.length, .nils])::(vT 5 (Ex.aB (p.exprs.take i)) i++[some (.arr 1 (aG p.cols))]) }
def K2 (p:Pn) (i:Nat):AS :=
 { env:=[(0, .i (.agg [.int p.kind, .int p.table, .isl (Ex.aB p.exprs), .isl (aG p.cols), .isl (Pn.aB p.kids)])),(1, .own 0 0),(2, .own 1 0),(3, .own 2 0),(4, .int p.exprs.length),(5, .int i),(19, .bool false),(37,jk i (.bool true))],
   st:=some (.box [.int p.kind, .int p.table, .i (.isl (Ex.aB p.exprs)), .i (.isl (aG p.cols)), .i (.isl (Pn.aB p.kids))])::some (.box [.int 0, .int 0, .nils, .nils, .nils]) ::
    some (.box [.int p.kind, .int p.table,gro 3 5 p.exprs.length, .osl (if p.exprs.length=0 then 3 else 4) 1 0 p.cols.length,gro (if p.exprs.length=0 then 4 else 5) 5 i])::(vT 5 (Ex.aB p.exprs) p.exprs.length++some (.arr 1 (aG p.cols))::vT 5 (Pn.aB (p.kids.take i)) i) }
def pcX (p:Pn):AV:=.agg [.int p.kind, .int p.table,gro 0 5 p.exprs.length, .osl (if p.exprs.length=0 then 0 else 1) 1 0 p.cols.length,gro (if p.exprs.length=0 then 1 else 2) 5 p.kids.length]
def pcS (p:Pn):StL:=vT 5 (Ex.aB p.exprs) p.exprs.length++some (.arr 1 (aG p.cols))::vT 5 (Pn.aB p.kids) p.kids.length
theorem TV {p:Pn} (hp:p.thin) (ih:∀ a∈p.kids,aH C0 128 [.i (.agg a.cells)] []=some (pcX a,pcS a)) :
 aH C0 128 [.i (.agg p.cells)] []=some (pcX p,pcS p):=by
 have ht:=(Pn.bT _).1 hp;obtain⟨t1,t2,t3,t4,-⟩:=ht;rw[aD rfl Tryz.func128 rfl rfl,Pn.aA];by_cases hc:p.cols=[]
 ·simp[hc,aG];rw[aT (KX p) p.exprs.length (by simp[KX,hc,aG])]
  ·rw[aF]
   cases hn:p.exprs.length with
   | zero =>
    have he:p.exprs=[]:=zW.1 hn;simp[KX,he,hc,aG,Ex.aB];rw[aT (K2 p) p.kids.length (by simp[K2,he,hc,aG,Ex.aB])]
    ·rw[aF]
     cases hm:p.kids.length with
     | zero =>
      have hk:p.kids=[]:=zW.1 hm;simp[K2,he,hc,aG,hk,Ex.aB,Pn.aB,pcX,pcS]
     | succ m =>
      have hk:p.kids.take (m+1)=p.kids:=zZ (by omega);simp[K2,he,hc,aG,hm,hk,Ex.aB,pcX,pcS]
    ·intro i hi;have h3:=zX hi;have hc':=ih _ (zV h3);have r2:=Pn.aR h3;generalize p.kids[i]=a at h3 hc' r2;have w2:IntKind.i64.wrap ((i:Int)+1)=i+1:=wrO;rw[Pn.aA]at r2 hc';simp only[pcX,pcS]at hc';have hl1:(i+1)*88≤140737488355328:=by omega
     have hl2:min i p.kids.length=i:=by omega
     by_cases a1:a.exprs=[]
     ·by_cases a2:a.kids=[]
      ·simp[a1,a2,Ex.aB,Pn.aB]at hc' r2;by_cases h0:i=0
       ·subst h0;simp[K2,he,hc,aG,hi,r2,hc',bB,aO h3,Ex.aB,Pn.aB,Pn.aA a,a1,a2]
       ·simp[K2,he,hc,aG,aL h0,aI h0,dK h0,hi,r2,hc',w2,aO h3,Ex.aB,Pn.aB,Pn.bF,hl1,hl2,zF,Pn.aA a,h0,a1,a2]
      ·have a2':a.kids.length≠0:=fun h=>a2 (zW.1 h)
       simp[a1,aL a2',aI a2',a2,Ex.aB,Pn.aB]at hc' r2;by_cases h0:i=0
       ·subst h0;simp[K2,he,hc,aG,hi,r2,hc',bB,aO h3,Ex.aB,Pn.aB,Pn.aA a,a1,aL a2',aI a2',a2]
       ·simp[K2,he,hc,aG,aL h0,aI h0,dK h0,hi,r2,hc',w2,aO h3,Ex.aB,Pn.aB,Pn.bF,hl1,hl2,zF,Pn.aA a,h0,a1,aL a2',aI a2',a2]
     ·by_cases a2:a.kids=[]
      ·have a1':a.exprs.length≠0:=fun h=>a1 (zW.1 h)
       simp[aL a1',aI a1',a1,a2,Ex.aB,Pn.aB]at hc' r2;by_cases h0:i=0
       ·subst h0;simp[K2,he,hc,aG,hi,r2,hc',bB,aO h3,Ex.aB,Pn.aB,Pn.aA a,aL a1',aI a1',a1,a2]
       ·simp[K2,he,hc,aG,aL h0,aI h0,dK h0,hi,r2,hc',w2,aO h3,Ex.aB,Pn.aB,Pn.bF,hl1,hl2,zF,Pn.aA a,h0,aL a1',aI a1',a1,a2]
      ·have a1':a.exprs.length≠0:=fun h=>a1 (zW.1 h)
       have a2':a.kids.length≠0:=fun h=>a2 (zW.1 h)
       simp[aL a1',aI a1',a1,aL a2',aI a2',a2,Ex.aB,Pn.aB]at hc' r2;by_cases h0:i=0
       ·subst h0;simp[K2,he,hc,aG,hi,r2,hc',bB,aO h3,Ex.aB,Pn.aB,Pn.aA a,aL a1',aI a1',a1,aL a2',aI a2',a2]
       ·simp[K2,he,hc,aG,aL h0,aI h0,dK h0,hi,r2,hc',w2,aO h3,Ex.aB,Pn.aB,Pn.bF,hl1,hl2,zF,Pn.aA a,h0,aL a1',aI a1',a1,aL a2',aI a2',a2]
   | succ n =>
    have he:p.exprs.take (n+1)=p.exprs:=zZ (by omega);simp[KX,hn,he,hc,aG];rw[aT (K2 p) p.kids.length (by simp[K2,hn,hc,aG,Ex.aB])]
    ·rw[aF]
     cases hm:p.kids.length with
     | zero =>
      have hk:p.kids=[]:=zW.1 hm;simp[K2,hn,hc,aG,hk,Ex.aB,Pn.aB,pcX,pcS]
     | succ m =>
      have hk:p.kids.take (m+1)=p.kids:=zZ (by omega);simp[K2,hn,hc,aG,hm,hk,Ex.aB,pcX,pcS]
    ·intro i hi;have h3:=zX hi;have hc':=ih _ (zV h3);have r2:=Pn.aR h3;generalize p.kids[i]=a at h3 hc' r2;have w2:IntKind.i64.wrap ((i:Int)+1)=i+1:=wrO;rw[Pn.aA]at r2 hc';simp only[pcX,pcS]at hc';have hl1:(i+1)*88≤140737488355328:=by omega
     have hl2:min i p.kids.length=i:=by omega
     by_cases a1:a.exprs=[]
     ·by_cases a2:a.kids=[]
      ·simp[a1,a2,Ex.aB,Pn.aB]at hc' r2;by_cases h0:i=0
       ·subst h0;simp[K2,hn,hc,aG,hi,r2,hc',bB,aO h3,Ex.aB,Pn.aB,Pn.aA a,a1,a2]
       ·simp[K2,hn,hc,aG,aL h0,aI h0,dK h0,hi,r2,hc',w2,aO h3,Ex.aB,Pn.aB,Pn.bF,hl1,hl2,zF,Pn.aA a,h0,a1,a2]
      ·have a2':a.kids.length≠0:=fun h=>a2 (zW.1 h)
       simp[a1,aL a2',aI a2',a2,Ex.aB,Pn.aB]at hc' r2;by_cases h0:i=0
       ·subst h0;simp[K2,hn,hc,aG,hi,r2,hc',bB,aO h3,Ex.aB,Pn.aB,Pn.aA a,a1,aL a2',aI a2',a2]
       ·simp[K2,hn,hc,aG,aL h0,aI h0,dK h0,hi,r2,hc',w2,aO h3,Ex.aB,Pn.aB,Pn.bF,hl1,hl2,zF,Pn.aA a,h0,a1,aL a2',aI a2',a2]
     ·by_cases a2:a.kids=[]
      ·have a1':a.exprs.length≠0:=fun h=>a1 (zW.1 h)
       simp[aL a1',aI a1',a1,a2,Ex.aB,Pn.aB]at hc' r2;by_cases h0:i=0
       ·subst h0;simp[K2,hn,hc,aG,hi,r2,hc',bB,aO h3,Ex.aB,Pn.aB,Pn.aA a,aL a1',aI a1',a1,a2]
       ·simp[K2,hn,hc,aG,aL h0,aI h0,dK h0,hi,r2,hc',w2,aO h3,Ex.aB,Pn.aB,Pn.bF,hl1,hl2,zF,Pn.aA a,h0,aL a1',aI a1',a1,a2]
      ·have a1':a.exprs.length≠0:=fun h=>a1 (zW.1 h)
       have a2':a.kids.length≠0:=fun h=>a2 (zW.1 h)
       simp[aL a1',aI a1',a1,aL a2',aI a2',a2,Ex.aB,Pn.aB]at hc' r2;by_cases h0:i=0
       ·subst h0;simp[K2,hn,hc,aG,hi,r2,hc',bB,aO h3,Ex.aB,Pn.aB,Pn.aA a,aL a1',aI a1',a1,aL a2',aI a2',a2]
       ·simp[K2,hn,hc,aG,aL h0,aI h0,dK h0,hi,r2,hc',w2,aO h3,Ex.aB,Pn.aB,Pn.bF,hl1,hl2,zF,Pn.aA a,h0,aL a1',aI a1',a1,aL a2',aI a2',a2]
  ·intro i hi;have h3:=zX hi;have hc':=BU _ (t2 _ (zV h3));have r2:=Ex.aR h3;generalize p.exprs[i]=a at h3 hc' r2;have w2:IntKind.i64.wrap ((i:Int)+1)=i+1:=wrO;rw[Ex.aA]at r2 hc';by_cases h0:i=0
   ·subst h0;simp[KX,hc,aG,hi,r2,hc',bB,aO h3,Ex.aB,Ex.aA a]
   ·simp[KX,hc,aG,aL h0,aI h0,dK h0,hi,r2,hc',w2,aO h3,Ex.bF,show min i p.exprs.length=i by omega,show(i+1)*56≤140737488355328 by omega,zF,Ex.aA a,h0]
 simp[hc,show p.cols.length*8≤140737488355328 by omega];rw[aT (KX p) p.exprs.length (by simp[KX,hc])]
 ·rw[aF]
  cases hn:p.exprs.length with
  | zero =>
   have he:p.exprs=[]:=zW.1 hn;simp[KX,he,hc,Ex.aB];rw[aT (K2 p) p.kids.length (by simp[K2,he,hc,Ex.aB])]
   ·rw[aF]
    cases hm:p.kids.length with
    | zero =>
     have hk:p.kids=[]:=zW.1 hm;simp[K2,he,hc,hk,Ex.aB,Pn.aB,pcX,pcS]
    | succ m =>
     have hk:p.kids.take (m+1)=p.kids:=zZ (by omega);simp[K2,he,hc,hm,hk,Ex.aB,pcX,pcS]
   ·intro i hi;have h3:=zX hi;have hc':=ih _ (zV h3);have r2:=Pn.aR h3;generalize p.kids[i]=a at h3 hc' r2;have w2:IntKind.i64.wrap ((i:Int)+1)=i+1:=wrO;rw[Pn.aA]at r2 hc';simp only[pcX,pcS]at hc';have hl1:(i+1)*88≤140737488355328:=by omega
    have hl2:min i p.kids.length=i:=by omega
    by_cases a1:a.exprs=[]
    ·by_cases a2:a.kids=[]
     ·simp[a1,a2,Ex.aB,Pn.aB]at hc' r2;by_cases h0:i=0
      ·subst h0;simp[K2,he,hc,hi,r2,hc',bB,aO h3,Ex.aB,Pn.aB,Pn.aA a,a1,a2]
      ·simp[K2,he,hc,aL h0,aI h0,dK h0,hi,r2,hc',w2,aO h3,Ex.aB,Pn.aB,Pn.bF,hl1,hl2,zF,Pn.aA a,h0,a1,a2]
     ·have a2':a.kids.length≠0:=fun h=>a2 (zW.1 h)
      simp[a1,aL a2',aI a2',a2,Ex.aB,Pn.aB]at hc' r2;by_cases h0:i=0
      ·subst h0;simp[K2,he,hc,hi,r2,hc',bB,aO h3,Ex.aB,Pn.aB,Pn.aA a,a1,aL a2',aI a2',a2]
      ·simp[K2,he,hc,aL h0,aI h0,dK h0,hi,r2,hc',w2,aO h3,Ex.aB,Pn.aB,Pn.bF,hl1,hl2,zF,Pn.aA a,h0,a1,aL a2',aI a2',a2]
    ·by_cases a2:a.kids=[]
     ·have a1':a.exprs.length≠0:=fun h=>a1 (zW.1 h)
      simp[aL a1',aI a1',a1,a2,Ex.aB,Pn.aB]at hc' r2;by_cases h0:i=0
      ·subst h0;simp[K2,he,hc,hi,r2,hc',bB,aO h3,Ex.aB,Pn.aB,Pn.aA a,aL a1',aI a1',a1,a2]
      ·simp[K2,he,hc,aL h0,aI h0,dK h0,hi,r2,hc',w2,aO h3,Ex.aB,Pn.aB,Pn.bF,hl1,hl2,zF,Pn.aA a,h0,aL a1',aI a1',a1,a2]
     ·have a1':a.exprs.length≠0:=fun h=>a1 (zW.1 h)
      have a2':a.kids.length≠0:=fun h=>a2 (zW.1 h)
      simp[aL a1',aI a1',a1,aL a2',aI a2',a2,Ex.aB,Pn.aB]at hc' r2;by_cases h0:i=0
      ·subst h0;simp[K2,he,hc,hi,r2,hc',bB,aO h3,Ex.aB,Pn.aB,Pn.aA a,aL a1',aI a1',a1,aL a2',aI a2',a2]
      ·simp[K2,he,hc,aL h0,aI h0,dK h0,hi,r2,hc',w2,aO h3,Ex.aB,Pn.aB,Pn.bF,hl1,hl2,zF,Pn.aA a,h0,aL a1',aI a1',a1,aL a2',aI a2',a2]
  | succ n =>
   have he:p.exprs.take (n+1)=p.exprs:=zZ (by omega);simp[KX,hn,he,hc];rw[aT (K2 p) p.kids.length (by simp[K2,hn,hc,Ex.aB])]
   ·rw[aF]
    cases hm:p.kids.length with
    | zero =>
     have hk:p.kids=[]:=zW.1 hm;simp[K2,hn,hc,hk,Ex.aB,Pn.aB,pcX,pcS]
    | succ m =>
     have hk:p.kids.take (m+1)=p.kids:=zZ (by omega);simp[K2,hn,hc,hm,hk,Ex.aB,pcX,pcS]
   ·intro i hi;have h3:=zX hi;have hc':=ih _ (zV h3);have r2:=Pn.aR h3;generalize p.kids[i]=a at h3 hc' r2;have w2:IntKind.i64.wrap ((i:Int)+1)=i+1:=wrO;rw[Pn.aA]at r2 hc';simp only[pcX,pcS]at hc';have hl1:(i+1)*88≤140737488355328:=by omega
    have hl2:min i p.kids.length=i:=by omega
    by_cases a1:a.exprs=[]
    ·by_cases a2:a.kids=[]
     ·simp[a1,a2,Ex.aB,Pn.aB]at hc' r2;by_cases h0:i=0
      ·subst h0;simp[K2,hn,hc,hi,r2,hc',bB,aO h3,Ex.aB,Pn.aB,Pn.aA a,a1,a2]
      ·simp[K2,hn,hc,aL h0,aI h0,dK h0,hi,r2,hc',w2,aO h3,Ex.aB,Pn.aB,Pn.bF,hl1,hl2,zF,Pn.aA a,h0,a1,a2]
     ·have a2':a.kids.length≠0:=fun h=>a2 (zW.1 h)
      simp[a1,aL a2',aI a2',a2,Ex.aB,Pn.aB]at hc' r2;by_cases h0:i=0
      ·subst h0;simp[K2,hn,hc,hi,r2,hc',bB,aO h3,Ex.aB,Pn.aB,Pn.aA a,a1,aL a2',aI a2',a2]
      ·simp[K2,hn,hc,aL h0,aI h0,dK h0,hi,r2,hc',w2,aO h3,Ex.aB,Pn.aB,Pn.bF,hl1,hl2,zF,Pn.aA a,h0,a1,aL a2',aI a2',a2]
    ·by_cases a2:a.kids=[]
     ·have a1':a.exprs.length≠0:=fun h=>a1 (zW.1 h)
      simp[aL a1',aI a1',a1,a2,Ex.aB,Pn.aB]at hc' r2;by_cases h0:i=0
      ·subst h0;simp[K2,hn,hc,hi,r2,hc',bB,aO h3,Ex.aB,Pn.aB,Pn.aA a,aL a1',aI a1',a1,a2]
      ·simp[K2,hn,hc,aL h0,aI h0,dK h0,hi,r2,hc',w2,aO h3,Ex.aB,Pn.aB,Pn.bF,hl1,hl2,zF,Pn.aA a,h0,aL a1',aI a1',a1,a2]
     ·have a1':a.exprs.length≠0:=fun h=>a1 (zW.1 h)
      have a2':a.kids.length≠0:=fun h=>a2 (zW.1 h)
      simp[aL a1',aI a1',a1,aL a2',aI a2',a2,Ex.aB,Pn.aB]at hc' r2;by_cases h0:i=0
      ·subst h0;simp[K2,hn,hc,hi,r2,hc',bB,aO h3,Ex.aB,Pn.aB,Pn.aA a,aL a1',aI a1',a1,aL a2',aI a2',a2]
      ·simp[K2,hn,hc,aL h0,aI h0,dK h0,hi,r2,hc',w2,aO h3,Ex.aB,Pn.aB,Pn.bF,hl1,hl2,zF,Pn.aA a,h0,aL a1',aI a1',a1,aL a2',aI a2',a2]
 ·intro i hi;have h3:=zX hi;have hc':=BU _ (t2 _ (zV h3));have r2:=Ex.aR h3;generalize p.exprs[i]=a at h3 hc' r2;have w2:IntKind.i64.wrap ((i:Int)+1)=i+1:=wrO;rw[Ex.aA]at r2 hc';by_cases h0:i=0
  ·subst h0;simp[KX,hc,hi,r2,hc',bB,aO h3,Ex.aB,Ex.aA a]
  ·simp[KX,hc,aL h0,aI h0,dK h0,hi,r2,hc',w2,aO h3,Ex.bF,show min i p.exprs.length=i by omega,show(i+1)*56≤140737488355328 by omega,zF,Ex.aA a,h0]
theorem BS:∀ (p:Pn),p.thin→aH C0 128 [.i (.agg p.cells)] []=some (pcX p,pcS p):=by
 intro p
 induction p using Pn.ind with
 | h k t es cs ks ih =>
  intro ht;exact TV ht fun a ha=>ih a ha (((Pn.bT _).1 ht).2.2.2.2 a ha)
def vB (x:Bool) (v:Pn):Option Blk:=if x=true then some (.fbox v.cells)else some (.box (nE v.cells))
end Go.Proofs.YtnmimmaahhlgeaaGreat.P
namespace Go.Av
def AAN (l:List Int) (n:Int):List Int:=if l[l.findIdx fun x=>!decide (x<n)]?=some n then l else l.take (l.findIdx fun x=>!decide (x<n))++n::l.drop (l.findIdx fun x=>!decide (x<n))
mutual
def UD:List Int→Ex→List Int
 | l, .mk k c _ ks=>oG (if k=1 then AAN l c else l) ks
def oG:List Int→List Ex→List Int
 | l,[]=>l
 | l,e::es=>oG (UD l e) es
end
theorem ABR (l:List Int) (e:Ex):UD l e=oG (if e.kind=1 then AAN l e.col else l) e.kids:=by
 cases e;simp only[UD,Ex.kind,Ex.col,Ex.kids];congr
theorem GA:∀ (ks:List Ex) (l:List Int) (e:Ex),oG l (ks++[e])=UD (oG l ks) e
 | [],l,e=>by simp[oG]
 | a::ks,l,e=>by simp[oG,GA ks]
theorem APJ {l:List Int} {n x:Int}:x∈AAN l n↔x∈l∨x=n:=by
 unfold AAN;split
 ·rename_i h;constructor
  ·exact .inl
  ·rintro(h1|rfl)
   ·exact h1
   ·exact zV h
 ·have e:l.take (l.findIdx fun x=>!decide (x<n))++l.drop (l.findIdx fun x=>!decide (x<n))=l:=zC _ _;generalize l.findIdx (fun x=>!decide (x<n))=k at *
  constructor
  ·intro h
   rcases zT.1 h with h|h
   ·exact .inl (zI h)
   ·rcases zP.1 h with h|h
    ·exact .inr h
    ·exact .inl (yO h)
  ·rintro(h|rfl)
   ·rw[← e]at h
    rcases zT.1 h with h|h
    ·exact zT.2 (.inl h)
    ·exact zT.2 (.inr (zP.2 (.inr h)))
   ·exact zT.2 (.inr (zP.2 (.inl rfl)))
def Asc (l:List Int):Prop:=l.Pairwise (· < ·)
theorem APK {l:List Int} {n:Int} (h:Asc l):Asc (AAN l n):=by
 unfold AAN;split
 ·exact h
 ·rename_i hne;have e:l.take (l.findIdx fun x=>!decide (x<n))++l.drop (l.findIdx fun x=>!decide (x<n))=l:=zC _ _
  have hlt:∀ x∈l.take (l.findIdx fun x=>!decide (x<n)),x<n:=by
   intro x hx;obtain⟨i,hi⟩:=List.mem_iff_getElem?.1 hx;rw[zD]at hi;split at hi
   ·rename_i hk;have:=List.not_of_lt_findIdx hk;rw[zX (by have:=zF7 (xs:=l) (p:=fun x=>!decide (x<n));omega)]at hi;injection hi with hi;rw[hi]at this;simpa using this
   ·cases hi
  have hge:∀ x∈l.drop (l.findIdx fun x=>!decide (x<n)),n<x:=by
   intro x hx
   rcases zG7 (l.findIdx fun x=>!decide (x<n)) l.length with hk|hk
   ·have h1:=List.findIdx_getElem (w:=hk);have hd:=yA hk;have hn:l[l.findIdx fun x=>!decide (x<n)]≠n:=fun e=>hne (by rw[zX hk,e])
    rw[hd]at hx;have hs:Asc (l.drop (l.findIdx fun x=>!decide (x<n))):=List.Pairwise.sublist (List.drop_sublist _ _) h;rw[hd]at hs;have hs:=y8.1 hs;simp at h1
    rcases zP.1 hx with rfl|hx
    ·omega
    ·have:=hs.1 x hx;omega
   ·rw[xV hk]at hx;cases hx
  generalize l.findIdx (fun x=>!decide (x<n))=k at *
  rw[← e]at h;unfold Asc at *
  rw[yC]at h ⊢;refine⟨h.1,y8.2 ⟨hge,h.2.1⟩,?_⟩;intro a ha b hb
  rcases zP.1 hb with rfl|hb
  ·exact hlt a ha
  ·exact h.2.2 a ha b hb
theorem AQS:∀ (e:Ex) (l:List Int),Asc l→Asc (UD l e):=by
 intro e
 induction e using Ex.ind with
 | h k c v ks ih =>
  intro l hl;rw[ABR]
  have:∀ (xs:List Ex) (l:List Int),(∀ e∈xs,∀ l,Asc l→Asc (UD l e))→Asc l→Asc (oG l xs):=by
   intro xs
   induction xs with
   | nil=>intro l _ h;simpa [oG]using h
   | cons a xs ihx=>intro l h1 h2;exact ihx _ (fun e he=>h1 e (by simp[he])) (h1 a (by simp) l h2)
  refine this _ _ (fun e he=>ih e (by simpa [Ex.kids]using he)) ?_;split
  ·exact APK hl
  ·exact hl
theorem AQT {m:Int} (P:Int→Bool):∀ (e:Ex) (l:List Int),e.wf m=true→((∀ x∈UD l e,P x=true)↔(∀ x∈l,P x=true)∧e.wN P=true):=by
 intro e
 induction e using Ex.ind with
 | h k c v ks ih =>
  intro l hw;rw[ABR,Ex.lW]
  have:∀ (xs:List Ex) (l:List Int),(∀ e∈xs,e∈ks)→((∀ x∈oG l xs,P x=true)↔(∀ x∈l,P x=true)∧xs.all (Ex.wN P)=true):=by
   intro xs
   induction xs with
   | nil=>intro l _;simp[oG]
   | cons a xs ihx =>
    intro l h1;have ha:=h1 a (by simp);simp only[oG,zE0,zU];rw[ihx _ fun e he=>h1 e (by simp[he]),ih a ha l (Ex.iZ hw (by simpa [Ex.kids]using ha))];exact and_assoc
  simp only[Ex.kind,Ex.col,Ex.kids];rw[this ks _ fun e he=>he];by_cases h1:k=1
  ·have hk:=(Ex.oP hw (by simpa [Ex.kind]using h1)).2.2;simp only[Ex.kids]at hk;subst hk;simp only[h1,if_true,APJ];simp;constructor
   ·intro h;exact⟨fun x hx=>h x (.inl hx),h c (.inr rfl)⟩
   ·rintro⟨h2,h3⟩ x (hx|rfl)
    ·exact h2 x hx
    ·exact h3
  ·simp only[h1,if_false]
theorem AMN {l:List Int} (h:Asc l) (lo hi:Int):(∀ x∈l,lo≤x∧x≤hi)↔(l=[]∨(∃ a,l[0]?=some a∧lo≤a)∧(∃ b,l[l.length-1]?=some b∧b≤hi)):=by
 constructor
 ·intro hall
  cases hl:l with
  | nil=>exact .inl rfl
  | cons a r =>
   right;rw[← hl];have h0:l[0]?=some a:=by rw[hl];rfl
   have hk:l.length-1<l.length:=by rw[hl];simp
   exact⟨⟨a,h0,(hall a (zV h0)).1⟩,⟨l[l.length-1],zX hk,(hall _ (xY hk)).2⟩⟩
 ·rintro(rfl|⟨⟨a,h0,h1⟩,b,h2,h3⟩) x hx
  ·cases hx
  ·obtain⟨i,hi⟩:=List.mem_iff_getElem?.1 hx
   have hil:=(zY.1 hi)
   have h0l:=(zY.1 h0)
   have h2l:=(zY.1 h2)
   obtain⟨p1,rfl⟩:=hil;obtain⟨p2,rfl⟩:=h0l;obtain⟨p3,rfl⟩:=h2l;have hp:=zE6.1 h;constructor
   ·by_cases hz:i=0
    ·subst hz;exact h1
    ·have:=hp 0 i p2 p1 (by omega);omega
   ·by_cases hz:i=l.length-1
    ·subst hz;exact h3
    ·have:=hp i (l.length-1) p1 p3 (by omega);omega
end Go.Av
namespace Go.Proofs.YtnmimmaahhlgeaaGreat.P
open Go Go.Av
set_option maxRecDepth 4000
set_option maxHeartbeats 2000000
theorem AK8 {a:Nat} (ha:a<64):a % 2 ^ IntKind.i64.bits=a:=by
 show a % 18446744073709551616=a;exact Nat.mod_eq_of_lt (by omega)
theorem AUM {a:Nat} (ha:a<64):(a:Int) % 2 ^ IntKind.i64.bits=a:=by
 show(a:Int) % 18446744073709551616=a;omega
theorem AOV {a b:Nat} (ha:a<64) (hb:b<64):IntKind.i64.wrap ((a ||| b:Nat):Int)=((a ||| b:Nat):Int):=by
 have h3:a ||| b<2 ^ 6:=zC1 (by omega) (by omega)
 exact wrO
theorem ANI {a:Nat} (ha:a<64):IntKind.i64.wrap (a:Int)=a:=wrO
def KBX (e:Ex) (i:Nat):AS :=
 { env:=[(0, .i (.iref [.int e.kind, .int e.col, .bool e.val.null, .int e.val.n, .isl (Ex.aB e.kids)])),(2, .int 0),(3, .int (Ex.uA (e.kids.take i):Nat)),(4,jk i (.int (i-1))),(9, .bool false),(19, .int e.kids.length),(20, .int i),(21,jk i (.bool true))],st:=[] }
theorem QT:∀ e:Ex,e.size<1000000000→e.wN (fun c=>decide (0≤c∧c<6))=true→aH C0 108 [.i (.iref e.cells)] []=some (.int (e.bits:Nat),[]):=by
 intro e
 induction e using Ex.ind with
 | h k c v ks ih =>
  intro hs ha;generalize he:Ex.mk k c v ks=e at *
  have hk1:k=e.kind:=by rw[← he];rfl
  have hks:ks=e.kids:=by rw[← he];rfl
  subst hks;have hsz:=Ex.size_eq e;have hln:=Ex.dR e.kids;rw[aD rfl Tryz.func108 rfl rfl,Ex.aA];rw[Ex.lW]at ha;by_cases h1:e.kind=1
  ·simp only[h1,if_true]at ha;have ha:=zO ha;rw[Ex.UA h1];have hc:e.col=0∨e.col=1∨e.col=2∨e.col=3∨e.col=4∨e.col=5:=by omega
   rcases hc with hc|hc|hc|hc|hc|hc<;>(simp[h1,hc];decide)
  ·simp only[h1,if_false,zR]at ha;rw[Ex.U8 h1];simp[h1];rw[aT (KBX e) e.kids.length (by simp[KBX,Ex.uA,h1])]
   ·rw[aF];simp[KBX]
   ·intro i hi;have h3:=zX hi;have hm:=zV h3;have r2:=Ex.aR h3;have htk:=aO h3;generalize e.kids[i]=a at h3 hm r2 htk;have hk:=ih a hm (by have:=Ex.l8 hm;omega) (ha a hm);have w2:IntKind.i64.wrap ((i:Int)+1)=i+1:=wrO;have hb:a.bits<2 ^ 6:=Ex.U9 a (ha a hm);have hbl:Ex.uA (e.kids.take i)<2 ^ 6:=Ex.UB fun x hx=>Ex.U9 x (ha x (zI hx))
    have hor:=AOV (a:=Ex.uA (e.kids.take i)) (b:=a.bits) (by omega) (by omega);rw[Ex.aA a]at r2 hk;by_cases h0:i=0
    ·subst h0;simp[KBX,hi,r2,hk,bB,htk,Ex.G7,Ex.uA,AUM (show a.bits<64 by omega),ANI (show a.bits<64 by omega)]
    ·simp[KBX,dK h0,hi,r2,hk,w2,htk,Ex.G7,hor,AK8 (show a.bits<64 by omega),AK8 (show Ex.uA (e.kids.take i)<64 by omega)]
def ANX (l:List Int) (n:Int) (i:Nat):AS :=
 { env:=[(0, .i (.isl (aG l))),(1, .int n),(4, .nils),(5, .int i),(6, .junk),(18,jk i (.bool true)),(32, .junk)],st:=[] }
theorem Z6 (l:List Int) (n:Int) (hl:l.length<1000000):aH C0 211 [.i (.isl (aG l)), .int n] []=some (.i (.isl (aG (AAN l n))),[]):=by
 rw[aD rfl Tryz.func211 rfl rfl]
 have hlt:∀ i,i<l.findIdx (fun x=>!decide (x<n))→∃ x,l[i]?=some x∧x<n:=by
  intro i hi;have hle:=zF7 (xs:=l) (p:=fun x=>!decide (x<n));have:=List.not_of_lt_findIdx hi;exact⟨l[i]'(by omega),zX (by omega),by simpa using this⟩
 have hat:∀ x,l[l.findIdx fun x=>!decide (x<n)]?=some x→¬ x<n:=by
  intro x hx;obtain⟨h1,rfl⟩:=zY.1 hx;have:=List.findIdx_getElem (w:=h1);simpa using this
 have hle:=zF7 (xs:=l) (p:=fun x=>!decide (x<n));unfold AAN;generalize l.findIdx (fun x=>!decide (x<n))=j at *
 simp;rw[aT (ANX l n) j (by simp[ANX])]
 ·rw[aF]
  cases hj:l[j]? with
  | none =>
   have hjl:j=l.length:=by have:=zC3.1 hj;omega
   subst hjl;have hb:((l.length:Int)+1)*8≤140737488355328:=by omega
   have hb1:(l.length+1)*8≤140737488355328:=by omega
   have hb2:l.length*8≤140737488355328:=by omega
   have ht:List.take (l.length+1) (aG l++[[IV.lit (Value.int IntKind.i64 n)]])=aG l++[[IV.lit (Value.int IntKind.i64 n)]]:=zZ (by simp);simp[ANX,hb1,hb2,gP,aG,ht]
  | some x =>
   have hx:=hat x hj;have hjl:=(zY.1 hj).1;have r2:=bL hj;by_cases hxn:x=n
   ·subst hxn;simp[ANX,hjl,r2]
   ·have hb1:(j+1)*8≤140737488355328:=by omega
    have hb2:j*8≤140737488355328:=by omega
    have hb3:(j+1+(l.length-j))*8≤140737488355328:=by omega
    have t1:(l.take j).length=j:=by simp;omega
    have t2:(aG (l.take j)++[[IV.lit (Value.int IntKind.i64 n)]]).take (j+1)=aG (l.take j)++[[IV.lit (Value.int IntKind.i64 n)]]:=zZ (by simp;omega);have t3:(l.drop j).take (l.length-j)=l.drop j:=zZ (by simp);have t4:(aG (l.take j)++[[IV.lit (Value.int IntKind.i64 n)]]++aG (l.drop j)).take (j+1+(l.length-j))=aG (l.take j)++[[IV.lit (Value.int IntKind.i64 n)]]++aG (l.drop j):=zZ (by simp;omega);have t5:(l.take j).take j=l.take j:=zZ (by omega);simp[ANX,hjl,hle,r2,hx,hxn,hb1,hb2,hb3,gP,aG];rw[t5,t2,t3,t4];simp
 ·intro i hi;obtain⟨x,h3,hx⟩:=hlt i hi;have r2:=bL h3;have hil:=(zY.1 h3).1;have w2:IntKind.i64.wrap ((i:Int)+1)=i+1:=wrO;simp[ANX,hil,r2,hx,w2]
end Go.Proofs.YtnmimmaahhlgeaaGreat.P
namespace Go.Av
theorem Ex.AT0 {w w':Int} (h:w≤w'):∀ e:Ex,e.wf w=true→e.wf w'=true:=by
 intro e
 induction e using Ex.ind with
 | h k c v ks ih =>
  intro hw;rw[Ex.EZ]at hw ⊢;simp only[zU]at hw ⊢;refine⟨hw.1,?_,?_⟩
  ·have h2:=hw.2.1;unfold Ex.headOk at h2 ⊢;split at h2
   ·rename_i h1;rw[if_pos h1];simp only[zU,zS]at h2 ⊢;exact⟨h2.1,by omega,h2.2.2⟩
   ·rename_i h1;rw[if_neg h1];exact h2
  ·rw[zR]at *
   exact fun x hx=>ih x hx (hw.2.2 x hx)
theorem Ex.qY {w:Int} {e:Ex} (h:e.ok w=true):e.wf w=true∧1≤w∧w≤6:=by
 unfold Ex.ok bG at h;rw[Ex.NS]at h;simp only[zU,zS]at h;exact⟨h.2.1,h.1.1,h.1.2⟩
theorem Ex.AK1 {w:Int} {e:Ex} (h:e.ok w=true):e.wf 6=true:=Ex.AT0 (Ex.qY h).2.2 e (Ex.qY h).1
theorem Ex.ABU {e:Ex} (h:e.wf 6=true):e.wN (fun c=>decide (0≤c∧c<6))=true:=Ex.JJ e h
theorem Ex.ANJ {w:Int} {e:Ex} (h:e.wf w=true):e.wN (fun c=>decide (0≤c))=true:=Ex.sM (fun c hc=>by simp only[zS]at hc ⊢;exact hc.1) e (Ex.JJ e h)
theorem Ex.AE2 {f g:Int→Bool}:∀ e:Ex,e.wN f=true→e.wN g=true→e.wN (fun c=>f c && g c)=true:=by
 intro e
 induction e using Ex.ind with
 | h k c v ks ih =>
  intro h1 h2;rw[Ex.lW]at *
  by_cases hk:k=1
  ·subst hk;simp only[Ex.kind,Ex.col,if_true]at h1 h2 ⊢;simp[h1,h2]
  ·simp only[Ex.kind,Ex.kids,hk,if_false,zR]at h1 h2 ⊢;exact fun x hx=>ih x hx (h1 x hx) (h2 x hx)
theorem AQC {e:Ex} {m:Int} (h:e.wf m=true) (lo hi:Int):(UD [] e=[]∨(∃ a,(UD [] e)[0]?=some a∧lo≤a)∧(∃ b,(UD [] e)[(UD [] e).length-1]?=some b∧b≤hi-1))↔e.cin lo hi=true:=by
 rw[← AMN (AQS e [] List.Pairwise.nil)];have:=AQT (fun x=>decide (lo≤x∧x<hi)) e [] h;unfold Ex.cin;constructor
 ·intro h1;exact(this.1 fun x hx=>by have:=h1 x hx;simp only[zS];omega).2
 ·intro h1 x hx;have:=this.2 ⟨by simp,h1⟩ x hx;simp only[zS]at this;omega
theorem Z7:∀ (e:Ex) (l:List Int),(UD l e).length≤l.length+e.size:=by
 intro e
 induction e using Ex.ind with
 | h k c v ks ih =>
  intro l;have hm:UD l (.mk k c v ks)=oG (if k=1 then AAN l c else l) ks:=by simp[UD]
  have hz:(Ex.mk k c v ks).size=1+Ex.cZ ks:=by simp[Ex.size]
  rw[hm,hz]
  have:∀ (xs:List Ex) (l:List Int),(∀ x∈xs,x∈ks)→(oG l xs).length≤l.length+Ex.cZ xs:=by
   intro xs
   induction xs with
   | nil=>intro l _;simp[oG]
   | cons a xs ihx =>
    intro l h;have h1:=ihx (UD l a) fun x hx=>h x (by simp[hx])
    have h2:=ih a (h a (by simp)) l;simp only[oG,Ex.cZ];omega
  have h2:(AAN l c).length≤l.length+1:=by
   unfold AAN;split
   ·omega
   ·simp only[zQ,yK,zM,zC4];omega
  by_cases h1:k=1
  ·rw[if_pos h1];have:=this ks (AAN l c) fun x hx=>hx
   omega
  ·rw[if_neg h1];have:=this ks l fun x hx=>hx
   omega
def okS (a:Int):Prop:=1≤a∧a≤7
theorem AQ9:∀ a b:Fin 8,a.val≠0→b.val≠0→(1≤kY 8 a.val b.val∧kY 8 a.val b.val≤7)∧(1≤kY 9 a.val b.val∧kY 9 a.val b.val≤7)∧(1≤kY 3 a.val b.val∧kY 3 a.val b.val≤7)∧(1≤kY 6 a.val b.val∧kY 6 a.val b.val≤7):=by decide
theorem AM1 {k a b:Int} (ha:okS a) (hb:okS b):okS (kY k a b):=by
 obtain⟨a,rfl⟩:=yZ (show 0≤a by have:=ha.1;omega);obtain⟨b,rfl⟩:=yZ (show 0≤b by have:=hb.1;omega);have h:=AQ9 ⟨a,by have:=ha.2;omega⟩ ⟨b,by have:=hb.2;omega⟩ (by have:=ha.1;simp;omega) (by have:=hb.1;simp;omega);unfold okS;by_cases h8:k=8
 ·subst h8;exact h.1
 ·by_cases h9:k=9
  ·subst h9;exact h.2.1
  ·by_cases h6:k<6
   ·have e:kY k a b=kY 3 a b:=by simp[kY,h8,h9,h6]
    rw[e];exact h.2.2.1
   ·have e:kY k a b=kY 6 a b:=by simp[kY,h8,h9,h6]
    rw[e];exact h.2.2.2
theorem SN:∀ a:Fin 8,a.val≠0→(1≤AZK a.val∧AZK a.val≤7)∧(1≤AX8 a.val∧AX8 a.val≤7):=by decide
theorem AIL (v:Val):okS (stV v):=by
 unfold stV okS;split
 ·omega
 ·split<;>omega
theorem L6 (st:List Int) (e:Ex):H9 st e=if e.kind=1 then(st[e.col.toNat]?).getD 0 else if e.kind=2 then stV e.val else if e.kind=10 then AZK ((e.kids[0]?.map (H9 st)).getD 0)else if e.kind=11 then AX8 ((e.kids[0]?.map (H9 st)).getD 0)else kY e.kind ((e.kids[0]?.map (H9 st)).getD 0) ((e.kids[1]?.map (H9 st)).getD 0):=by
 cases e
 simp only[H9,WV,Ex.kind,Ex.col,Ex.val,Ex.kids,zH];congr
end Go.Av
namespace Go.Proofs.YtnmimmaahhlgeaaGreat.P
open Go Go.Av
set_option maxRecDepth 4000
set_option maxHeartbeats 4000000
@[simp] theorem wr0:IntKind.i64.wrap 0=0:=by decide
@[simp] theorem wr1:IntKind.i64.wrap 1=1:=by decide
@[simp] theorem wr2:IntKind.i64.wrap 2=2:=by decide
@[simp] theorem wr3:IntKind.i64.wrap 3=3:=by decide
@[simp] theorem wr4:IntKind.i64.wrap 4=4:=by decide
@[simp] theorem wr7:IntKind.i64.wrap 7=7:=by decide
@[simp] theorem AoN:(2:Nat) ^ IntKind.i64.bits=18446744073709551616:=rfl
@[simp] theorem AoO:(2:Int) ^ IntKind.i64.bits=18446744073709551616:=rfl
def ACX (e:Ex) (l:List Int) (i:Nat):AS :=
 { env:=[(0, .i (.isl (aG (oG l (e.kids.take i))))),(1, .i (.agg [.int e.kind, .int e.col, .bool e.val.null, .int e.val.n, .isl (Ex.aB e.kids)])),(3, .own 0 0),(4, .nils),(5, .int i),(8, .bool (e.kind == 1)),(17,jk i (.bool true))],
   st:=[some (.box [.int e.kind, .int e.col, .bool e.val.null, .int e.val.n, .i (.isl (Ex.aB e.kids))])] }
theorem UC:∀ e:Ex,∀ l:List Int,l.length+e.size<1000000→aH C0 193 [.i (.isl (aG l)), .i (.agg e.cells)] []=some (.i (.isl (aG (UD l e))),[]):=by
 intro e
 induction e using Ex.ind with
 | h k c v ks ih =>
  intro l hs;generalize he:Ex.mk k c v ks=e at *
  have hks:ks=e.kids:=by rw[← he];rfl
  subst hks;have hsz:=Ex.size_eq e;have hln:=Ex.dR e.kids
  have hrd:∀ l':List Int,l'.length≤l.length+1→∀ i,i<e.kids.length→∃ a,e.kids[i]?=some a∧e.kids.take (i+1)=e.kids.take i++[a]∧fH (Ex.aB e.kids) i=some a.cells∧aH C0 193 [.i (.isl (aG (oG l' (e.kids.take i)))), .i (.agg a.cells)] []=some (.i (.isl (aG (UD (oG l' (e.kids.take i)) a))),[]):=by
   intro l' hl' i hi;have h3:=zX hi;have hm:=zV h3;have htk:=aO h3;refine⟨e.kids[i],h3,htk,Ex.aR h3,ih _ hm _ ?_⟩
   have hadd:∀ (xs:List Ex) (l:List Int),(oG l xs).length≤l.length+Ex.cZ xs:=by
    intro xs
    induction xs with
    | nil=>intro l;simp[oG]
    | cons a xs ihx=>intro l;have h1:=ihx (UD l a);have h2:=Z7 a l;simp only[oG,Ex.cZ];omega
   have h1:=hadd (e.kids.take i) l'
   have hsum:∀ (xs ys:List Ex),Ex.cZ (xs++ys)=Ex.cZ xs+Ex.cZ ys:=by
    intro xs
    induction xs with
    | nil=>intro ys;simp[Ex.cZ]
    | cons a xs ihx=>intro ys;simp[Ex.cZ,ihx,xS]
   have h2:=hsum (e.kids.take (i+1)) (e.kids.drop (i+1));rw[zC,htk,hsum]at h2;simp only[Ex.cZ]at h2;omega
  rw[aD rfl Tryz.func193 rfl rfl,Ex.aA,ABR];by_cases h1:e.kind=1
  ·have hn:=Z6 l e.col (by omega)
   have hil:(AAN l e.col).length≤l.length+1:=by
    unfold AAN;split
    ·omega
    ·simp only[zQ,yK,zM,zC4];omega
   simp[h1,hn];rw[aT (ACX e (AAN l e.col)) e.kids.length (by simp[ACX,oG,h1])]
   ·rw[aF];simp[ACX]
   ·intro i hi;obtain⟨a,h3,htk,r2,hk⟩:=hrd _ hil i hi;have w2:IntKind.i64.wrap ((i:Int)+1)=i+1:=wrO;rw[Ex.aA a]at r2 hk;simp[ACX,hi,r2,hk,w2,htk,GA]
  ·simp[h1];rw[aT (ACX e l) e.kids.length (by simp[ACX,oG,h1])]
   ·rw[aF];simp[ACX]
   ·intro i hi;obtain⟨a,h3,htk,r2,hk⟩:=hrd l (by omega) i hi;have w2:IntKind.i64.wrap ((i:Int)+1)=i+1:=wrO;rw[Ex.aA a]at r2 hk;simp[ACX,hi,r2,hk,w2,htk,GA]
theorem UM (e:Ex) {m:Int} (hw:e.wf m=true) (hs:e.size<100000) (lo hi:Int) (hh:-100≤hi∧hi≤100):aH C0 169 [.i (.agg e.cells), .int lo, .int (hi-1)] []=some (.bool (e.cin lo hi),[]):=by
 have ha:=UC e [] (by simp;omega);have hc:=AQC hw lo hi;have hsz:=Z7 e [];rw[aD rfl Tryz.func169 rfl rfl];generalize UD [] e=l at *
 rw[Ex.aA]at *
 simp only[aG]at ha
 cases hl:l with
 | nil =>
  have:e.cin lo hi=true:=hc.1 (.inl hl);rw[hl]at ha;simp[ha,this,aG]
 | cons a r =>
  have h0:l[0]?=some a:=by rw[hl];rfl
  have hlen:0<l.length:=by rw[hl];simp
  have hk:l.length-1<l.length:=by omega
  have h2:=zX hk;generalize l[l.length-1]=b at h2;have r0:=bL h0;have r2:=bL h2;have w1:IntKind.i64.wrap ((l.length:Int)-1)=((l.length-1:Nat):Int):=by rw[wrap64 (by simp at hsz;omega) (by simp at hsz;omega)];omega
  have hne:¬ l=[]:=by rw[hl];simp
  have hiff:e.cin lo hi=(decide (lo≤a) && decide (b≤hi-1)):=by
   rw[zD0,← hc];simp only[zU,zS];constructor
   ·rintro(h|⟨⟨x,hx,h3⟩,y,hy,h4⟩)
    ·exact absurd h hne
    ·rw[h0]at hx;rw[h2]at hy;injection hx with hx;injection hy with hy;subst hx;subst hy;exact⟨h3,h4⟩
   ·rintro⟨h3,h4⟩;exact .inr ⟨⟨a,h0,h3⟩,b,h2,h4⟩
  rw[hiff];by_cases q:lo≤a
  ·have q2:a ≥ lo:=q;simp[ha,hne,r0,r2,w1,hlen,hk,q]
  ·simp[ha,hne,r0,hlen,q]
theorem nD (b:Bool) (n:Int):aH C0 189 [.i (.agg [.bool b, .int n])] []=some (.int (stV ⟨b,n⟩),[]):=by
 rw[aD rfl Tryz.func189 rfl rfl]
 cases b
 ·by_cases h:n=0<;>simp[stV,h]
 ·simp[stV]
theorem VG (b:Bool) (n:Int):aH C0 212 [.i (.agg [.bool b, .int n])] []=some (.int (stV ⟨b,n⟩),[]):=by
 rw[aD rfl Tryz.func212 rfl rfl]
 cases b
 ·by_cases h:n=0<;>simp[stV,h]
 ·simp[stV]
theorem AEF (x:Int):aH C0 221 [.int x] []=some (.i (.agg [.bool (decide (x=4)), .int (if x=2 then 1 else 0)]),[]):=by
 rw[aD rfl Tryz.func221 rfl rfl];by_cases h:x=4
 ·subst h;simp
 ·by_cases h2:x=2
  ·subst h2;simp
  ·simp[h,h2]
theorem eight {a:Int} (h:0≤a∧a≤7):a=0∨a=1∨a=2∨a=3∨a=4∨a=5∨a=6∨a=7:=by omega
theorem MR {a:Int} (h:0≤a∧a≤7):aH C0 210 [.int a] []=some (.i (.isl (aP (exS a))),[]):=by
 rw[aD rfl Tryz.func210 rfl rfl];have s0:=nD false 0;have s1:=nD false 1;have s2:=nD true 0;simp only[stV,z8,if_false,if_true,Int.reduceEq]at s0 s1 s2
 rcases eight h with rfl|rfl|rfl|rfl|rfl|rfl|rfl|rfl
 all_goals
  simp;rw[aF];simp[s0,s1,s2];rw[aF];simp[s0,s1,s2];rw[aF];simp[s0,s1,s2];rw[aF];simp[exS,gB,aP]
theorem aW (e:Ex) (k:Pn):(filt e k).cells=[.int 2, .int 0, .isl [e.cells], .isl [], .isl [k.cells]]:=by simp[filt,Pn.cells,Ex.aB,aG,Pn.aB]
theorem kQ (es:List Ex) (k:Pn):(proj es k).cells=[.int 3, .int 0, .isl (Ex.aB es), .isl [], .isl [k.cells]]:=by simp[proj,Pn.cells,aG,Pn.aB]
theorem pair_cells (kd:Int) (e:Ex) (a b:Pn):(aY kd e a b).cells=[.int kd, .int 0, .isl [e.cells], .isl [], .isl [a.cells,b.cells]]:=by simp[aY,Pn.cells,Ex.aB,aG,Pn.aB]
theorem JR (a b:Pn):(cK a b).cells=[.int 6, .int 0, .isl [], .isl [], .isl [a.cells,b.cells]]:=by simp[cK,Pn.cells,Ex.aB,aG,Pn.aB]
theorem sK (a b:Ex):(R5 a b).cells=[.int 8, .int 0, .bool false, .int 0, .isl [a.cells,b.cells]]:=by simp[R5,Ex.cells,Ex.aB,Val.zero]
theorem mJ (c:Int):(YM c).cells=[.int 1, .int c, .bool false, .int 0, .isl []]:=by simp[YM,Ex.cells,Ex.aB,Val.zero]
theorem aX:Pn.zero.cells=[.int 0, .int 0, .isl [], .isl [], .isl []]:=by simp[Pn.zero,Pn.cells,Ex.aB,aG,Pn.aB]
theorem fP (e:Ex) (k:Pn):aH C0 106 [.i (.agg e.cells), .i (.agg k.cells)] []=some (.i (.agg (filt e k).cells),[]):=by
 rw[aD rfl Tryz.func106 rfl rfl,aW,Ex.aA,Pn.aA];simp
theorem p9 (kd:Int) (e:Ex) (a b:Pn):aH C0 109 [.int kd, .i (.agg e.cells), .i (.agg a.cells), .i (.agg b.cells)] []=some (.i (.agg (aY kd e a b).cells),[]):=by
 rw[aD rfl Tryz.func109 rfl rfl,pair_cells,Ex.aA,Pn.aA a,Pn.aA b];simp
theorem AM9 (a b:Ex):aH C0 107 [.i (.agg a.cells), .i (.agg b.cells)] []=some (.i (.agg (R5 a b).cells),[]):=by
 rw[aD rfl Tryz.func107 rfl rfl,sK,Ex.aA a,Ex.aA b];simp
theorem FP (c:Int):aH C0 113 [.int c] []=some (.i (.agg (YM c).cells),[]):=by
 rw[aD rfl Tryz.func113 rfl rfl,mJ];simp
theorem gQ {p:Pn} {kd:Int} (h:p.kind≠2):aH C0 105 [.i (.iref p.cells), .int kd] []=some (.tup [.i (.lit (.pointer none)), .i (.lit (.pointer none)), .bool false],[]):=by
 rw[aD rfl Tryz.func105 rfl rfl,Pn.aA];simp[h]
theorem eX {e:Ex} {k:Pn} {kd:Int} (h:k.kind≠kd):aH C0 105 [.i (.iref (filt e k).cells), .int kd] []=some (.tup [.i (.lit (.pointer none)), .i (.lit (.pointer none)), .bool false],[]):=by
 rw[aD rfl Tryz.func105 rfl rfl,aW,Pn.aA k];simp[h]
theorem gV {e:Ex} {k:Pn} {kd:Int} (h:k.kind=kd):aH C0 105 [.i (.iref (filt e k).cells), .int kd] []=some (.tup [.i (.iref e.cells), .i (.iref k.cells), .bool true],[]):=by
 rw[aD rfl Tryz.func105 rfl rfl,aW,Pn.aA k,Ex.aA e];simp[h]
theorem AAC (c w:Int) (h0:0≤c∧c≤6) (hw:0≤w∧w≤6):aH C0 111 [.int c, .own 0 0] [some (.box [.int w])]=some (.int (c-w),[some (.box [.int w])]):=by
 rw[aD rfl Tryz.func111 rfl rfl];have w1:IntKind.i64.wrap (c-w)=c-w:=wrO;simp[w1]
theorem PN (c a b:Int) (h0:0≤c∧c≤12) (ha:0≤a∧a≤6) (hb:0≤b∧b≤6):aH C0 112 [.int c, .own 0 0, .own 1 0] [some (.box [.int a]),some (.box [.int b])]=some (.int (nN a b c),[some (.box [.int a]),some (.box [.int b])]):=by
 rw[aD rfl Tryz.func112 rfl rfl];have w1:IntKind.i64.wrap (c-a)=c-a:=wrO;have w2:IntKind.i64.wrap (c+b)=c+b:=wrO;unfold nN;by_cases h:c<a
 ·simp[h,w2]
 ·simp[h,w1]
def zrw:List IV:=[.int 0, .int 0, .bool false, .int 0, .isl []]
@[simp] theorem ALU {e:Ex} (h:e.size<1000000000):aH C0 61 [.i (.iref e.cells)] []=some (.i (.agg e.cells),[]):=by
  rw[aN (p:=N8) rfl];exact ADN h
theorem AJD {e:Ex} {w:Int} (hw:0≤w∧w≤6) (hk:e.kind=1) (hc:0≤e.col∧e.col<6) :
 aH C0 158 [.i (.iref e.cells), .own 0 0] [some (.box [.fn (.func 111) [.own 1 0]]),some (.box [.int w])]=some (.i (.agg (YM (e.col-w)).cells),[some (.box [.fn (.func 111) [.own 1 0]]),some (.box [.int w])]):=by
 have hp:=AAC e.col w (by omega) hw;have h2:=FP (e.col-w);rw[aD rfl Tryz.func158 rfl rfl,Ex.aA e];rw[mJ]at *
 simp[hk,hp,h2]
theorem AJB {e:Ex} {w:Int} (hk:e.kind≠1) (hs:e.size<1000000000) :
 aH C0 158 [.i (.iref e.cells), .own 0 0] [some (.box [.fn (.func 111) [.own 1 0]]),some (.box [.int w])]=some (.i (.agg e.cells),[some (.box [.fn (.func 111) [.own 1 0]]),some (.box [.int w])]):=by
 have hc:=ALU hs;rw[aD rfl Tryz.func158 rfl rfl];rw[Ex.aA e]at *
 simp[hk,hc]
def RNR (e:Ex) (w:Int) (f:Ex→Ex) (i:Nat):AS :=
 { env:=[(0, .i (.iref [.int e.kind, .int e.col, .bool e.val.null, .int e.val.n, .isl (Ex.aB e.kids)])),(1, .fn (.func 158) [.own 0 0]),(4, .own 2 0),(5, .own 3 0),(6,jk i (.int (i-1))),(12, .bool ((e.kids.length:Int) == 0)),(39, .int e.kids.length),(40, .int i),(41,jk i (.bool true))],
   st:=[some (.box [.fn (.func 111) [.own 1 0]]),some (.box [.int w]),some (.box [.int 0, .int 0, .bool false, .int 0, .nils]),some (.box [.int e.kind, .int e.col, .bool e.val.null, .int e.val.n, .osl 4 5 0 e.kids.length]),some (.arr 5 (Ex.aB ((e.kids.map f).take i)++List.replicate (e.kids.length-i) zrw))] }
theorem AcN {e:Ex} {w:Int} {f:Ex→Ex} (hk:e.kids≠[]) (hl:e.kids.length<1000000000) (ih:∀ x∈e.kids,aH C0 157 [.i (.iref x.cells), .fn (.func 158) [.own 0 0]] [some (.box [.fn (.func 111) [.own 1 0]]),some (.box [.int w])]=some (.i (.agg (f x).cells),[some (.box [.fn (.func 111) [.own 1 0]]),some (.box [.int w])])) :
 aH C0 157 [.i (.iref e.cells), .fn (.func 158) [.own 0 0]] [some (.box [.fn (.func 111) [.own 1 0]]),some (.box [.int w])]=some (.i (.agg (Ex.mk e.kind e.col e.val (e.kids.map f)).cells),[some (.box [.fn (.func 111) [.own 1 0]]),some (.box [.int w])]):=by
 rw[aD rfl Tryz.func157 rfl rfl,Ex.aA];have hb:56*(e.kids.length:Int)≤281474976710656:=by omega
 simp[hk,hb];rw[aT (RNR e w f) e.kids.length (by simp[RNR,Ex.aB,zrw])]
 ·rw[aF];have ht:(e.kids.map f).take e.kids.length=e.kids.map f:=zZ (by simp);simp[RNR,Ex.cells,ht]
 ·intro i hi;have h3:=zX hi;have hm:=zV h3;have hc:=ih _ hm;have r2:=Ex.aR h3;generalize e.kids[i]=x at h3 hc r2;have w2:IntKind.i64.wrap ((i:Int)+1)=i+1:=wrO;rw[Ex.aA]at hc r2;have hD:(Ex.aB ((e.kids.map f).take i)).length=i:=by simp;omega
  have hS:Ex.aB ((e.kids.map f).take i)++[(f x).cells]=Ex.aB ((e.kids.map f).take (i+1)):=by rw[aO (a:=f x) (by simp[h3]),Ex.bF]
  have g1:=JD (n:=e.kids.length) (z:=zrw) hD hi;have g2:=JC (n:=e.kids.length) (z:=zrw) (x:=(f x).cells) hD hi;have g3:splice zrw 0 (f x).cells=some (f x).cells:=wQ (by simp[zrw]);rw[hS]at g2;simp[RNR,hi,r2,hc,w2,g1,g2,g3]
theorem AZ5 {e x:Ex} {w:Int} (hk:e.kids=[]) (h:aH C0 158 [.i (.iref e.cells), .own 0 0] [some (.box [.fn (.func 111) [.own 1 0]]),some (.box [.int w])]=some (.i (.agg x.cells),[some (.box [.fn (.func 111) [.own 1 0]]),some (.box [.int w])])) :
 aH C0 157 [.i (.iref e.cells), .fn (.func 158) [.own 0 0]] [some (.box [.fn (.func 111) [.own 1 0]]),some (.box [.int w])]=some (.i (.agg x.cells),[some (.box [.fn (.func 111) [.own 1 0]]),some (.box [.int w])]):=by
 rw[aD rfl Tryz.func157 rfl rfl];rw[Ex.aA e]at h ⊢;rw[Ex.aA x]at h ⊢;simp[hk,Ex.aB]at h ⊢;simp[h]
theorem AJ5 {w:Int} (hw:0≤w∧w≤6):∀ (e:Ex),e.wf 6=true→e.size<1000000000→aH C0 157 [.i (.iref e.cells), .fn (.func 158) [.own 0 0]] [some (.box [.fn (.func 111) [.own 1 0]]),some (.box [.int w])]=some (.i (.agg (e.rJ (·-w)).cells),[some (.box [.fn (.func 111) [.own 1 0]]),some (.box [.int w])]):=by
 intro e
 induction e using Ex.ind with
 | h k c v ks ih =>
  intro hx6 hs;have hsz:=Ex.size_eq (.mk k c v ks);have hln:=Ex.dR ks;simp only[Ex.kids]at hsz;by_cases h1:k=1
  ·have hc:=Ex.oP hx6 (by simpa [Ex.kind]using h1);rw[Ex.ED _ (by simpa [Ex.kind]using h1)];exact AZ5 hc.2.2 (AJD hw (by simpa [Ex.kind]using h1) ⟨hc.1,hc.2.1⟩)
  ·rw[Ex.EC _ (by simpa [Ex.kind]using h1)];by_cases hk:ks=[]
   ·subst hk;exact AZ5 rfl (AJB (by simpa [Ex.kind]using h1) hs)
   ·exact AcN hk (by simp only[Ex.kids];omega) fun x hx=>ih x hx (Ex.iZ hx6 hx) (by have:=Ex.l8 (l:=ks) hx;omega)
theorem AA5 {w:Int} (hw:0≤w∧w≤6) (e:Ex) (hx6:e.wf 6=true) (hs:e.size<1000000000):aH C0 110 [.i (.iref e.cells), .fn (.func 111) [.own 0 0]] [some (.box [.int w])]=some (.i (.agg (e.rJ (·-w)).cells),[some (.box [.int w])]):=by
 have h:=AJ5 hw e hx6 hs;rw[aD rfl Tryz.func110 rfl rfl];generalize e.rJ (·-w)=x at *
 rw[Ex.aA e,Ex.aA x]at *
 simp[h]
theorem AJC {e:Ex} {a b:Int} (ha:0≤a∧a≤6) (hb:0≤b∧b≤6) (hk:e.kind=1) (hc:0≤e.col∧e.col<6) :
 aH C0 158 [.i (.iref e.cells), .own 0 0] [some (.box [.fn (.func 112) [.own 1 0, .own 2 0]]),some (.box [.int a]),some (.box [.int b])]=some (.i (.agg (YM (nN a b e.col)).cells),[some (.box [.fn (.func 112) [.own 1 0, .own 2 0]]),some (.box [.int a]),some (.box [.int b])]):=by
 have hp:=PN e.col a b (by omega) ha hb;have h2:=FP (nN a b e.col);rw[aD rfl Tryz.func158 rfl rfl,Ex.aA e];rw[mJ]at *
 simp[hk,hp,h2]
theorem AJA {e:Ex} {a b:Int} (hk:e.kind≠1) (hs:e.size<1000000000) :
 aH C0 158 [.i (.iref e.cells), .own 0 0] [some (.box [.fn (.func 112) [.own 1 0, .own 2 0]]),some (.box [.int a]),some (.box [.int b])]=some (.i (.agg e.cells),[some (.box [.fn (.func 112) [.own 1 0, .own 2 0]]),some (.box [.int a]),some (.box [.int b])]):=by
 have hc:=ALU hs;rw[aD rfl Tryz.func158 rfl rfl];rw[Ex.aA e]at *
 simp[hk,hc]
def RNS (e:Ex) (a b:Int) (f:Ex→Ex) (i:Nat):AS :=
 { env:=[(0, .i (.iref [.int e.kind, .int e.col, .bool e.val.null, .int e.val.n, .isl (Ex.aB e.kids)])),(1, .fn (.func 158) [.own 0 0]),(4, .own 3 0),(5, .own 4 0),(6,jk i (.int (i-1))),(12, .bool ((e.kids.length:Int) == 0)),(39, .int e.kids.length),(40, .int i),(41,jk i (.bool true))],
   st:=[some (.box [.fn (.func 112) [.own 1 0, .own 2 0]]),some (.box [.int a]),some (.box [.int b]),some (.box [.int 0, .int 0, .bool false, .int 0, .nils]),some (.box [.int e.kind, .int e.col, .bool e.val.null, .int e.val.n, .osl 5 5 0 e.kids.length]),some (.arr 5 (Ex.aB ((e.kids.map f).take i)++List.replicate (e.kids.length-i) zrw))] }
theorem AcM {e:Ex} {a b:Int} {f:Ex→Ex} (hk:e.kids≠[]) (hl:e.kids.length<1000000000) (ih:∀ x∈e.kids,aH C0 157 [.i (.iref x.cells), .fn (.func 158) [.own 0 0]] [some (.box [.fn (.func 112) [.own 1 0, .own 2 0]]),some (.box [.int a]),some (.box [.int b])]=some (.i (.agg (f x).cells),[some (.box [.fn (.func 112) [.own 1 0, .own 2 0]]),some (.box [.int a]),some (.box [.int b])])) :
 aH C0 157 [.i (.iref e.cells), .fn (.func 158) [.own 0 0]] [some (.box [.fn (.func 112) [.own 1 0, .own 2 0]]),some (.box [.int a]),some (.box [.int b])]=some (.i (.agg (Ex.mk e.kind e.col e.val (e.kids.map f)).cells),[some (.box [.fn (.func 112) [.own 1 0, .own 2 0]]),some (.box [.int a]),some (.box [.int b])]):=by
 rw[aD rfl Tryz.func157 rfl rfl,Ex.aA];have hb:56*(e.kids.length:Int)≤281474976710656:=by omega
 simp[hk,hb];rw[aT (RNS e a b f) e.kids.length (by simp[RNS,Ex.aB,zrw])]
 ·rw[aF];have ht:(e.kids.map f).take e.kids.length=e.kids.map f:=zZ (by simp);simp[RNS,Ex.cells,ht]
 ·intro i hi;have h3:=zX hi;have hm:=zV h3;have hc:=ih _ hm;have r2:=Ex.aR h3;generalize e.kids[i]=x at h3 hc r2;have w2:IntKind.i64.wrap ((i:Int)+1)=i+1:=wrO;rw[Ex.aA]at hc r2;have hD:(Ex.aB ((e.kids.map f).take i)).length=i:=by simp;omega
  have hS:Ex.aB ((e.kids.map f).take i)++[(f x).cells]=Ex.aB ((e.kids.map f).take (i+1)):=by rw[aO (a:=f x) (by simp[h3]),Ex.bF]
  have g1:=JD (n:=e.kids.length) (z:=zrw) hD hi;have g2:=JC (n:=e.kids.length) (z:=zrw) (x:=(f x).cells) hD hi;have g3:splice zrw 0 (f x).cells=some (f x).cells:=wQ (by simp[zrw]);rw[hS]at g2;simp[RNS,hi,r2,hc,w2,g1,g2,g3]
theorem AZ4 {e x:Ex} {a b:Int} (hk:e.kids=[]) (h:aH C0 158 [.i (.iref e.cells), .own 0 0] [some (.box [.fn (.func 112) [.own 1 0, .own 2 0]]),some (.box [.int a]),some (.box [.int b])]=some (.i (.agg x.cells),[some (.box [.fn (.func 112) [.own 1 0, .own 2 0]]),some (.box [.int a]),some (.box [.int b])])) :
 aH C0 157 [.i (.iref e.cells), .fn (.func 158) [.own 0 0]] [some (.box [.fn (.func 112) [.own 1 0, .own 2 0]]),some (.box [.int a]),some (.box [.int b])]=some (.i (.agg x.cells),[some (.box [.fn (.func 112) [.own 1 0, .own 2 0]]),some (.box [.int a]),some (.box [.int b])]):=by
 rw[aD rfl Tryz.func157 rfl rfl];rw[Ex.aA e]at h ⊢;rw[Ex.aA x]at h ⊢;simp[hk,Ex.aB]at h ⊢;simp[h]
theorem AJ4 {a b:Int} (ha:0≤a∧a≤6) (hb:0≤b∧b≤6):∀ (e:Ex),e.wf 6=true→e.size<1000000000→aH C0 157 [.i (.iref e.cells), .fn (.func 158) [.own 0 0]] [some (.box [.fn (.func 112) [.own 1 0, .own 2 0]]),some (.box [.int a]),some (.box [.int b])]=some (.i (.agg (e.rJ (nN a b)).cells),[some (.box [.fn (.func 112) [.own 1 0, .own 2 0]]),some (.box [.int a]),some (.box [.int b])]):=by
 intro e
 induction e using Ex.ind with
 | h k c v ks ih =>
  intro hx6 hs;have hsz:=Ex.size_eq (.mk k c v ks);have hln:=Ex.dR ks;simp only[Ex.kids]at hsz;by_cases h1:k=1
  ·have hc:=Ex.oP hx6 (by simpa [Ex.kind]using h1);rw[Ex.ED _ (by simpa [Ex.kind]using h1)];exact AZ4 hc.2.2 (AJC ha hb (by simpa [Ex.kind]using h1) ⟨hc.1,hc.2.1⟩)
  ·rw[Ex.EC _ (by simpa [Ex.kind]using h1)];by_cases hk:ks=[]
   ·subst hk;exact AZ4 rfl (AJA (by simpa [Ex.kind]using h1) hs)
   ·exact AcM hk (by simp only[Ex.kids];omega) fun x hx=>ih x hx (Ex.iZ hx6 hx) (by have:=Ex.l8 (l:=ks) hx;omega)
theorem AA4 {a b:Int} (ha:0≤a∧a≤6) (hb:0≤b∧b≤6) (e:Ex) (hx6:e.wf 6=true) (hs:e.size<1000000000):aH C0 110 [.i (.iref e.cells), .fn (.func 112) [.own 0 0, .own 1 0]] [some (.box [.int a]),some (.box [.int b])]=some (.i (.agg (e.rJ (nN a b)).cells),[some (.box [.int a]),some (.box [.int b])]):=by
 have h:=AJ4 ha hb e hx6 hs;rw[aD rfl Tryz.func110 rfl rfl];generalize e.rJ (nN a b)=x at *
 rw[Ex.aA e,Ex.aA x]at *
 simp[h]
end Go.Proofs.YtnmimmaahhlgeaaGreat.P

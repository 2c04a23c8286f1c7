/- Part 4 of what the proof rests on: the executor and what it is worth, and the program's functions as it runs them. No condition. -/
import Derived.Test.YtnmimmaahhlgeaaGreatT3
set_option linter.unusedVariables false
set_option linter.unusedSimpArgs false
namespace Go.Av
section
variable {wi:World} {mi:Mem} {nt:Nat}
theorem GR.AeT {ok:Nat→Prop} {R:World→Mem→Pl→Prop} {env:Nat→AV} {st:Store} {a:Act} {w:World} {u bq oq:Nat} {cs:List IV} (h:GR wi mi nt ok R env st a w) (hu:env u=.i (.lit (.pointer (some ⟨bq,oq,none⟩)))) (hc:IAt mi bq oq cs):GR wi mi nt ok R (upd env u (.i (.iref cs))) st a w:=by
 refine h.turn fun m φ h1 h2 h3 h4 h5=>⟨m,φ,h1,fun t=>?_,h3,h4,h5⟩
 by_cases ht:t=u
 ·subst ht;have:=h2 t;rw[hu]at this;simp only[upd,if_true];rw[this.dG];exact .i (.iref (hc.mono h3.mle))
 ·simp only[upd,ht,if_false];exact h2 t
end
theorem AtP.see {w:World} {m:Mem} {x:Pn} {b o:Nat} {F:List Nat} {path:List Int} {y:Pn} {bq oq:Nat} {Fa Fy Fz:List Nat} (h:AtP w m x b o F path y bq oq Fa Fy Fz):∃ v0 v1 v2 v3 ao cap,IAt (jQ w) bq oq [.lit v0, .lit v1, .lit v2, .lit v3, .lit (.slice ao y.kids.length cap)]∧w.cell? ⟨bq,oq+4,none⟩=some (.slice ao y.kids.length cap):=by
 obtain⟨v0,v1,v2,v3,v4,h5,hone,⟨ao,cap,rfl⟩,_,_⟩:=h.th.cells;exact⟨v0,v1,v2,v3,ao,cap, .cons h5.c0 (.lit _) (hone _ (by simp)) (.cons h5.c1 (.lit _) (hone _ (by simp)) (.cons h5.c2 (.lit _) (hone _ (by simp)) (.cons h5.c3 (.lit _) (hone _ (by simp)) (.cons h5.c4 (.lit _) (hone _ (by simp)) (.nil _ _))))),h5.c4⟩
end Go.Av
namespace Go.Proofs.YtnmimmaahhlgeaaGreat.G
open Go Go.Av
set_option maxRecDepth 4000
set_option maxHeartbeats 4000000
def AEV (v0:AV) (path:List Int) (v6 v13 v26:AV) (i:Nat):List (Nat×AV):=[(0,v0),(1, .i (.isl (aH path))),(4, .i (.lit (.pointer none))),(6,v6),(9, .bool false),(10, .i (.isl (aH path))),(11, .int path.length),(12, .int i),(13,v13),(26,v26)]
theorem AZL (v0 v0':AV) (path:List Int) (v6 v13 v26:AV) (i:Nat):upd (aW (AEV v0 path v6 v13 v26 i)) 0 v0'=aW (AEV v0' path v6 v13 v26 i):=by
 funext t;simp only[upd,AEV,aW];by_cases h0:t=0
 ·subst h0;simp
 ·simp only[h0,if_false]
theorem AQ2 {w:World} {m:Mem} {p y:Pn} {root:Nat} {F:List Nat} {path:List Int} (hth:TH w m p root 0 F []) (hr:root ∉ F) (hn:F.Nodup) (hy:Pn.at path p=some y) (hl:path.length≤8) {vs:List Value} (hvs:RepL (jQ w) (fun _=>none) [.i (.lit (.pointer (some ⟨root,0,none⟩))), .i (.isl (aH path))] vs) :
 Calls Tryz.prog 27 vs.toArray w fun e w'=>∃ bq oq Fa Fy Fz m',e=.returned (.pointer (some ⟨bq,oq,none⟩))∧AtP w m p root 0 F path y bq oq Fa Fy Fz∧o8 w' m'∧Adv w (jQ w) (fun _=>none) w' m' (fun _=>none):=by
 refine calls_of_wp (fn:=Tryz.f27) Tryz.func27 rfl ?_;have hv1:vs.length=2:=by simpa using hvs.length.symm
 have g0:GR w (jQ w) 35 (fun id=>id<({ env:=[(0, .i (.lit (.pointer (some ⟨root,0,none⟩)))),(1, .i (.isl (aH path)))],st:=[] }:AS).st.length) (fun _ _ _=>True) (aW [(0, .i (.lit (.pointer (some ⟨root,0,none⟩)))),(1, .i (.isl (aH path)))]) (bJ []) { tmps:=vs.toArray++Array.replicate (35-vs.toArray.size) undef,defers:=[] } w:=by
  refine⟨⟨jQ w,fun _=>none,inv0 w,?_, .refl _ _ _,fun id h=>absurd rfl h,trivial⟩,by simp;omega,rfl⟩;intro t;have:=nA (m:=jQ w) (φ:=fun _=>none) (35-vs.toArray.size) hvs t
  rcases t with _|_|t
  ·simpa [aW,uF]using this
  ·simpa [aW,uF]using this
  ·simp only[aW];simp;exact .junk _
 refine wp_seq (wp_mono (GR.fM lG (G:=GS 27) (S:={ env:=[(0, .i (.lit (.pointer (some ⟨root,0,none⟩)))),(1, .i (.isl (aH path)))],st:=[] }) (e:=.normal) (S':={ env:=[(0, .i (.lit (.pointer (some ⟨root,0,none⟩)))),(1, .i (.isl (aH path))),(4, .i (.lit (.pointer none))),(6, .junk),(9, .junk),(10, .junk),(11, .junk),(12, .junk),(13, .junk),(26, .junk)],st:=[] }) nM (by kernel_rfl) (by simp) g0) ?_);rintro _ a1 w1 ⟨rfl,g1⟩;have hle:¬ (8:Int)<path.length:=by omega
 refine wp_seq (wp_mono (GR.fM lG (G:=GS 27) (S:={ env:=[(0, .i (.lit (.pointer (some ⟨root,0,none⟩)))),(1, .i (.isl (aH path))),(4, .i (.lit (.pointer none))),(6, .junk),(9, .junk),(10, .junk),(11, .junk),(12, .junk),(13, .junk),(26, .junk)],st:=[] }) (e:=.normal) (S':={ env:=[(0, .i (.lit (.pointer (some ⟨root,0,none⟩)))),(1, .i (.isl (aH path))),(4, .i (.lit (.pointer none))),(6, .junk),(9, .bool false),(10, .junk),(11, .junk),(12, .junk),(13, .junk),(26, .junk)],st:=[] }) nM (by kernel_rfl) (by simp[hle]) g1) ?_);rintro _ a2 w2 ⟨rfl,g2⟩;refine wp_seq (wp_seq (wp_mono (GR.fM lG (G:=GS 27) (S:={ env:=[(0, .i (.lit (.pointer (some ⟨root,0,none⟩)))),(1, .i (.isl (aH path))),(4, .i (.lit (.pointer none))),(6, .junk),(9, .bool false),(10, .junk),(11, .junk),(12, .junk),(13, .junk),(26, .junk)],st:=[] }) (e:=.normal) (S':={ env:=AEV (.i (.lit (.pointer (some ⟨root,0,none⟩)))) path .junk .junk .junk 0,st:=[] }) nM (by kernel_rfl) (by simp[AEV]) g2) ?_));rintro _ a3 w3 ⟨rfl,g3⟩;clear g0 g1 g2;refine wp_block ?_;refine CO (fun n a w'=>∃ (i:Nat) (z:Pn) (bq oq:Nat) (Fa Fy Fz:List Nat),n=path.length-i∧i≤path.length∧AtP w m p root 0 F (path.take i) z bq oq Fa Fy Fz∧GR w (jQ w) 35 (fun id=>id<0) (fun _ _ _=>True) (aW (AEV (.i (.lit (.pointer (some ⟨bq,oq,none⟩)))) path .junk .junk .junk i)) (bJ []) a w') ?_ (n:=path.length) ⟨0,p,root,0,[],F,[],by omega,by omega,by simpa using AtP.start hth hr hn,g3⟩;clear g3;rintro n a w' ⟨i,z,bq,oq,Fa,Fy,Fz,rfl,hi,hat,g⟩;by_cases hi2:i=path.length
 ·subst hi2;rw[zE1]at hat;have hz:z=y:=by have:=hat.is;rw[hy]at this;injection this with this;exact this.symm
  subst hz;refine wp_mono (GR.fM lG (G:=GS 27) (S:={ env:=AEV (.i (.lit (.pointer (some ⟨bq,oq,none⟩)))) path .junk .junk .junk path.length,st:=[] }) (e:=.exit 0) (S':={ env:=AEV (.i (.lit (.pointer (some ⟨bq,oq,none⟩)))) path .junk (.bool false) .junk path.length,st:=[] }) nM (by kernel_rfl) (by simp[AEV]) g) ?_;rintro _ a5 w5 ⟨rfl,g5⟩;simp only[nN,Exit.then,Exit.inBlock,if_true];refine wp_mono (GR.fM lG (G:=GS 27) (S:={ env:=AEV (.i (.lit (.pointer (some ⟨bq,oq,none⟩)))) path .junk (.bool false) .junk path.length,st:=[] }) (e:=.ret) (S':={ env:=[(0, .i (.lit (.pointer (some ⟨bq,oq,none⟩)))),(1, .i (.isl (aH path))),(4, .i (.lit (.pointer (some ⟨bq,oq,none⟩)))),(6, .junk),(9, .bool false),(10, .i (.isl (aH path))),(11, .int path.length),(12, .int path.length),(13, .bool false),(26, .junk)],st:=[] }) nM (by kernel_rfl) (by simp[AEV]) g5) ?_;rintro _ a6 w6 ⟨rfl,g6⟩;obtain⟨⟨m2,φ2,q1,q2,q3,q4,q5⟩,q6,q7⟩:=g6
  have hφ:φ2=fun _=>none:=by
   funext id
   cases h:φ2 id with
   | none=>rfl
   | some p=>exact absurd (q4 id (by rw[h];simp)) (zB5 _)
  subst hφ
  obtain⟨v,k1,k2⟩:=iJ (C:=C2) (fn:=Tryz.f27) (keep:=false) (na:=0) (S:={ env:=[(0, .i (.lit (.pointer (some ⟨bq,oq,none⟩)))),(1, .i (.isl (aH path))),(4, .i (.lit (.pointer (some ⟨bq,oq,none⟩)))),(6, .junk),(9, .bool false),(10, .i (.isl (aH path))),(11, .int path.length),(12, .int path.length),(13, .bool false),(26, .junk)],st:=[] }) (r:=.i (.lit (.pointer (some ⟨bq,oq,none⟩)))) (stl':=[]) (fun id h=>absurd rfl h) ⟨⟨⟨m2,fun _=>none,q1,q2,q3,q4, .nil _ _ _⟩,q6,q7⟩,xG _⟩ (by
   show finish C2 false [ResultVar.tmp 4] 0 _=_
   simp)
  have hv:v=.pointer (some ⟨bq,oq,none⟩):=by
   obtain⟨_,_,_,e,r,_⟩:=k2;injection e with e;subst e;exact r.dG
  subst hv;exact⟨q7,_,k1,bq,oq,Fa,Fy,Fz,m2,rfl,hat,q1.mem,q3⟩
 ·have hi3:i<path.length:=by omega
  have q1:=zX hi3
  have hsplit:path=path.take i++path[i]::path.drop (i+1):=by
   rw[← y8 hi3,zA]
  have hr2:Pn.at (path[i]::path.drop (i+1)) z=some y:=by
   rw[hsplit]at hy
   rwa [wB _ _ _ _ hat.is]at hy
  obtain⟨x,hx,zk,hk1,hk2⟩:=Pn.tT hr2;obtain⟨b',cap,hc1,hc2,Fa',Fy',Fz',hat'⟩:=hat.step hk1;obtain⟨v0,v1,v2,v3,ao,cap',hsee,hsee2⟩:=hat.see;rw[hc1]at hsee2;injection hsee2 with hsee2;injection hsee2 with e1 _ e3;subst e1;subst e3;have htk:path.take i++[(x:Int)]=path.take (i+1):=by rw[← hx,zF3,q1];rfl
  rw[htk]at hat';have r1:=dH q1;rw[hx]at r1;have hxl:x<z.kids.length:=(zY.1 hk1).1;have g1:=g.AeT (u:=0) rfl hsee;rw[AZL]at g1;have w2:IntKind.i64.wrap ((i:Int)+1)=i+1:=wrO
  refine wp_mono (GR.fM lG (G:=GS 27) (S:={ env:=AEV (.i (.iref [.lit v0, .lit v1, .lit v2, .lit v3, .lit (.slice (some ⟨b',0,none⟩) z.kids.length cap)])) path .junk .junk .junk i,st:=[] }) (e:=.normal) (S':={ env:=AEV (.i (.lit (.pointer (some ⟨b',x*5,none⟩)))) path (.int x) (.bool true) (.bool false) (i+1),st:=[] }) nM (by kernel_rfl) (by
   have n1:¬ (x:Int)<0:=by omega
   have n2:¬ z.kids.length≤x:=by omega
   simp[AEV,hi3,r1,hxl,w2,n1,n2]) g1) ?_
  rintro _ a5 w5 ⟨rfl,g5⟩;simp only[nN,Exit.then,Exit.inBlock];refine⟨path.length-(i+1),by omega,i+1,zk,b',5*x,Fa',Fy',Fz',rfl,by omega,hat',?_⟩;rw[yU 5 x]
  exact g5.envTo (by
   intro t;simp only[AEV,aW];by_cases h6:t=6
   ·subst h6;simp
   by_cases h13:t=13
   ·subst h13;simp
   by_cases h26:t=26
   ·subst h26;simp
   simp[h6,h13,h26])
end Go.Proofs.YtnmimmaahhlgeaaGreat.G
namespace Go.Av
theorem EA:∀ (l:List Int) (i:Nat) (x:Int),(aH l).set i [.int x]=aH (l.set i x)
 | [],i,x=>by simp[aH]
 | a::l,0,x=>by simp[aH]
 | a::l,i+1,x=>by simp[aH,EA l i x]
end Go.Av
namespace Go.Proofs.YtnmimmaahhlgeaaGreat
open Go Go.Av
set_option maxHeartbeats 4000000
set_option maxRecDepth 4000
theorem AbP {S:Int} (h0:0≤S) (h1:S<4611686018427387904):0≤IntKind.i64.wrap ((((S % 2 ^ IntKind.i64.bits).toNat ^^^ (IntKind.i64.wrap (S.tdiv 64) % 2 ^ IntKind.i64.bits).toNat:Nat)):Int):=by
 have e1:0≤S.tdiv 64:=Int.tdiv_nonneg h0 (by omega);have e2:S.tdiv 64≤S:=Int.tdiv_le_self _ h0;have e3:IntKind.i64.wrap (S.tdiv 64)=S.tdiv 64:=wrO
 have e4:∀ T:Int,0≤T→T<4611686018427387904→(T % 2 ^ IntKind.i64.bits).toNat<2 ^ 62:=fun T k1 k2=>by
  have:T % 2 ^ IntKind.i64.bits=T:=Int.emod_eq_of_lt k1 (by simp[IntKind.bits];omega);rw[this];omega
 rw[e3];have:=Nat.xor_lt_two_pow (e4 S h0 h1) (e4 (S.tdiv 64) e1 (by omega));rw[wrO];omega
theorem bK (l:List UInt8) (p n:Int) (h0:0≤p) (h1:p<1000000000) (hl:l.length≤2000):∃ v,aG C0 40 [.own 0 0, .int n] [Rd l p]=some (.int v,[Rd l (p+1)])∧(1≤n→0≤v∧v<n)∧(n<1→v=0):=by
 have hw:IntKind.i64.wrap (p+1)=p+1:=wrO;have hw':IntKind.i64.wrap p=p:=wrO;by_cases hn:n<1
 ·refine⟨0,?_,by omega,fun _=>rfl⟩;rw[aD rfl Tryz.func40 rfl rfl];simp[Rd,hw,hn]
 by_cases he:l=[]
 ·refine⟨0,?_,by omega,fun _=>rfl⟩;rw[aD rfl Tryz.func40 rfl rfl];subst he;simp[Rd,hw,hn]
 have hlen:0<l.length:=xY.2 he;have hn0:n≠0:=by omega
 have hn1:(n != 0)=true:=by simp[hn0]
 by_cases hk:p<l.length
 ·obtain⟨x,hx1,hx2⟩:=wX (l:=l) (j:=p.toNat) (by omega);have hwx:IntKind.i64.wrap (x:Int)=x:=wrO;refine⟨(x:Int).tmod n,?_,fun _=>⟨Int.tmod_nonneg _ (by omega),x9 _ (by omega)⟩,by omega⟩;rw[aD rfl Tryz.func40 rfl rfl];simp[Rd,hw,hw',hn,hk,he,h0,cO,hx2,hn1,hwx]
 ·obtain⟨x,hx1,hx2⟩:=wX (l:=l) (j:=(p.tmod l.length).toNat) (by have:=x9 p (b:=l.length) (by omega);omega);obtain⟨y,hy1,hy2⟩:=wX (l:=l) (j:=((p*7+3).tmod l.length).toNat) (by have:=x9 (p*7+3) (b:=l.length) (by omega);omega);have a1:0≤p.tmod l.length:=Int.tmod_nonneg _ h0;have a2:p.tmod l.length<l.length:=x9 _ (by omega);have a3:0≤(p*7+3).tmod l.length:=Int.tmod_nonneg _ (by omega);have a4:(p*7+3).tmod l.length<l.length:=x9 _ (by omega);have w7:IntKind.i64.wrap (p*7)=p*7:=wrO;have w8:IntKind.i64.wrap (p*7+3)=p*7+3:=wrO;have hwx:IntKind.i64.wrap (x:Int)=x:=wrO;have hwy:IntKind.i64.wrap (y:Int)=y:=wrO;have hl1:((l.length:Int) != 0)=true:=by simp[he]
  rw[aD rfl Tryz.func40 rfl rfl];have d1:0≤p.tdiv l.length:=Int.tdiv_nonneg h0 (by omega);have d2:p.tdiv l.length≤p:=Int.tdiv_le_self _ h0;have w1:IntKind.i64.wrap ((x:Int)*131)=x*131:=wrO;have w2:IntKind.i64.wrap ((y:Int)*1117)=y*1117:=wrO;have w3:IntKind.i64.wrap (p*29)=p*29:=wrO;have w4:IntKind.i64.wrap (p.tdiv l.length)=p.tdiv l.length:=wrO;have w5:IntKind.i64.wrap (p.tdiv l.length*53)=p.tdiv l.length*53:=wrO;have w6:IntKind.i64.wrap ((x:Int)*131+y*1117)=x*131+y*1117:=wrO;have w9:IntKind.i64.wrap ((x:Int)*131+y*1117+p*29)=x*131+y*1117+p*29:=wrO;have wA:IntKind.i64.wrap ((x:Int)*131+y*1117+p*29+p.tdiv l.length*53)=x*131+y*1117+p*29+p.tdiv l.length*53:=wrO;simp[Rd,hw,hw',hn,hk,he,cO,hx2,hy2,hn1,hwx,hwy,w7,w8,hl1,a1,a2,a3,a4,w1,w2,w3,w4,w5,w6,w9,wA];intro hn2;have hx:=AbP (S:=x*131+y*1117+p*29+p.tdiv l.length*53) (by omega) (by omega);exact⟨Int.tmod_nonneg _ hx,x9 _ (by omega)⟩
theorem LH (n:Int):n=1∨n=2∨n=3∨n=4∨n=5∨n=6∨n=7∨n=8∨n=9∨n=10∨n=11∨(n≠1∧n≠2∧n≠3∧n≠4∧n≠5∧n≠6∧n≠7∧n≠8∧n≠9∧n≠10∧n≠11):=by omega
@[simp] theorem AOR (n:Int):aG C0 209 [.int n] []=some (.int (dA n),[]):=by
  rw[aD rfl Tryz.func209 rfl rfl]
  rcases LH n with rfl|rfl|rfl|rfl|rfl|rfl|rfl|rfl|rfl|rfl|rfl|⟨h1,h2,h3,h4,h5,h6,h7,h8,h9,h10,h11⟩
  all_goals first
   | (simp[dA];done)
   | (have e:dA n=-1:=by
       unfold dA;rw[if_neg (by omega),if_neg (by omega),if_neg (by omega)]
      simp[e,h1,h2,h3,h4,h5,h6,h7,h8,h9,h10,h11])
@[simp] theorem AZ3 (n:Int):aG C0 176 [.int n] []=some (.int (dA n),[]):=by
  rw[aD rfl Tryz.func176 rfl rfl]
  rcases LH n with rfl|rfl|rfl|rfl|rfl|rfl|rfl|rfl|rfl|rfl|rfl|⟨h1,h2,h3,h4,h5,h6,h7,h8,h9,h10,h11⟩
  all_goals first
   | (simp[dA];done)
   | (have e:dA n=-1:=by
       unfold dA;rw[if_neg (by omega),if_neg (by omega),if_neg (by omega)]
      simp[e,h1,h2,h3,h4,h5,h6,h7,h8,h9,h10,h11])
@[simp] theorem AN9 (n:Int):aG C0 102 [.int n] []=some (.bool (bH n),[]):=by
  rw[aD rfl Tryz.func102 rfl rfl];by_cases h1:1≤n<;>by_cases h2:n≤6<;>simp[bH,h1,h2]
@[simp] theorem AWZ (n a b:Int):aG C0 95 [.int n, .int a, .int b] []=some (.bool (decide (a≤n∧n≤b)),[]):=by
  rw[aD rfl Tryz.func95 rfl rfl];by_cases h1:a≤n<;>by_cases h2:n≤b<;>simp[h1,h2]
@[simp] theorem valid_eq (b:Bool) (n:Int):aG C0 177 [.i (.agg [.bool b, .int n])] []=some (.bool (Val.ok ⟨b,n⟩),[]):=by
  rw[aD rfl Tryz.func177 rfl rfl]
  cases b
  ·by_cases h1:-9999≤n<;>by_cases h2:n≤9999<;>simp[Val.ok,h1,h2]
  ·by_cases h1:n=0<;>simp[Val.ok,h1]
@[simp] theorem ANA (b:Bool) (n:Int):aG C0 153 [.i (.agg [.bool b, .int n])] []=some (.bool (Val.ok ⟨b,n⟩),[]):=by
  rw[aD rfl Tryz.func153 rfl rfl]
  cases b
  ·by_cases h1:-9999≤n<;>by_cases h2:n≤9999<;>simp[Val.ok,h1,h2]
  ·by_cases h1:n=0
   ·subst h1;simp[Val.ok]
   ·by_cases h2:-9999≤n<;>by_cases h3:n≤9999<;>simp[Val.ok,h1,h2,h3]
@[simp] theorem AAZ (v:Val):aG C0 174 [.i (.agg [.bool v.null, .int v.n])] []=some (.i (.agg (Ex.mk 2 0 v []).cells),[]):=by
  rw[aD rfl Tryz.func174 rfl rfl];simp[Ex.cells,Ex.aB]
theorem AQD {e:Ex} {w:Int} (n:Nat) (hk:¬ (e.kids.length:Int)=dA e.kind):aG C0 188 [.i (.iref e.cells), .int w, .int n] []=some (.bool false,[]):=by
 rw[aD rfl Tryz.func188 rfl rfl,Ex.aA];simp[Ex.bE,hk]
theorem ASP {e:Ex} {w:Int} (hk:(e.kids.length:Int)=dA e.kind) (hz:0<dA e.kind):aG C0 188 [.i (.iref e.cells), .int w, .int 0] []=some (.bool false,[]):=by
 rw[aD rfl Tryz.func188 rfl rfl,Ex.aA];simp[Ex.bE,hk,hz]
theorem AHG {e:Ex} {w:Int} (n:Nat) (hk:(e.kids.length:Int)=dA e.kind) (hz:0<dA e.kind→n≠0) (hh:e.headOk w=false) :
 aG C0 188 [.i (.iref e.cells), .int w, .int n] []=some (.bool false,[]):=by
 rw[aD rfl Tryz.func188 rfl rfl,Ex.aA];unfold Ex.headOk at hh;by_cases h1:e.kind=1
 ·rw[h1]at hz hk;simp[h1,dA]at hh hk;by_cases h2:0≤e.col
  ·by_cases h3:e.col<w
   ·cases h4:e.val.null with
    | true=>simp[Ex.bE,hk,h1,zC1.2 h2,zG8.2 h3,h4,dA]
    | false=>simp[Ex.bE,hk,h1,zC1.2 h2,zG8.2 h3,h4,hh h2 h3 h4,dA]
   ·simp[Ex.bE,hk,h1,zC1.2 h2,zC1.1 h3,dA]
  ·simp[Ex.bE,hk,h1,zG8.1 h2,dA]
 ·by_cases h2:e.kind=2
  ·rw[h2]at hz hk;simp[h2,dA]at hh hk;by_cases h3:e.col=0
   ·have h4:Val.ok ⟨e.val.null,e.val.n⟩=false:=hh h3;simp[Ex.bE,hk,h2,h3,h4,dA]
   ·simp[Ex.bE,hk,h2,h3,dA]
  ·simp[h1,h2]at hh;by_cases h0:0<dA e.kind
   ·have hn:=hz h0;by_cases h3:e.col=0
    ·cases h4:e.val.null with
     | true=>simp[Ex.bE,hk,h1,h2,h3,h4,h0,hn,hz h0]
     | false=>simp[Ex.bE,hk,h1,h2,h3,h4,hh h3 h4,h0,hn,hz h0]
    ·simp[Ex.bE,hk,h1,h2,h3,h0,hn,hz h0]
   ·by_cases h3:e.col=0
    ·cases h4:e.val.null with
     | true=>simp[Ex.bE,hk,h1,h2,h3,h4,h0]
     | false=>simp[Ex.bE,hk,h1,h2,h3,h4,hh h3 h4,h0]
    ·simp[Ex.bE,hk,h1,h2,h3,h0]
def VX (e:Ex) (w n:Int) (i:Nat):AS :=
 { env:=[(0, .i (.iref [.int e.kind, .int 0, .bool false, .int 0, .isl (Ex.aB e.kids)])),(1, .int w),(2, .int n),(6, .bool false),(7, .int (dA e.kind)),(8,jk i (.int (i-1))),(28, .bool (n == 0)),(62, .bool false),(90, .bool false),(95, .int (dA e.kind)),(96, .int i),(97,jk i (.bool true)),(109,jk i (.bool false))],st:=[] }
theorem AXO {e:Ex} {w:Int} (n:Nat) (hn:n≤8) (hk:(e.kids.length:Int)=dA e.kind) (hz:0<dA e.kind→n≠0) (hh:e.headOk w=true) (ih:∀ k∈e.kids,0<dA e.kind→aG C0 188 [.i (.iref k.cells), .int w, .int ((n:Int)-1)] []=some (.bool (Ex.vB w (n-1) k),[])) :
 aG C0 188 [.i (.iref e.cells), .int w, .int n] []=some (.bool (e.kids.all (Ex.vB w (n-1))),[]):=by
 rw[aD rfl Tryz.func188 rfl rfl,Ex.aA]
 rcases Ex.AFQ w e with h|⟨-,⟨hA,hB,hC,hD,hE,hF⟩|⟨hA,hB,hC,hD,hE,hF⟩|⟨hA,hB,hC,hD,hE,hF⟩⟩
 ·simp[h]at hh
 ·have h2:e.kids=[]:=by rw[hF]at hk;simpa using hk
  simp[h2,Ex.aB,hA,hD,hE,zC1.2 hB,zG8.2 hC,dA];rw[aF];simp
 ·have h2:e.kids=[]:=by rw[hF]at hk;simpa using hk
  simp[h2,Ex.aB,hA,hB,hC,dA];rw[aF];simp
 ·by_cases h0:0<dA e.kind
  ·have hn:=hz h0;simp[Ex.bE,hk,hA,hB,hC,hD,hE,h0,hn,hz h0];obtain⟨j,h1,h2⟩:=gJ (Ex.vB w (n-1)) e.kids;have w1:IntKind.i64.wrap ((n:Int)-1)=n-1:=wrO
   have rd:∀ (i:Nat) (k:Ex),e.kids[i]?=some k→k∈e.kids→i<e.kids.length∧fO (Ex.aB e.kids) i=some k.cells∧aG C0 188 [.i (.iref k.cells), .int w, .int ((n:Int)-1)] []=some (.bool (Ex.vB w (n-1) k),[]) :=
    fun i k a b=>⟨(zY.1 a).1,Ex.aV a,ih k b h0⟩
   have hlen:e.kids.length≤2:=by have:dA e.kind≤2:=by
                                  unfold dA;split;· omega
                                  split;· omega
                                  split<;>omega
                                 omega
   rw[aS (VX e w n) j (by simp[VX])]
   ·rw[aF]
    rcases h2 with ⟨hj,ha⟩|⟨k,h3,h4,h5,ha⟩
    ·have l1:¬ ((j:Int)<dA e.kind):=by omega
     simp[VX,l1,ha]
    ·obtain⟨r1,r2,r3⟩:=rd j k h3 h4;have l1:(j:Int)<dA e.kind:=by omega
     rw[Ex.aA]at r2 r3;simp[VX,l1,r1,ha,r2,r3,w1,h5]
   ·intro i hi;obtain⟨k,h3,h4,h5⟩:=h1 i hi;obtain⟨r1,r2,r3⟩:=rd i k h3 h4;have l1:(i:Int)<dA e.kind:=by omega
    have w2:IntKind.i64.wrap ((i:Int)+1)=i+1:=wrO;rw[Ex.aA]at r2 r3;simp[VX,l1,r1,r2,r3,w1,w2,h5]
  ·have h2:e.kids=[]:=by cases h:e.kids with
    | nil=>rfl
    | cons a l=>rw[h]at hk;simp at hk;omega
   rw[h2]at hk;simp at hk;simp[h2,Ex.aB,hA,hB,hC,hD,hE,← hk];rw[aF];simp
@[simp] theorem D5 {w:Int}:∀ (n:Nat) (e:Ex),n≤8→aG C0 188 [.i (.iref e.cells), .int w, .int n] []=some (.bool (Ex.vB w n e),[])
  | 0,e,hn=>by
   by_cases hk:(e.kids.length:Int)=dA e.kind
   ·by_cases hz:0<dA e.kind
    ·rw[show((0:Nat):Int)=0 from rfl,ASP hk hz];simp[Ex.vB,zG8.2 hz]
    ·cases hh:e.headOk w with
     | false=>rw[AHG 0 hk (fun h=>absurd h hz) hh];simp[Ex.vB,hh]
     | true =>
      rw[AXO 0 hn hk (fun h=>absurd h hz) hh (fun k _ h=>absurd h hz)]
      have:e.kids=[]:=by cases h:e.kids with
       | nil=>rfl
       | cons a l=>rw[h]at hk;simp at hk;omega
      have h3:dA e.kind=0:=by rw[this]at hk;simpa using hk.symm
      simp[Ex.vB,hh,h3,this]
   ·rw[AQD 0 hk];simp[Ex.vB,hk]
  | n+1,e,hn=>by
   by_cases hk:(e.kids.length:Int)=dA e.kind
   ·cases hh:e.headOk w with
    | false=>rw[AHG (n+1) hk (fun _=>by omega) hh];simp[Ex.vB,hh]
    | true =>
     rw[AXO (n+1) hn hk (fun _=>by omega) hh (fun k _ _=>by
      have:=D5 (w:=w) n k (by omega);rw[show(((n+1:Nat):Int)-1)=(n:Int)by omega]
      exact this)]
     simp[Ex.vB,hh,hk]
   ·rw[AQD (n+1) hk];simp[Ex.vB,hk]
theorem AQC {e:Ex} {w:Int} (n:Nat) (hk:¬ (e.kids.length:Int)=dA e.kind):aG C0 152 [.i (.agg e.cells), .int w, .int n] []=some (.bool false,[]):=by
 rw[aD rfl Tryz.func152 rfl rfl,Ex.aA];simp[hk]
theorem ASO {e:Ex} {w:Int} (hk:(e.kids.length:Int)=dA e.kind) (hz:0<dA e.kind):aG C0 152 [.i (.agg e.cells), .int w, .int 0] []=some (.bool false,[]):=by
 rw[aD rfl Tryz.func152 rfl rfl,Ex.aA];simp[hk,hz]
def EX (e:Ex) (w n:Int) (v:AV) (i:Nat):AS :=
 { env:=[(0, .i (.agg [.int e.kind, .int e.col, .bool e.val.null, .int e.val.n, .isl (Ex.aB e.kids)])),(1, .int w),(2, .int n),(3, .own 0 0),(6, .bool false),(7, .int i),(24,v),(29,jk i (.bool true)),(41,jk i (.bool false)),(43, .junk),(44, .junk),(57, .junk)],
   st:=[some (.box [.int e.kind, .int e.col, .bool e.val.null, .int e.val.n, .i (.isl (Ex.aB e.kids))])] }
theorem AXN {e:Ex} {w:Int} (n:Nat) (hn:n≤8) (hk:(e.kids.length:Int)=dA e.kind) (hz:0<dA e.kind→n≠0)  (hw:1≤w∧w≤6)
 (ih:∀ k∈e.kids,0<dA e.kind→aG C0 152 [.i (.agg k.cells), .int w, .int ((n:Int)-1)] []=some (.bool (Ex.vB w (n-1) k),[])) :
  aG C0 152 [.i (.agg e.cells), .int w, .int n] []=some (.bool (e.kids.all (Ex.vB w (n-1)) && e.headOk w),[]):=by
 rw[aD rfl Tryz.func152 rfl rfl,Ex.aA];have w0:IntKind.i64.wrap (w-1)=w-1:=wrO;by_cases h0:0<dA e.kind
 ·have hn:=hz h0;simp[hk,h0,hn];obtain⟨j,h1,h2⟩:=gJ (Ex.vB w (n-1)) e.kids;have w1:IntKind.i64.wrap ((n:Int)-1)=n-1:=wrO
  have rd:∀ (i:Nat) (k:Ex),e.kids[i]?=some k→k∈e.kids→i<e.kids.length∧fO (Ex.aB e.kids) i=some k.cells∧aG C0 152 [.i (.agg k.cells), .int w, .int ((n:Int)-1)] []=some (.bool (Ex.vB w (n-1) k),[]) :=
   fun i k a b=>⟨(zY.1 a).1,Ex.aV a,ih k b h0⟩
  have hlen:e.kids.length≤2:=by have:dA e.kind≤2:=by
                                 unfold dA;split;· omega
                                 split;· omega
                                 split<;>omega
                                omega
  have hk1:e.kind≠1:=fun h=>by rw[h]at h0;simp[dA]at h0
  have hk2:e.kind≠2:=fun h=>by rw[h]at h0;simp[dA]at h0
  rw[aS (EX e w n (.bool ((n:Int) == 0)) ) j (by simp[EX])]
  ·rw[aF]
   rcases h2 with ⟨hj,ha⟩|⟨k,h3,h4,h5,ha⟩
   ·have l1:¬ ((j:Int)<dA e.kind):=by omega
    by_cases h6:e.col=0
    ·cases h7:e.val.null with
     | true=>simp[EX,l1,hk,ha,Ex.headOk,hk1,hk2,h6,h7]
     | false=>simp[EX,l1,hk,ha,Ex.headOk,hk1,hk2,h6,h7]
    ·simp[EX,l1,hk,ha,Ex.headOk,hk1,hk2,h6]
   ·obtain⟨r1,r2,r3⟩:=rd j k h3 h4;have l1:(j:Int)<dA e.kind:=by omega
    rw[Ex.aA]at r2 r3;simp[EX,l1,r1,hk,ha,r2,r3,w1,h5]
  ·intro i hi;obtain⟨k,h3,h4,h5⟩:=h1 i hi;obtain⟨r1,r2,r3⟩:=rd i k h3 h4;have l1:(i:Int)<dA e.kind:=by omega
   have w2:IntKind.i64.wrap ((i:Int)+1)=i+1:=wrO;rw[Ex.aA]at r2 r3;simp[EX,l1,r1,hk,r2,r3,w1,w2,h5]
 ·have h2:e.kids=[]:=by cases h:e.kids with
   | nil=>rfl
   | cons a l=>rw[h]at hk;simp at hk;omega
  rw[h2]at hk;simp at hk;simp[h2,Ex.aB,← hk];rw[aF];by_cases h1:e.kind=1
  ·by_cases h4:0≤e.col
   ·by_cases h5:e.col<w
    ·cases h7:e.val.null with
     | true=>simp[h1,w0,Ex.headOk,h4,h5,h7,show e.col≤w-1 by omega]
     | false=>simp[h1,w0,Ex.headOk,h4,h5,h7,show e.col≤w-1 by omega]
    ·simp[h1,w0,Ex.headOk,h4,h5,show ¬ e.col≤w-1 by omega]
   ·simp[h1,w0,Ex.headOk,h4]
  ·by_cases h3:e.kind=2
   ·by_cases h4:e.col=0
    ·simp[h3,Ex.headOk,h4]
    ·simp[h3,Ex.headOk,h4]
   ·by_cases h4:e.col=0
    ·cases h7:e.val.null with
     | true=>simp[h1,h3,Ex.headOk,h4,h7]
     | false=>simp[h1,h3,Ex.headOk,h4,h7]
    ·simp[h1,h3,Ex.headOk,h4]
theorem GA {w:Int} (hw:1≤w∧w≤6):∀ (n:Nat) (e:Ex),n≤8→aG C0 152 [.i (.agg e.cells), .int w, .int n] []=some (.bool (Ex.vB w n e),[])
 | 0,e,hn=>by
  by_cases hk:(e.kids.length:Int)=dA e.kind
  ·by_cases hz:0<dA e.kind
   ·rw[show((0:Nat):Int)=0 from rfl,ASO hk hz];simp[Ex.vB,zG8.2 hz]
   ·rw[AXN 0 hn hk (fun h=>absurd h hz) hw (fun k _ h=>absurd h hz)]
    have:e.kids=[]:=by cases h:e.kids with
     | nil=>rfl
     | cons a l=>rw[h]at hk;simp at hk;omega
    have h3:dA e.kind=0:=by rw[this]at hk;simpa using hk.symm
    simp[Ex.vB,h3,this]
  ·rw[AQC 0 hk];simp[Ex.vB,hk]
 | n+1,e,hn=>by
  by_cases hk:(e.kids.length:Int)=dA e.kind
  ·rw[AXN (n+1) hn hk (fun _=>by omega) hw (fun k _ _=>by
      have:=GA (w:=w) hw n k (by omega);rw[show(((n+1:Nat):Int)-1)=(n:Int)by omega]
      exact this)]
   simp[Ex.vB,hk,zF8]
  ·rw[AQC (n+1) hk];simp[Ex.vB,hk]
theorem ok_eq (w:Int) (e:Ex):aG C0 156 [.i (.agg e.cells), .int w] []=some (.bool (e.ok w),[]):=by
 rw[aD rfl Tryz.func156 rfl rfl];have h:=D5 (w:=w) 8 e (by omega);rw[Ex.aA]at h ⊢;have e8:((8:Nat):Int)=8:=rfl;rw[e8]at h
 cases hw:bH w with
 | false=>simp[hw,Ex.ok]
 | true=>simp[hw,Ex.ok,h]
theorem UY (w:Int) (e:Ex):aG C0 97 [.i (.agg e.cells), .int w] []=some (.bool (e.ok w),[]):=by
 rw[aD rfl Tryz.func97 rfl rfl];by_cases hw:1≤w∧w≤6
 ·have h:=GA hw 8 e (by omega);rw[Ex.aA]at h ⊢;have e8:((8:Nat):Int)=8:=rfl;rw[e8]at h;simp[hw,Ex.ok,bH,h]
 ·rw[Ex.aA];simp[hw,Ex.ok,bH]
theorem bD:IntKind.i64.wrap 1=1:=wrO
def CX (e:Ex) (i:Nat):AS :=
 { env:=[(0, .i (.agg [.int e.kind, .int e.col, .bool e.val.null, .int e.val.n, .isl (Ex.aB e.kids)])),(1, .own 0 0),(2, .own 1 0),(3, .own 2 0),(4, .int i),(16,jk i (.bool true))],
   st:=some (.box [.int e.kind, .int e.col, .bool e.val.null, .int e.val.n, .i (.isl (Ex.aB e.kids))])::some (.box [.int 0, .int 0, .bool false, .int 0, .nils]) ::
    some (.box [.int e.kind, .int e.col, .bool e.val.null, .int e.val.n,gro 3 5 i])::vN 5 (Ex.aB (e.kids.take i)) i }
theorem AVC {e:Ex} (hl:e.kids.length<1000000000) (ih:∀ a∈e.kids,aG C0 172 [.i (.agg a.cells)] []=some (.i (.agg a.cells),[])) :
 aG C0 172 [.i (.agg e.cells)] []=some (.i (.agg e.cells),[]):=by
 rw[aD rfl Tryz.func172 rfl rfl,Ex.aA];simp;rw[aS (CX e) e.kids.length (by simp[CX])]
 ·rw[aF]
  cases hn:e.kids.length with
  | zero =>
   have:e.kids=[]:=zW.1 hn;simp[CX,this,Ex.aB]
  | succ n =>
   have:e.kids.take (n+1)=e.kids:=zZ (by omega);simp[CX,hn,this]
 ·intro i hi;have h3:=zX hi;have hc:=ih _ (zV h3);have r2:=Ex.aV h3;generalize e.kids[i]=a at h3 hc r2;have w2:IntKind.i64.wrap ((i:Int)+1)=i+1:=wrO;by_cases h0:i=0
  ·subst h0;simp[CX,hi,r2,hc,bD,aP h3,Ex.aB]
  ·simp[CX,aM h0,aI h0,dR h0,hi,r2,hc,w2,aP h3,Ex.bN,show min i e.kids.length=i by omega,show(i+1)*56≤140737488355328 by omega,zF]
theorem BU:∀ (e:Ex),e.thin→aG C0 172 [.i (.agg e.cells)] []=some (.i (.agg e.cells),[]):=by
 intro e
 induction e using Ex.ind with
 | h k c v ks ih =>
  intro ht;have ht':=(Ex.kN _).1 ht;exact AVC ht'.1 fun a ha=>ih a ha (ht'.2 a ha)
def HX (e:Ex) (i:Nat):AS :=
 { env:=[(0, .i (.iref [.int e.kind, .int e.col, .bool e.val.null, .int e.val.n, .isl (Ex.aB e.kids)])),(2, .int 0),(3, .int (Ex.htL (e.kids.take i):Nat)),(4,jk i (.int (i-1))),(9, .int e.kids.length),(10, .int i),(11,jk i (.bool true))],st:=[] }
theorem AAD {e:Ex} (hs:e.size<1000000000) (ih:∀ k∈e.kids,aG C0 160 [.i (.iref k.cells)] []=some (.int (k.ht:Nat),[])) :
 aG C0 160 [.i (.iref e.cells)] []=some (.int (e.ht:Nat),[]):=by
 rw[aD rfl Tryz.func160 rfl rfl,Ex.aA];simp;have hl:=Ex.eG e.kids;rw[Ex.size_eq]at hs;rw[aS (HX e) e.kids.length (by simp[HX,Ex.htL])]
 ·rw[aF];simp[HX,Ex.AP0 e]
 ·intro i hi;have h3:=zX hi;have hm:=zV h3;have hc:=ih _ hm;have r2:=Ex.aV h3;have hz:=Ex.jD hm;generalize e.kids[i]=a at h3 hc r2 hz;have ha:=Ex.AKM a;have w2:IntKind.i64.wrap ((i:Int)+1)=i+1:=wrO;have w1:IntKind.i64.wrap (1+(a.ht:Int))=1+a.ht:=wrO;rw[Ex.aA]at hc r2;have hmax:Ex.htL (e.kids.take (i+1))=max (Ex.htL (e.kids.take i)) (1+a.ht):=by rw[aP h3,Ex.ACJ]
  by_cases hg:1+a.ht > Ex.htL (e.kids.take i)
  ·simp[HX,hi,r2,hc,w1,w2,hmax,show max (Ex.htL (e.kids.take i)) (1+a.ht)=1+a.ht by omega,show(Ex.htL (e.kids.take i):Int)<1+a.ht by omega]
  ·simp[HX,hi,r2,hc,w1,w2,hmax,show max (Ex.htL (e.kids.take i)) (1+a.ht)=Ex.htL (e.kids.take i)by omega,show ¬ (Ex.htL (e.kids.take i):Int)<1+a.ht by omega]
theorem AKQ:∀ (e:Ex),e.size<1000000000→aG C0 160 [.i (.iref e.cells)] []=some (.int (e.ht:Nat),[]):=by
 intro e
 induction e using Ex.ind with
 | h k c v ks ih =>
  intro hs;exact AAD hs fun a ha=>ih a ha (by have:=Ex.jD ha;simp only[Ex.size,Ex.kids]at hs this;omega)
theorem APA {e:Ex} {hs:List Nat} {n:Int} (hn:n<0):aG C0 161 [.i (.iref e.cells), .i (.isl (rO hs)), .int n] []=some (.bool false,[]):=by
 rw[aD rfl Tryz.func161 rfl rfl,Ex.aA];simp[hn]
theorem APB {e:Ex} {hs:List Nat} {n:Int} {h:Nat} (hn:0≤n) (hk:e.kind=1) (hks:e.kids=[]) (h0:0≤e.col) (hh:hs[e.col.toNat]?=some h) :
 aG C0 161 [.i (.iref e.cells), .i (.isl (rO hs)), .int n] []=some (.bool (decide ((h:Int)≤n)),[]):=by
 rw[aD rfl Tryz.func161 rfl rfl,Ex.aA];have r2:=WL hh;have r1:=(zY.1 hh).1;by_cases hc:n<h
 ·simp[zC1.2 hn,hk,h0,r2,hc,show e.col<hs.length by omega]
 ·simp[zC1.2 hn,hk,h0,r2,hc,zC1.1 hc,show e.col<hs.length by omega,hks,Ex.aB];rw[aF];simp
def FX (e:Ex) (hs:List Nat) (n:Int) (i:Nat):AS :=
 { env:=[(0, .i (.iref [.int e.kind, .int e.col, .bool e.val.null, .int e.val.n, .isl (Ex.aB e.kids)])),(1, .i (.isl (rO hs))),(2, .int n),(6, .bool false),(7,jk i (.int (i-1))),(27, .bool false),(32, .int e.kids.length),(33, .int i),(34,jk i (.bool true)),(46,jk i (.bool false))],st:=[] }
theorem AKV {e:Ex} {hs:List Nat} {n:Int} (hn:0≤n) (hn8:n≤8) (hl:e.kids.length<1000000000) (hk:e.kind≠1)
 (ih:∀ k∈e.kids,aG C0 161 [.i (.iref k.cells), .i (.isl (rO hs)), .int (n-1)] []=some (.bool (decide ((k.htS hs:Int)≤n-1)),[])) :
  aG C0 161 [.i (.iref e.cells), .i (.isl (rO hs)), .int n] []=some (.bool (e.kids.all fun k=>decide ((k.htS hs:Int)≤n-1)),[]):=by
 rw[aD rfl Tryz.func161 rfl rfl,Ex.aA];simp[zC1.2 hn,hk];obtain⟨j,h1,h2⟩:=gJ (fun k:Ex=>decide ((k.htS hs:Int)≤n-1)) e.kids;have w1:IntKind.i64.wrap (n-1)=n-1:=wrO;rw[aS (FX e hs n) j (by simp[FX])]
 ·rw[aF]
  rcases h2 with ⟨hj,ha⟩|⟨k,h3,h4,h5,ha⟩
  ·simp[FX,hj,ha]
  ·have r1:=(zY.1 h3).1;have r2:=Ex.aV h3;have r3:=ih k h4;rw[Ex.aA]at r2 r3;rw[h5]at r3;simp[FX,r1,ha,r2,r3,w1]
 ·intro i hi;obtain⟨k,h3,h4,h5⟩:=h1 i hi;have r1:=(zY.1 h3).1;have r2:=Ex.aV h3;have r3:=ih k h4;have w2:IntKind.i64.wrap ((i:Int)+1)=i+1:=wrO;rw[Ex.aA]at r2 r3;rw[h5]at r3;simp[FX,r1,r2,r3,w1,w2]
theorem AUY {m:Int} {hs:List Nat} (hm:m=hs.length):∀ (e:Ex),e.wf m=true→e.size<1000000000→∀ n:Int,n≤8→aG C0 161 [.i (.iref e.cells), .i (.isl (rO hs)), .int n] []=some (.bool (decide ((e.htS hs:Int)≤n)),[]):=by
 intro e
 induction e using Ex.ind with
 | h k c v ks ih =>
  intro hw hs' n hn;by_cases h0:n<0
  ·rw[APA h0,show decide ((Ex.htS hs (.mk k c v ks):Int)≤n)=false by simp;omega]
  ·by_cases hk:k=1
   ·obtain⟨c0,c1,ck⟩:=Ex.pV hw hk;have hi:c.toNat<hs.length:=by simp[Ex.col]at c0 c1;omega
    have hb:=zX hi;rw[Ex.AKO hs (e:=.mk k c v ks) (h:=hs[c.toNat]) hk hb];exact APB (by omega) hk ck c0 hb
   ·have hl:=Ex.eG ks;have hsz:Ex.dV ks<1000000000:=by simp[Ex.size]at hs';omega
    have hn0:=zC1.1 h0;rw[AKV (e:=.mk k c v ks) (n:=n) hn0 hn (by simp only[Ex.kids];omega) hk fun x hx=>ih x hx (Ex.iU hw hx) (by have:=Ex.jD hx;simp only[Ex.kids]at this;omega) (n-1) (by omega)];rw[Ex.AKN hs (e:=.mk k c v ks) hk]
    suffices hsf:(ks.all fun x=>decide ((x.htS hs:Int)≤n-1))=decide ((Ex.AMW hs ks:Int)≤n)by simp only[Ex.kids];rw[hsf];rfl
    rw[zE6];have:=Ex.AKP hs (n:=n.toNat) ks;simp only[zS,zR];constructor
    ·intro h;have h2:=this.2 fun x hx=>by have:=h x hx;omega
     omega
    ·intro h x hx;have h2:=this.1 (by omega) x hx;omega
@[simp] theorem Y0 {e:Ex} (h:e.size<1000000000):aG C0 61 [.i (.iref e.cells)] []=some (.i (.agg e.cells),[]):=by
  rw[aN (p:=MP) rfl];exact AD4 h
theorem ANL {e b:Ex} {l:List Ex} (hk:e.kind=1) (h0:0≤e.col) (hb:l[e.col.toNat]?=some b) (hs:b.size<1000000000) :
 aG C0 162 [.i (.iref e.cells), .own 0 0] [some (.box [.i (.isl (Ex.aB l))])]=some (.i (.agg b.cells),[some (.box [.i (.isl (Ex.aB l))])]):=by
 rw[aD rfl Tryz.func162 rfl rfl];have hc:=Y0 hs;have r2:=Ex.aV hb;have r1:=(zY.1 hb).1;rw[Ex.aA]at hc r2 ⊢;rw[Ex.aA];simp[hk,h0,r2,hc,show e.col<l.length by omega]
theorem ANK {e:Ex} {l:List Ex} (hk:e.kind≠1) (hs:e.size<1000000000) :
 aG C0 162 [.i (.iref e.cells), .own 0 0] [some (.box [.i (.isl (Ex.aB l))])]=some (.i (.agg e.cells),[some (.box [.i (.isl (Ex.aB l))])]):=by
 rw[aD rfl Tryz.func162 rfl rfl];have hc:=Y0 hs;rw[Ex.aA]at hc ⊢;simp[hk,hc]
def AW8:List IV:=[.int 0, .int 0, .bool false, .int 0, .isl []]
def RX (e:Ex) (l:List Ex) (f:Ex→Ex) (i:Nat):AS :=
 { env:=[(0, .i (.iref [.int e.kind, .int e.col, .bool e.val.null, .int e.val.n, .isl (Ex.aB e.kids)])),(1, .fn (.func 162) [.own 0 0]),(4, .own 1 0),(5, .own 2 0),(6,jk i (.int (i-1))),(12, .bool ((e.kids.length:Int) == 0)),(39, .int e.kids.length),(40, .int i),(41,jk i (.bool true))],
   st:=[some (.box [.i (.isl (Ex.aB l))]),some (.box [.int 0, .int 0, .bool false, .int 0, .nils]),some (.box [.int e.kind, .int e.col, .bool e.val.null, .int e.val.n, .osl 3 5 0 e.kids.length]),some (.arr 5 (Ex.aB ((e.kids.map f).take i)++List.replicate (e.kids.length-i) AW8))] }
theorem AO4 {e:Ex} {l:List Ex} {f:Ex→Ex} (hk:e.kids≠[]) (hl:e.kids.length<1000000000) (ih:∀ a∈e.kids,aG C0 157 [.i (.iref a.cells), .fn (.func 162) [.own 0 0]] [some (.box [.i (.isl (Ex.aB l))])]=some (.i (.agg (f a).cells),[some (.box [.i (.isl (Ex.aB l))])])) :
 aG C0 157 [.i (.iref e.cells), .fn (.func 162) [.own 0 0]] [some (.box [.i (.isl (Ex.aB l))])]=some (.i (.agg (Ex.mk e.kind e.col e.val (e.kids.map f)).cells),[some (.box [.i (.isl (Ex.aB l))])]):=by
 rw[aD rfl Tryz.func157 rfl rfl,Ex.aA];have hb:56*(e.kids.length:Int)≤281474976710656:=by omega
 simp[hk,hb];rw[aS (RX e l f) e.kids.length (by simp[RX,Ex.aB,AW8])]
 ·rw[aF];have ht:(e.kids.map f).take e.kids.length=e.kids.map f:=zZ (by simp);simp[RX,Ex.cells,ht]
 ·intro i hi;have h3:=zX hi;have hm:=zV h3;have hc:=ih _ hm;have r2:=Ex.aV h3;generalize e.kids[i]=a at h3 hc r2;have w2:IntKind.i64.wrap ((i:Int)+1)=i+1:=wrO;rw[Ex.aA]at hc r2;have hD:(Ex.aB ((e.kids.map f).take i)).length=i:=by simp;omega
  have hS:Ex.aB ((e.kids.map f).take i)++[(f a).cells]=Ex.aB ((e.kids.map f).take (i+1)):=by rw[aP (a:=f a) (by simp[h3]),Ex.bN]
  have g1:=JA (n:=e.kids.length) (z:=AW8) hD hi;have g2:=J9 (n:=e.kids.length) (z:=AW8) (x:=(f a).cells) hD hi;have g3:splice AW8 0 (f a).cells=some (f a).cells:=wG (by simp[AW8]);rw[hS]at g2;simp[RX,hi,r2,hc,w2,g1,g2,g3]
theorem ABX {e x:Ex} {l:List Ex} (hk:e.kids=[]) (h:aG C0 162 [.i (.iref e.cells), .own 0 0] [some (.box [.i (.isl (Ex.aB l))])]=some (.i (.agg x.cells),[some (.box [.i (.isl (Ex.aB l))])])) :
 aG C0 157 [.i (.iref e.cells), .fn (.func 162) [.own 0 0]] [some (.box [.i (.isl (Ex.aB l))])]=some (.i (.agg x.cells),[some (.box [.i (.isl (Ex.aB l))])]):=by
 rw[aD rfl Tryz.func157 rfl rfl];rw[Ex.aA e]at h ⊢;rw[Ex.aA x]at h ⊢;simp[hk,Ex.aB]at h ⊢;simp[h]
theorem VF {m:Int} (l:List Ex) (hm:m=l.length) (hl:∀ b∈l,b.size<1000000000):∀ (e:Ex),e.wf m=true→e.size<1000000000 →
 aG C0 157 [.i (.iref e.cells), .fn (.func 162) [.own 0 0]] [some (.box [.i (.isl (Ex.aB l))])]=some (.i (.agg (e.sub l).cells),[some (.box [.i (.isl (Ex.aB l))])]):=by
 intro e
 induction e using Ex.ind with
 | h k c v ks ih =>
  intro hw hs;have hsz:=hs;rw[Ex.size_eq]at hsz;have hkl:=Ex.eG ks;by_cases hk:k=1
  ·obtain⟨c0,c1,ck⟩:=Ex.pV hw hk;have hi:c.toNat<l.length:=by simp[Ex.col]at c0 c1;omega
   have hb:=zX hi;rw[Ex.JR l (e:=.mk k c v ks) hk hb];exact ABX ck (ANL (e:=.mk k c v ks) hk c0 hb (hl _ (xQ hi)))
  ·cases ks with
   | nil =>
    have hn:=ANK (e:=.mk k c v []) (l:=l) hk hs;rw[Ex.JQ l (e:=.mk k c v []) hk];exact ABX (e:=.mk k c v []) rfl hn
   | cons a ks =>
    rw[Ex.JQ l (e:=.mk k c v (a::ks)) hk];refine AO4 (e:=.mk k c v (a::ks)) (by simp[Ex.kids]) (by simp only[Ex.kids]at hsz ⊢;omega) fun x hx=>ih x hx (Ex.iU hw hx) ?_
    have:=Ex.jD hx;omega
end Go.Proofs.YtnmimmaahhlgeaaGreat
namespace Go.Av
def Ex.subst (e:Ex) (l:List Ex) (w:Int):Option Ex:=if e.ok l.length && (l.all (Ex.ok w) && (e.sub l).ok w)then some (e.sub l)else none
def ATP:Option Ex→AV
 | some e=>.tup [.i (.agg e.cells), .bool true]
 | none=>.tup [.i (.agg Ex.zero.cells), .bool false]
theorem bA:Ex.zero.cells=[.int 0, .int 0, .bool false, .int 0, .isl []]:=by simp[Ex.zero,Ex.cells,Ex.aB,Val.zero]
end Go.Av
namespace Go.Proofs.YtnmimmaahhlgeaaGreat
open Go Go.Av
set_option maxRecDepth 4000
theorem AUD {e:Ex} {l:List Ex} {w:Int} (h:e.ok l.length=false):aG C0 115 [.i (.agg e.cells), .i (.isl (Ex.aB l)), .int w] []=some (ATP (e.subst l w),[]):=by
 rw[aD rfl Tryz.func115 rfl rfl];have hc:=ok_eq l.length e;rw[h]at hc;rw[Ex.aA e]at hc ⊢;simp[hc,Ex.subst,h,ATP,bA]
theorem PI:∀ (hs:List Nat) (h:Nat),rO hs++[[.int h]]=rO (hs++[h])
 | [],_=>rfl
 | _::hs,h=>by simp[rO,PI hs h]
def IX (e:Ex) (l:List Ex) (w:Int) (i:Nat):AS :=
 { env:=[(0, .i (.agg [.int e.kind, .int e.col, .bool e.val.null, .int e.val.n, .isl (Ex.aB e.kids)])),(1, .i (.isl (Ex.aB l))),(2, .int w),(3, .own 0 0),(4, .own 1 0),(6, .own 2 0),(7, .bool false),(8, .osl 3 1 0 l.length),(9,jk i (.int (i-1))),(14, .bool false),(20, .int l.length),(21, .int i),(22,jk i (.bool true)),(30,jk i (.bool false)),(42, .junk)],
   st:=[some (.box [.int e.kind, .int e.col, .bool e.val.null, .int e.val.n, .i (.isl (Ex.aB e.kids))]),some (.box [.i (.isl (Ex.aB l))]),some (.box [.int 0, .int 0, .bool false, .int 0, .nils]),some (.arr 1 (rO ((l.map Ex.ht).take i)++List.replicate (l.length-i) [.int 0]))] }
theorem AUE {e:Ex} {l:List Ex} {w:Int} (h:e.ok l.length=true):aG C0 115 [.i (.agg e.cells), .i (.isl (Ex.aB l)), .int w] []=some (ATP (e.subst l w),[]):=by
 rw[aD rfl Tryz.func115 rfl rfl];have hc:=ok_eq l.length e;rw[h]at hc;have hw:1≤(l.length:Int)∧(l.length:Int)≤6:=by simp[Ex.ok,bH]at h;omega
 have hwf:e.wf l.length=true:=by simp[Ex.ok,Ex.NJ]at h;exact h.2.1
 have hsz:=Ex.vG h;rw[Ex.aA e]at hc ⊢;have hb:8*(l.length:Int)≤281474976710656:=by omega
 simp[hc,hb];obtain⟨j,h1,h2⟩:=gJ (Ex.ok w) l;rw[aS (IX e l w) j (by simp[IX,rO])]
 ·rw[aF]
  rcases h2 with ⟨hj,ha⟩|⟨k,h3,h4,h5,ha⟩
  ·have ht:(l.map Ex.ht).take l.length=l.map Ex.ht:=zZ (by simp);have ht2:(rO (l.map Ex.ht)).take l.length=rO (l.map Ex.ht):=zZ (by simp);have hf:=AUY (m:=l.length) (hs:=l.map Ex.ht) (by simp) e hwf (by omega) 8 (by omega);have hr:=VF (m:=l.length) l rfl (fun b hb=>by have:=Ex.vG (zS.1 ha b hb);omega) e hwf (by omega)
   have hwl:∀ b∈l,b.wf w=true:=fun b hb=>by
    have:=zS.1 ha b hb;simp[Ex.ok,Ex.NJ]at this;exact this.2.1
   have hww:bH w=true:=by
    cases l with
    | nil=>simp at hw
    | cons b l=>simp[Ex.ok]at ha;exact ha.1.1
   have hq:(e.sub l).ok w=decide ((e.htS (l.map Ex.ht):Int)≤8):=by
    simp only[Ex.ok,Ex.NJ,Ex.AXL (m:=l.length) l rfl hwl e hwf,Ex.AZ9 (w:=l.length) l rfl e hwf,hww,zB9];rw[zE6];simp;omega
   rw[Ex.aA e]at hf hr;rw[← hq]at hf
   cases hq':(e.sub l).ok w with
   | true=>rw[hq']at hf;simp[IX,hj,ht,ht2,hf,hr,Ex.subst,h,ha,hq',ATP]
   | false=>rw[hq']at hf;simp[IX,hj,ht,ht2,hf,Ex.subst,h,ha,hq',ATP,bA]
  ·have r1:=(zY.1 h3).1;have r2:=Ex.aV h3;have r3:=ok_eq w k;rw[h5]at r3;simp[IX,r1,r2,r3,Ex.subst,h,ha,ATP,bA]
 ·intro i hi;obtain⟨k,h3,h4,h5⟩:=h1 i hi;have r1:=(zY.1 h3).1;have r2:=Ex.aV h3;have r3:=ok_eq w k;have w2:IntKind.i64.wrap ((i:Int)+1)=i+1:=wrO;have hh:=AKQ k (by have:=Ex.vG h5;omega);rw[h5]at r3;have hD:(rO ((l.map Ex.ht).take i)).length=i:=by simp;omega
  have g1:=JA (n:=l.length) (z:=[IV.int 0]) hD r1;have g2:=J9 (n:=l.length) (z:=[IV.int 0]) (x:=[IV.int k.ht]) hD r1;rw[PI,← aP (a:=k.ht) (by simp[h3])]at g2;simp[IX,r1,r2,r3,w2,hh,g1,g2]
end Go.Proofs.YtnmimmaahhlgeaaGreat
namespace Go.Av
@[simp] theorem TN:∀ l:List UInt8,iB 1 (fF l)=true
  | []=>rfl
  | _::l=>by have:=TN l;simp only[iB]at this;simp[fF,iB,this]
@[simp] theorem AB5:∀ (n:Nat) (l:List UInt8),(fF l).take n=fF (l.take n)
  | 0,l=>by simp[fF]
  | n+1,[]=>by simp[fF]
  | n+1,b::l=>by simp[fF,AB5 n l]
end Go.Av
namespace Go.Proofs.YtnmimmaahhlgeaaGreat
open Go Go.Av
set_option maxRecDepth 4000
theorem H6 (l:List UInt8):∃ l':List UInt8,l'.length≤2000∧aG C0 21 [.i (.isl (fF l))] []=some (.own 0 0,[Rd l' 0]):=by
 by_cases h:(l.length:Int) > 2000
 ·refine⟨l.take 2000,by simp;omega,?_⟩;rw[aD rfl Tryz.func21 rfl rfl];simp[cO,h,show(2000:Int)≤l.length by omega]
 ·refine⟨l,by omega,?_⟩;rw[aD rfl Tryz.func21 rfl rfl];simp[cO,h]
theorem rJ (l:List UInt8) (p:Int) (h0:0≤p) (h1:p<1000000000) (hl:l.length≤2000) (es:List (List IV)) (hn:0<es.length) (hes:es.length≤100) (hi:∀ r∈es,∃ x,r=[.int x]) :
 ∃ x:Int,aG C0 81 [.own 0 0, .osl 1 1 0 es.length] [Rd l p,some (.arr 1 es)]=some (.int x,[Rd l (p+1),some (.arr 1 es)])∧[.int x]∈es:=by
 obtain⟨v,hv,hv1,hv2⟩:=bK l p es.length h0 h1 hl;obtain⟨v0,v1⟩:=hv1 (by omega);have hlt:v.toNat<es.length:=by omega
 have hm:=xQ hlt;obtain⟨x,hx⟩:=hi _ hm;refine⟨x,?_,hx ▸ hm⟩;have hnth:fO es v.toNat=some [.int x]:=by rw[dO,zX hlt,hx]
 have hw:iB 1 es=true:=by
  rw[iB,zS];intro r hr;obtain⟨y,rfl⟩:=hi r hr;rfl
 rw[aD rfl Tryz.func81 rfl rfl];simp[hv,v0,v1,hnth,hw]
theorem AP (l:List UInt8) (p:Int) (h0:0≤p) (h1:p<900000000) (hl:l.length≤2000) :
 ∃ (v:Val) (p':Int),aG C0 175 [.own 0 0] [Rd l p]=some (.i (.agg [.bool v.null, .int v.n]),[Rd l p'])∧p≤p'∧p'≤p+2:=by
 obtain⟨v,hv,hv1,hv2⟩:=bK l p 5 h0 (by omega) hl;by_cases h:v=0
 ·refine⟨⟨true,0⟩,p+1,?_,by omega,by omega⟩;rw[aD rfl Tryz.func175 rfl rfl];simp[hv,h]
 ·obtain⟨x,hx,_⟩:=rJ l (p+1) (by omega) (by omega) hl [[.int 0],[.int 1],[.int 2],[.int 3],[.int (-1)]] (by simp) (by simp) (by simp);refine⟨⟨false,x⟩,p+1+1,?_,by omega,by omega⟩;rw[aD rfl Tryz.func175 rfl rfl];simp at hx;simp[hv,h,hx]
theorem N8 (l:List UInt8) (p:Int) (h0:0≤p) (h1:p<900000000) (hl:l.length≤2000) :
 ∃ (v:Val) (p':Int),aG C0 133 [.own 0 0] [Rd l p]=some (.i (.agg [.bool v.null, .int v.n]),[Rd l p'])∧p≤p'∧p'≤p+4:=by
 obtain⟨v,p1,hv,q1,q2⟩:=AP l p h0 (by omega) hl;obtain⟨k,hk,hk1,hk2⟩:=bK l p1 14 (by omega) (by omega) hl;by_cases g0:k=0
 ·refine⟨⟨true,1⟩,p1+1,?_,by omega,by omega⟩;rw[aD rfl Tryz.func133 rfl rfl];simp[hv,hk,g0]
 ·by_cases g1:k=1
  ·obtain⟨x,hx,_⟩:=rJ l (p1+1) (by omega) (by omega) hl [[.int 10000],[.int (-10000)],[.int 9999],[.int (-9999)]] (by simp) (by simp) (by simp);refine⟨⟨false,x⟩,p1+1+1,?_,by omega,by omega⟩;rw[aD rfl Tryz.func133 rfl rfl];simp at hx;simp[hv,hk,g1,hx]
  ·refine⟨v,p1+1,?_,by omega,by omega⟩;rw[aD rfl Tryz.func133 rfl rfl];simp[hv,hk,g0,g1]
set_option maxHeartbeats 1000000
theorem AIY {l:List UInt8} (hl:l.length≤2000) {w:Int} {n:Nat} {p k:Int} (h0:0≤p) (h1:p<800000000) (hk:aG C0 40 [.own 0 0, .int 13] [Rd l p]=some (.int k,[Rd l (p+1)])) (hc:n=0∨k > 10) :
 ∃ (e:Ex) (p':Int),aG C0 132 [.own 0 0, .int w, .int n] [Rd l p]=some (.i (.agg e.cells),[Rd l p'])∧p≤p'∧p'≤p+4∧e.size=1:=by
 obtain⟨t,ht,ht1,ht2⟩:=bK l (p+1) 3 (by omega) (by omega) hl;by_cases g:t > 0
 ·obtain⟨c,hc',-,-⟩:=bK l (p+1+1) w (by omega) (by omega) hl;refine⟨.mk 1 c Val.zero [],p+1+1+1,?_,by omega,by omega,by simp[Ex.size,Ex.dV]⟩;rw[aD rfl Tryz.func132 rfl rfl];by_cases hn:n=0
  ·simp[hk,hn,ht,g,hc',Ex.cells,Ex.aB,Val.zero]
  ·have hk10:k > 10:=by omega
   simp[hk,hn,hk10,ht,g,hc',Ex.cells,Ex.aB,Val.zero]
 ·obtain⟨v,p2,hv,q1,q2⟩:=AP l (p+1+1) (by omega) (by omega) hl;refine⟨.mk 2 0 v [],p2,?_,by omega,by omega,by simp[Ex.size,Ex.dV]⟩;rw[aD rfl Tryz.func132 rfl rfl];by_cases hn:n=0
  ·simp[hk,hn,ht,g,hv]
  ·have hk10:k > 10:=by omega
   simp[hk,hn,hk10,ht,g,hv]
theorem ATS {l:List UInt8} (hl:l.length≤2000) {w:Int} {n c:Nat} {p k:Int} (h0:0≤p) (h1:p<800000000) (hk:aG C0 40 [.own 0 0, .int 13] [Rd l p]=some (.int k,[Rd l (p+1)])) (hk0:0≤k) (hk1:k≤10) (hn:n<10) (hc:c<100) (hpc:p+(2*c+1)<700000000) (ih:∀ p:Int,0≤p→p+c<700000000→∃ (e:Ex) (p':Int),aG C0 132 [.own 0 0, .int w, .int n] [Rd l p]=some (.i (.agg e.cells),[Rd l p'])∧p≤p'∧p'≤p+c∧e.size≤c) :
 ∃ (e:Ex) (p':Int),aG C0 132 [.own 0 0, .int w, .int ((n+1:Nat):Int)] [Rd l p]=some (.i (.agg e.cells),[Rd l p'])∧p≤p'∧p'≤p+(2*c+1:Nat)∧e.size≤2*c+1:=by
 obtain⟨e1,p1,he1,a1,a2,a3⟩:=ih (p+1) (by omega) (by omega);obtain⟨e2,p2,he2,b1,b2,b3⟩:=ih p1 (by omega) (by omega);have t1:0≤k.tmod 9:=Int.tmod_nonneg _ hk0;have t2:k.tmod 9<9:=x9 _ (by omega);have w1:IntKind.i64.wrap (3+k.tmod 9)=3+k.tmod 9:=wrO;have w2:IntKind.i64.wrap (n:Int)=n:=wrO;have w3:IntKind.i64.wrap 2=2:=wrO;have hn1:¬ ((n:Int)+1=0):=by omega
 have wn:((n:Int)+1 == 0)=false:=by simp[hn1]
 have hkk:¬ (10<k):=by omega
 have hK:dA (3+k.tmod 9)=1∨dA (3+k.tmod 9)=2:=by
  unfold dA;split;· omega
  split;· exact .inl rfl
  split;· exact .inr rfl
  ·omega
 rcases hK with hK|hK
 ·refine⟨.mk (3+k.tmod 9) 0 Val.zero [e1],p1,?_,by omega,by omega,by simp[Ex.size,Ex.dV];omega⟩;rw[aD rfl Tryz.func132 rfl rfl];simp[hk,hn1,wn,hkk,w1];rw[aF];simp[hK,w2,he1,bD];rw[aF];simp[hK,Ex.cells,Ex.aB,Val.zero]
 ·refine⟨.mk (3+k.tmod 9) 0 Val.zero [e1,e2],p2,?_,by omega,by omega,by simp[Ex.size,Ex.dV];omega⟩;rw[aD rfl Tryz.func132 rfl rfl];simp[hk,hn1,wn,hkk,w1];rw[aF];simp[hK,w2,he1,bD];rw[aF];simp[hK,w2,he2,w3];rw[aF];simp[hK,Ex.cells,Ex.aB,Val.zero]
def lF:Nat→Nat
 | 0=>4
 | n+1=>2*lF n+1
theorem AD2:∀ n,4≤lF n
 | 0=>by simp[lF]
 | n+1=>by have:=AD2 n;simp only[lF];omega
theorem rE (l:List UInt8) (hl:l.length≤2000) (w:Int):∀ n:Nat,lF n<200→n<10→∀ p:Int,0≤p→p+lF n<700000000→∃ (e:Ex) (p':Int),aG C0 132 [.own 0 0, .int w, .int n] [Rd l p]=some (.i (.agg e.cells),[Rd l p'])∧p≤p'∧p'≤p+lF n∧e.size≤lF n
 | 0,hc,hn,p,h0,h1=>by
  obtain⟨k,hk,-,-⟩:=bK l p 13 h0 (by omega) hl;obtain⟨e,p',a1,a2,a3,a4⟩:=AIY hl (n:=0) (w:=w) h0 (by omega) hk (.inl rfl);exact⟨e,p',a1,a2,by simp[lF];omega,by simp[lF];omega⟩
 | n+1,hc,hn,p,h0,h1=>by
  obtain⟨k,hk,hk1,-⟩:=bK l p 13 h0 (by omega) hl;obtain⟨k0,k1⟩:=hk1 (by omega);have hc':lF (n+1)=2*lF n+1:=rfl;by_cases hg:k > 10
  ·obtain⟨e,p',a1,a2,a3,a4⟩:=AIY hl (n:=n+1) (w:=w) h0 (by omega) hk (.inr hg);have h4:=AD2 n;exact⟨e,p',a1,a2,by omega,by omega⟩
  ·rw[hc'];exact ATS hl h0 (by omega) hk k0 (by omega) (by omega) (by omega) (by omega) fun q q0 q1=>rE l hl w n (by omega) (by omega) q q0 q1
theorem ZR (l:List UInt8) (hl:l.length≤2000) (w p:Int) (h0:0≤p) (h1:p<600000000):∃ (e:Ex) (p':Int),aG C0 132 [.own 0 0, .int w, .int 3] [Rd l p]=some (.i (.agg e.cells),[Rd l p'])∧p≤p'∧p'≤p+39∧e.size≤39:=rE l hl w 3 (by decide) (by omega) p h0 (by simp only[lF];omega)
theorem KI (l:List UInt8) (hl:l.length≤2000) (w p:Int) (h0:0≤p) (h1:p<600000000):∃ (e:Ex) (p':Int),aG C0 132 [.own 0 0, .int w, .int 2] [Rd l p]=some (.i (.agg e.cells),[Rd l p'])∧p≤p'∧p'≤p+19∧e.size≤19:=rE l hl w 2 (by decide) (by omega) p h0 (by simp only[lF];omega)
end Go.Proofs.YtnmimmaahhlgeaaGreat
namespace Go.Av
end Go.Av
namespace Go.Proofs.YtnmimmaahhlgeaaGreat
open Go Go.Av
set_option maxRecDepth 4000
set_option maxHeartbeats 1000000
theorem AGW (l:List UInt8) (hl:l.length≤2000) (w p:Int) (h0:0≤p) (h1:p<500000000):∃ (e:Ex) (p':Int),aG C0 82 [.own 0 0, .int w] [Rd l p]=some (.i (.agg e.cells),[Rd l p'])∧p≤p'∧p'≤p+50∧e.size≤39:=by
 obtain⟨e,p1,he,a1,a2,a3⟩:=ZR l hl w p h0 (by omega);obtain⟨k,hk,-,-⟩:=bK l p1 18 (by omega) (by omega) hl;rw[Ex.aA]at he;by_cases g0:k=0
 ·obtain⟨x,hx,-⟩:=rJ l (p1+1) (by omega) (by omega) hl [[.int 0],[.int 12],[.int 3],[.int 10]] (by simp) (by simp) (by simp);refine⟨.mk x e.col e.val e.kids,p1+1+1,?_,by omega,by omega,by rw[Ex.size_eq]at a3 ⊢;simpa [Ex.kids]using a3⟩;rw[aD rfl Tryz.func82 rfl rfl];simp at hx;simp[he,hk,g0,hx,Ex.cells]
 ·by_cases g1:k=1
  ·obtain⟨x,hx,-⟩:=rJ l (p1+1) (by omega) (by omega) hl [[.int (-1)],[.int 6],[.int w]] (by simp) (by simp) (by simp);refine⟨.mk e.kind x e.val e.kids,p1+1+1,?_,by omega,by omega,by rw[Ex.size_eq]at a3 ⊢;simpa [Ex.kids]using a3⟩;rw[aD rfl Tryz.func82 rfl rfl];simp at hx;simp[he,hk,g1,hx,Ex.cells]
  ·by_cases g2:k=2
   ·obtain⟨v,p2,hv,q1,q2⟩:=N8 l (p1+1) (by omega) (by omega) hl;refine⟨.mk e.kind e.col v e.kids,p2,?_,by omega,by omega,by rw[Ex.size_eq]at a3 ⊢;simpa [Ex.kids]using a3⟩;rw[aD rfl Tryz.func82 rfl rfl];simp[he,hk,g2,hv,Ex.cells]
   ·refine⟨e,p1+1,?_,by omega,by omega,by omega⟩;rw[aD rfl Tryz.func82 rfl rfl];simp[he,hk,g0,g1,g2,Ex.aA e]
end Go.Proofs.YtnmimmaahhlgeaaGreat
namespace Go.Av
def AmQ (i:Nat):Ex:=.mk 1 i Val.zero []
def AdF (n:Nat):List Ex:=(List.range n).map AmQ
def AP6 (o:Option Ex):Ex:=o.getD Ex.zero
theorem ATO (o:Option Ex):ATP o=.tup [.i (.agg (AP6 o).cells), .bool o.isSome]:=by cases o<;>rfl
end Go.Av
namespace Go.Proofs.YtnmimmaahhlgeaaGreat
open Go Go.Av
set_option maxRecDepth 4000
set_option maxHeartbeats 1000000
theorem AKF (e:Ex) (l:List Ex) (w:Int):aG C0 115 [.i (.agg e.cells), .i (.isl (Ex.aB l)), .int w] []=some (.tup [.i (.agg (AP6 (e.subst l w)).cells), .bool (e.subst l w).isSome],[]):=by
 rw[← ATO]
 cases h:e.ok l.length with
 | true=>exact AUE h
 | false=>exact AUD h
def WX (code:List UInt8) (e:Ex) (l:List Ex) (w:Int) (i:Nat):AS :=
 { env:=[(0, .i (.isl (fF code))),(2, .bool false),(3, .own 0 0),(4, .i (.isl (Ex.aB l))),(5, .int w),(6, .own 1 0),(7, .bool (e.subst l w).isSome),(8, .own 2 0),(9, .bool (e.subst l w).isSome),(10, .osl 3 5 0 i),(11, .int i),(12, .junk),(13, .junk),(16, .bool false),(52, .bool false),(65,jk i (.bool true))],
   st:=[some (.box (lZ e.cells)),some (.box (lZ (AP6 (e.subst l w)).cells)),some (.box (lZ (AP6 (e.subst l w)).cells)),some (.arr 5 (Ex.aB (AdF i)))] }
theorem AXK:IntKind.i64.wrap 0=0:=wrO
@[simp] theorem OJ (b:Bool) (n:Int):aG C0 139 [.i (.agg [.bool b, .int n])] []=some (.int (Val.tr ⟨b,n⟩),[]):=by
  rw[aD rfl Tryz.func139 rfl rfl]
  cases b
  ·by_cases h:n=0<;>simp[Val.tr,h]
  ·simp[Val.tr]
@[simp] theorem KT:aG C0 143 [] []=some (.i (.agg [.bool true, .int 0]),[]):=by
  rw[aD rfl Tryz.func143 rfl rfl];simp
@[simp] theorem number_eq (n:Int):aG C0 149 [.int n] []=some (.i (.agg [.bool false, .int n]),[]):=by
  rw[aD rfl Tryz.func149 rfl rfl];simp
@[simp] theorem AJJ (n:Int):aG C0 197 [.int n] []=some (.i (.agg [.bool (AJK n).null, .int (AJK n).n]),[]):=by
  rw[aD rfl Tryz.func197 rfl rfl];by_cases h:-9999≤n∧n≤9999<;>simp[AJK,Val.ok,h]
@[simp] theorem AcQ (b:Bool):aG C0 181 [.bool b] []=some (.i (.agg [.bool (FM b).null, .int (FM b).n]),[]):=by
  rw[aD rfl Tryz.func181 rfl rfl]
  cases b<;>simp[FM]
@[simp] theorem AXP (t:Int):aG C0 180 [.int t] []=some (.i (.agg [.bool (trV t).null, .int (trV t).n]),[]):=by
  rw[aD rfl Tryz.func180 rfl rfl];by_cases h:t=1
  ·simp[trV,h]
  ·by_cases h2:t=2<;>simp[trV,FM,h,h2]
theorem p9 (k:Int) (a b:Val) (ha:a.ok=true) (hb:b.ok=true):aG C0 182 [.int k, .i (.agg [.bool a.null, .int a.n]), .i (.agg [.bool b.null, .int b.n])] []=some (.i (.agg [.bool (Val.cmb k a b).null, .int (Val.cmb k a b).n]),[]):=by
 rw[aD rfl Tryz.func182 rfl rfl];obtain⟨an,a⟩:=a;obtain⟨bn,b⟩:=b;have ba:-9999≤a∧a≤9999:=by cases an<;>simp[Val.ok]at ha<;>omega
 have bb:-9999≤b∧b≤9999:=by cases bn<;>simp[Val.ok]at hb<;>omega
 have w1:IntKind.i64.wrap (a+b)=a+b:=wrO;have w2:IntKind.i64.wrap (a-b)=a-b:=wrO
 have w3:IntKind.i64.wrap (a*b)=a*b:=by
  have h1:a*b≤9999*9999:=by
   have:=zB1 (x:=a) (y:=b) (s:=9999) (t:=9999) (by omega) (by omega);omega
  have h2:-(9999*9999)≤a*b:=by
   have:=zB1 (x:=-a) (y:=b) (s:=9999) (t:=9999) (by omega) (by omega);rw[Int.neg_mul]at this;omega
  exact wrO
 by_cases k8:k=8
 ·by_cases hm:Val.tr ⟨bn,b⟩<Val.tr ⟨an,a⟩<;>simp[Val.cmb,k8,hm]
 by_cases k9:k=9
 ·by_cases hm:Val.tr ⟨an,a⟩<Val.tr ⟨bn,b⟩<;>simp[Val.cmb,k9,hm]
 cases an
 ·cases bn
  ·by_cases k3:k=3
   ·simp[Val.cmb,k3,w1]
   by_cases k4:k=4
   ·simp[Val.cmb,k4,w2]
   by_cases k5:k=5
   ·simp[Val.cmb,k5,w3]
   by_cases k6:k=6
   ·simp[Val.cmb,k6]
   ·simp[Val.cmb,k8,k9,k3,k4,k5,k6]
  ·simp[Val.cmb,k8,k9]
 ·simp[Val.cmb,k8,k9]
theorem AeP (v:Val):0≤v.tr∧v.tr≤2:=by
 unfold Val.tr;split
 ·omega
 ·split<;>omega
theorem AHJ {e:Ex} {row:List Val} {v:Val} (hk:e.kind=1) (h0:0≤e.col) (hv:row[e.col.toNat]?=some v) :
 aG C0 140 [.i (.iref e.cells), .i (.isl (aO row))] []=some (.i (.agg [.bool v.null, .int v.n]),[]):=by
 rw[aD rfl Tryz.func140 rfl rfl,Ex.aA];have r1:=(zY.1 hv).1;simp[hk,h0,bS hv,show e.col<row.length by omega]
theorem Z6 {e:Ex} {row:List Val} (hk:e.kind=2) :
 aG C0 140 [.i (.iref e.cells), .i (.isl (aO row))] []=some (.i (.agg [.bool e.val.null, .int e.val.n]),[]):=by
 rw[aD rfl Tryz.func140 rfl rfl,Ex.aA];simp[hk]
theorem AHI {e a:Ex} {va:Val} {row:List Val} (hk:e.kind=10∨e.kind=11) (hks:e.kids=[a]) (ha:aG C0 140 [.i (.iref a.cells), .i (.isl (aO row))] []=some (.i (.agg [.bool va.null, .int va.n]),[])) :
 aG C0 140 [.i (.iref e.cells), .i (.isl (aO row))] []=some (.i (.agg [.bool (evN row e.kind e.col e.val [va]).null, .int (evN row e.kind e.col e.val [va]).n]),[]):=by
 rw[aD rfl Tryz.func140 rfl rfl,Ex.aA,hks]
 have w:IntKind.i64.wrap (2-Val.tr ⟨va.null,va.n⟩)=2-Val.tr ⟨va.null,va.n⟩:=by
  have:=AeP ⟨va.null,va.n⟩;exact wrO
 rcases hk with hk|hk
 ·simp[hk,Ex.aB,ha,w,evN]
 ·simp[hk,Ex.aB,ha,evN]
theorem AHH {e a b:Ex} {va vb:Val} {row:List Val} (h1:e.kind≠1) (h2:e.kind≠2) (h3:e.kind≠10) (h4:e.kind≠11) (hks:e.kids=[a,b]) (oa:va.ok=true) (ob:vb.ok=true) (ha:aG C0 140 [.i (.iref a.cells), .i (.isl (aO row))] []=some (.i (.agg [.bool va.null, .int va.n]),[]))
 (hb:aG C0 140 [.i (.iref b.cells), .i (.isl (aO row))] []=some (.i (.agg [.bool vb.null, .int vb.n]),[])) :
 aG C0 140 [.i (.iref e.cells), .i (.isl (aO row))] []=some (.i (.agg [.bool (evN row e.kind e.col e.val [va,vb]).null, .int (evN row e.kind e.col e.val [va,vb]).n]),[]):=by
 rw[aD rfl Tryz.func140 rfl rfl,Ex.aA,hks];have hc:=p9 e.kind va vb oa ob;simp[h1,h2,h3,h4,Ex.aB,ha,hb,hc,evN]
theorem WW {e:Ex} {w:Int} (h:e.wf w=true):(e.kind=1∧e.kids=[])∨(e.kind=2∧e.kids=[])∨((e.kind=10∨e.kind=11)∧∃ a,e.kids=[a])∨(e.kind≠1∧e.kind≠2∧e.kind≠10∧e.kind≠11∧∃ a b,e.kids=[a,b]):=by
 rw[Ex.EO]at h;simp at h;have hl:=h.1
 rcases LH e.kind with k|k|k|k|k|k|k|k|k|k|k|⟨h1,h2,h3,h4,h5,h6,h7,h8,h9,h10,h11⟩
 case inr.inr.inr.inr.inr.inr.inr.inr.inr.inr.inr =>
  have:dA e.kind=-1:=by unfold dA;rw[if_neg (by omega),if_neg (by omega),if_neg (by omega)]
  omega
 all_goals (rw[k]at hl;simp[dA]at hl;simp[k])
 all_goals first
  | exact hl
  | (cases hk:e.kids with
     | nil=>rw[hk]at hl;simp at hl
     | cons a r=>cases r with
      | nil=>first|exact⟨a,rfl⟩|(rw[hk]at hl;simp at hl)
      | cons b r=>cases r with
       | nil=>first|exact⟨a,b,rfl⟩|(rw[hk]at hl;simp at hl)
       | cons c r=>rw[hk]at hl;simp at hl;omega)
theorem ABG {m:Int} (row:List Val) (hm:m=row.length) (hr:row.all Val.ok=true):∀ (e:Ex),e.wf m=true→aG C0 140 [.i (.iref e.cells), .i (.isl (aO row))] []=some (.i (.agg [.bool (e.ev row).null, .int (e.ev row).n]),[]):=by
 intro e
 induction e using Ex.ind with
 | h k c v ks ih =>
  intro h
  rcases WW h with ⟨k1,ck⟩|⟨k1,ck⟩|⟨k1,a,ck⟩|⟨k1,k2,k3,k4,a,b,ck⟩
  ·obtain⟨h0,h1,_⟩:=Ex.pV h k1;have hi:c.toNat<row.length:=by simp[Ex.col]at h0 h1;omega
   have hb:=zX hi;have:=AHJ (e:=.mk k c v ks) (row:=row) k1 h0 hb;rw[this];simp[Ex.kind]at k1;simp[Ex.ev,evN,k1,hb]
  ·rw[Z6 k1];simp[Ex.kind]at k1;simp[Ex.ev,evN,k1,Ex.val]
  ·have ck':ks=[a]:=ck;subst ck';have hw:=Ex.iU h (k:=a) (by simp[Ex.kids]);have:=AHI k1 ck (ih a (by simp) hw);simpa [Ex.ev,Ex.evL,Ex.kind,Ex.col,Ex.val]using this
  ·have ck':ks=[a,b]:=ck;subst ck';have hwa:=Ex.iU h (k:=a) (by simp[Ex.kids]);have hwb:=Ex.iU h (k:=b) (by simp[Ex.kids]);have:=AHH (e:=.mk k c v [a,b]) k1 k2 k3 k4 ck (AG3 row hm hr a hwa) (AG3 row hm hr b hwb) (ih a (by simp) hwa) (ih b (by simp) hwb);simpa [Ex.ev,Ex.evL,Ex.kind,Ex.col,Ex.val]using this
def VR (row:List Val) (i:Nat):AS :=
 { env:=[(0, .i (.isl (aO row))),(2, .bool false),(4,if i=0 then .junk else .own 0 0),(8, .bool false),(9, .i (.isl (aO row))),(10, .int row.length),(11, .int i),(12,jk i (.bool true)),(17,jk i (.bool false))],
   st:=if i=0 then []else [some (.box [.bool ((row[i-1]?).getD Val.zero).null, .int ((row[i-1]?).getD Val.zero).n])] }
theorem JL (row:List Val) (hl:row.length<1000000000):aG C0 135 [.i (.isl (aO row))] []=some (.bool (vI row),[]):=by
 rw[aD rfl Tryz.func135 rfl rfl]
 cases hw:bH row.length with
 | false=>simp[hw,vI]
 | true =>
  simp[hw,vI];obtain⟨j,h1,h2⟩:=gJ Val.ok row;rw[aS (VR row) j (by simp[VR])]
  ·rw[aF]
   rcases h2 with ⟨hj,ha⟩|⟨v,h3,h4,h5,ha⟩
   ·by_cases h0:j=0
    ·have:row.length=0:=by omega
     have:row=[]:=zW.1 this;subst this;subst h0;simp[VR,aO]
    ·have hz:row.length≠0:=by omega
     simp[VR,hj,ha,hz]
   ·have r1:=(zY.1 h3).1;have r2:=bS h3;have r3:Val.ok ⟨v.null,v.n⟩=false:=h5;by_cases h0:j=0
    ·subst h0;simp[VR,r1,r2,r3,ha]
    ·simp[VR,h0,r1,r2,r3,ha]
  ·intro i hi;obtain⟨v,h3,h4,h5⟩:=h1 i hi;have r1:=(zY.1 h3).1;have r2:=bS h3;have r3:Val.ok ⟨v.null,v.n⟩=true:=h5;obtain⟨_,hv⟩:=zY.1 h3;have w2:IntKind.i64.wrap ((i:Int)+1)=i+1:=wrO;by_cases h0:i=0
   ·subst h0;simp[VR,r1,r2,r3,hv,bD]
   ·simp[VR,h0,r1,r2,r3,hv,w2]
end Go.Proofs.YtnmimmaahhlgeaaGreat
namespace Go.Av
end Go.Av
namespace Go.Proofs.YtnmimmaahhlgeaaGreat
open Go Go.Av
set_option maxRecDepth 4000
set_option maxHeartbeats 1000000
end Go.Proofs.YtnmimmaahhlgeaaGreat
namespace Go.Av
def iX (v:Val):Ex:=.mk 2 0 v []
theorem cB (v:Val):(iX v).cells=[.int 2, .int 0, .bool v.null, .int v.n, .isl []]:=by simp[iX,Ex.cells,Ex.aB]
end Go.Av
namespace Go.Proofs.YtnmimmaahhlgeaaGreat
open Go Go.Av
set_option maxRecDepth 4000
set_option maxHeartbeats 1000000
end Go.Proofs.YtnmimmaahhlgeaaGreat
namespace Go.Av
mutual
def Ex.ext (w:Int) (vs:List Val):Ex→Ex×List Val
 | .mk k c v ks=>if k=2 then(.mk 1 (w+vs.length) Val.zero [],vs++[v])else((.mk k c Val.zero (Ex.AbF w vs ks).1),(Ex.AbF w vs ks).2)
def Ex.AbF (w:Int) (vs:List Val):List Ex→List Ex×List Val
 | []=>([],vs)
 | e::es=>(((Ex.ext w vs e).1::(Ex.AbF w (Ex.ext w vs e).2 es).1),(Ex.AbF w (Ex.ext w vs e).2 es).2)
end
end Go.Av
namespace Go.Proofs.YtnmimmaahhlgeaaGreat
open Go Go.Av
set_option maxRecDepth 4000
set_option maxHeartbeats 2000000
def xv (a b:Nat):AV:=if b=a then .osl 0 2 0 a else .osl 1 2 0 b
def wi (n:Nat):Nat:=if n=0 then 1 else 2
end Go.Proofs.YtnmimmaahhlgeaaGreat
namespace Go.Av
end Go.Av
namespace Go.Proofs.YtnmimmaahhlgeaaGreat
open Go Go.Av
set_option maxRecDepth 4000
set_option maxHeartbeats 2000000
end Go.Proofs.YtnmimmaahhlgeaaGreat
namespace Go.Av
end Go.Av
namespace Go.Proofs.YtnmimmaahhlgeaaGreat
open Go Go.Av
set_option maxRecDepth 4000
set_option maxHeartbeats 2000000
set_option maxHeartbeats 4000000
def rU (c:Int):Ex:=.mk 1 c Val.zero []
def two (k:Int) (a b:Ex):Ex:=.mk k 0 Val.zero [a,b]
theorem dP (c:Int):(rU c).cells=[.int 1, .int c, .bool false, .int 0, .isl []]:=by simp[rU,Ex.cells,Ex.aB,Val.zero]
theorem eU (k:Int) (a b:Ex):(two k a b).cells=[.int k, .int 0, .bool false, .int 0, .isl [a.cells,b.cells]]:=by simp[two,Ex.cells,Ex.aB,Val.zero]
def APJ:Nat→Nat
 | 0=>40
 | n+1=>APJ n+40
theorem Y2 (l:List UInt8) (hl:l.length≤2000) (w:Int) (n c:Nat) (hn:n≤3) (p:Int) (h0:0≤p) (h1:p+10*n<500000000)
 (ih:n=0∨∀ p:Int,0≤p→p+10*((n:Int)-1)<500000000→∃ (e:Ex) (p':Int),aG C0 173 [.own 0 0, .int w, .int ((n:Int)-1)] [Rd l p]=some (.i (.agg e.cells),[Rd l p'])∧p≤p'∧p'≤p+c∧e.size≤c) :
 ∃ (e:Ex) (p':Int),aG C0 173 [.own 0 0, .int w, .int n] [Rd l p]=some (.i (.agg e.cells),[Rd l p'])∧p≤p'∧p'≤p+(c+40:Nat)∧e.size≤c+40:=by
 obtain⟨c1,hc1,-,-⟩:=bK l p w h0 (by omega) hl;obtain⟨x,hx,-,-⟩:=bK l (p+1) 4 (by omega) (by omega) hl;obtain⟨t,ht,-,-⟩:=bK l (p+1+1) 3 (by omega) (by omega) hl;obtain⟨c2,hc2,-,-⟩:=bK l (p+1+1+1) w (by omega) (by omega) hl;have hcon:=AAZ ⟨false,x⟩;rw[show(Ex.mk 2 0 ⟨false,x⟩ []).cells=(iX ⟨false,x⟩).cells from rfl]at hcon;simp at hcon;have wn:IntKind.i64.wrap ((n:Int)-1)=n-1:=wrO;by_cases g:t=0
 ·obtain⟨k,hk,-,-⟩:=bK l (p+1+1+1+1) 8 (by omega) (by omega) hl;by_cases k0:k=0
  ·obtain⟨e,p',he,a1,a2,a3⟩:=KI l hl w (p+1+1+1+1+1) (by omega) (by omega);refine⟨e,p',?_,by omega,by omega,by omega⟩;rw[aD rfl Tryz.func173 rfl rfl];simp[hc1,hx,ht,hk,hcon,g,hc2,dP,cB,eU,Ex.aB,k0,he]
  by_cases k1:k=1
  ·refine⟨.mk 10 0 Val.zero [.mk 11 0 Val.zero [rU c1]],p+1+1+1+1+1,?_,by omega,by omega,by simp[rU,Ex.size,Ex.dV]⟩;rw[aD rfl Tryz.func173 rfl rfl];simp[hc1,hx,ht,hk,hcon,g,hc2,dP,cB,eU,Ex.aB,k1,Ex.cells,Val.zero]
  by_cases k2:k=2
  ·rcases ih with rfl|ih
   ·refine⟨two 7 (rU c1) (rU c2),p+1+1+1+1+1,?_,by omega,by omega,by simp[two,rU,iX,Ex.size,Ex.dV]⟩;rw[aD rfl Tryz.func173 rfl rfl];simp[hc1,hx,ht,hk,hcon,g,hc2,dP,cB,eU,Ex.aB,k2]
   ·by_cases n0:n=0
    ·refine⟨two 7 (rU c1) (rU c2),p+1+1+1+1+1,?_,by omega,by omega,by simp[two,rU,iX,Ex.size,Ex.dV]⟩;rw[aD rfl Tryz.func173 rfl rfl];simp[hc1,hx,ht,hk,hcon,g,hc2,dP,cB,eU,Ex.aB,k2,n0]
    ·obtain⟨e,p',he,a1,a2,a3⟩:=ih (p+1+1+1+1+1) (by omega) (by omega);refine⟨two 8 e (two 6 (rU c1) (rU c2)),p',?_,by omega,by omega,by simp[two,rU,iX,Ex.size,Ex.dV];omega⟩;rw[aD rfl Tryz.func173 rfl rfl];simp[hc1,hx,ht,hk,hcon,g,hc2,dP,cB,eU,Ex.aB,k2,n0,wn,he]
  by_cases k3:k=3
  ·refine⟨two 7 (rU c2) (rU c1),p+1+1+1+1+1,?_,by omega,by omega,by simp[two,rU,iX,Ex.size,Ex.dV]⟩;rw[aD rfl Tryz.func173 rfl rfl];simp[hc1,hx,ht,hk,hcon,g,hc2,dP,cB,eU,Ex.aB,k3]
  by_cases k4:k=4
  ·refine⟨two 7 (rU c2) (rU c1),p+1+1+1+1+1,?_,by omega,by omega,by simp[two,rU,iX,Ex.size,Ex.dV]⟩;rw[aD rfl Tryz.func173 rfl rfl];simp[hc1,hx,ht,hk,hcon,g,hc2,dP,cB,eU,Ex.aB,k4]
  by_cases k5:k=5
  ·refine⟨two 7 (rU c1) (rU c2),p+1+1+1+1+1,?_,by omega,by omega,by simp[two,rU,iX,Ex.size,Ex.dV]⟩;rw[aD rfl Tryz.func173 rfl rfl];simp[hc1,hx,ht,hk,hcon,g,hc2,dP,cB,eU,Ex.aB,k5]
  refine⟨two 6 (rU c1) (rU c2),p+1+1+1+1+1,?_,by omega,by omega,by simp[two,rU,iX,Ex.size,Ex.dV]⟩;rw[aD rfl Tryz.func173 rfl rfl];simp[hc1,hx,ht,hk,hcon,g,hc2,dP,cB,eU,Ex.aB,k0,k1,k2,k3,k4,k5]
 ·obtain⟨k,hk,-,-⟩:=bK l (p+1+1+1) 8 (by omega) (by omega) hl;by_cases k0:k=0
  ·obtain⟨e,p',he,a1,a2,a3⟩:=KI l hl w (p+1+1+1+1) (by omega) (by omega);refine⟨e,p',?_,by omega,by omega,by omega⟩;rw[aD rfl Tryz.func173 rfl rfl];simp[hc1,hx,ht,hk,hcon,g,dP,cB,eU,Ex.aB,k0,he]
  by_cases k1:k=1
  ·refine⟨.mk 10 0 Val.zero [.mk 11 0 Val.zero [rU c1]],p+1+1+1+1,?_,by omega,by omega,by simp[rU,Ex.size,Ex.dV]⟩;rw[aD rfl Tryz.func173 rfl rfl];simp[hc1,hx,ht,hk,hcon,g,dP,cB,eU,Ex.aB,k1,Ex.cells,Val.zero]
  by_cases k2:k=2
  ·rcases ih with rfl|ih
   ·refine⟨two 7 (rU c1) (iX ⟨false,x⟩),p+1+1+1+1,?_,by omega,by omega,by simp[two,rU,iX,Ex.size,Ex.dV]⟩;rw[aD rfl Tryz.func173 rfl rfl];simp[hc1,hx,ht,hk,hcon,g,dP,cB,eU,Ex.aB,k2]
   ·by_cases n0:n=0
    ·refine⟨two 7 (rU c1) (iX ⟨false,x⟩),p+1+1+1+1,?_,by omega,by omega,by simp[two,rU,iX,Ex.size,Ex.dV]⟩;rw[aD rfl Tryz.func173 rfl rfl];simp[hc1,hx,ht,hk,hcon,g,dP,cB,eU,Ex.aB,k2,n0]
    ·obtain⟨e,p',he,a1,a2,a3⟩:=ih (p+1+1+1+1) (by omega) (by omega);refine⟨two 8 e (two 6 (rU c1) (iX ⟨false,x⟩)),p',?_,by omega,by omega,by simp[two,rU,iX,Ex.size,Ex.dV];omega⟩;rw[aD rfl Tryz.func173 rfl rfl];simp[hc1,hx,ht,hk,hcon,g,dP,cB,eU,Ex.aB,k2,n0,wn,he]
  by_cases k3:k=3
  ·refine⟨two 7 (iX ⟨false,x⟩) (rU c1),p+1+1+1+1,?_,by omega,by omega,by simp[two,rU,iX,Ex.size,Ex.dV]⟩;rw[aD rfl Tryz.func173 rfl rfl];simp[hc1,hx,ht,hk,hcon,g,dP,cB,eU,Ex.aB,k3]
  by_cases k4:k=4
  ·refine⟨two 7 (iX ⟨false,x⟩) (rU c1),p+1+1+1+1,?_,by omega,by omega,by simp[two,rU,iX,Ex.size,Ex.dV]⟩;rw[aD rfl Tryz.func173 rfl rfl];simp[hc1,hx,ht,hk,hcon,g,dP,cB,eU,Ex.aB,k4]
  by_cases k5:k=5
  ·refine⟨two 7 (rU c1) (iX ⟨false,x⟩),p+1+1+1+1,?_,by omega,by omega,by simp[two,rU,iX,Ex.size,Ex.dV]⟩;rw[aD rfl Tryz.func173 rfl rfl];simp[hc1,hx,ht,hk,hcon,g,dP,cB,eU,Ex.aB,k5]
  refine⟨two 6 (rU c1) (iX ⟨false,x⟩),p+1+1+1+1,?_,by omega,by omega,by simp[two,rU,iX,Ex.size,Ex.dV]⟩;rw[aD rfl Tryz.func173 rfl rfl];simp[hc1,hx,ht,hk,hcon,g,dP,cB,eU,Ex.aB,k0,k1,k2,k3,k4,k5]
theorem ALG (l:List UInt8) (hl:l.length≤2000) (w:Int):∀ (n:Nat),n≤3→∀ p:Int,0≤p→p+10*n<500000000→∃ (e:Ex) (p':Int),aG C0 173 [.own 0 0, .int w, .int n] [Rd l p]=some (.i (.agg e.cells),[Rd l p'])∧p≤p'∧p'≤p+APJ n∧e.size≤APJ n
 | 0,hn,p,h0,h1=>Y2 l hl w 0 0 hn p h0 h1 (.inl rfl)
 | n+1,hn,p,h0,h1=>by
  refine Y2 l hl w (n+1) (APJ n) hn p h0 h1 (.inr fun q q0 q1=>?_);rw[show((n+1:Nat):Int)-1=n by omega]at q1 ⊢;exact ALG l hl w n (by omega) q q0 q1
end Go.Proofs.YtnmimmaahhlgeaaGreat
namespace Go.Av
theorem AAC (l m:List Ex) (h:l.map Ex.ht=m.map Ex.ht):Ex.htL l=Ex.htL m:=by
 induction l generalizing m with
 | nil=>cases m with|nil=>rfl|cons b m=>simp at h
 | cons a l ih =>
  cases m with
  | nil=>simp at h
  | cons b m=>simp at h;simp only[Ex.htL,h.1,ih m h.2]
end Go.Av
namespace Go.Proofs.YtnmimmaahhlgeaaGreat
open Go Go.Av
set_option maxRecDepth 4000
set_option maxHeartbeats 2000000
theorem aQ (l:List UInt8) (hl:l.length≤2000) (w p:Int) (h0:0≤p) (h1:p<400000000):∃ (e:Ex) (p':Int),aG C0 131 [.own 0 0, .int w] [Rd l p]=some (.i (.agg e.cells),[Rd l p'])∧p≤p'∧p'≤p+120∧e.size≤120:=by
 obtain⟨e,p',he,a1,a2,a3⟩:=ALG l hl w 2 (by omega) p h0 (by omega);refine⟨e,p',?_,a1,a2,a3⟩;rw[aD rfl Tryz.func131 rfl rfl];rw[show((2:Nat):Int)=2 from rfl,Ex.aA]at he;rw[Ex.aA];simp[he]
end Go.Proofs.YtnmimmaahhlgeaaGreat
namespace Go.Proofs.YtnmimmaahhlgeaaGreat.P
open Go Go.Av
set_option maxRecDepth 4000
theorem uZ (n:Int):n=1∨n=2∨n=3∨n=4∨n=5∨n=6∨n=7∨n=8∨(n≠1∧n≠2∧n≠3∧n≠4∧n≠5∧n≠6∧n≠7∧n≠8):=by omega
@[simp] theorem AMQ (n:Int):aG C0 103 [.int n] []=some (.tup [.int (fH n), .int (kF n)],[]):=by
  rw[aD rfl Tryz.func103 rfl rfl]
  rcases uZ n with rfl|rfl|rfl|rfl|rfl|rfl|rfl|rfl|⟨h1,h2,h3,h4,h5,h6,h7,h8⟩
  all_goals first
   | (simp[fH,kF];done)
   | (have e1:fH n=0:=by unfold fH;rw[if_neg (by omega)]
      have e2:kF n=-1:=by unfold kF;rw[if_neg (by omega),if_neg (by omega),if_neg (by omega)]
      simp[e1,e2,h1,h2,h3,h4,h5,h6,h7,h8])
def pv (cs:List Int) (i:Nat):Int:=((-1)::cs)[i]?.getD 0
theorem AIZ {cs:List Int} {i:Nat} {c:Int} (h:cs[i]?=some c):pv cs (i+1)=c:=by simp[pv,h]
theorem EH {cs:List Int} {i:Nat} {x:Int×Int} (h:(cs.zip (-1::cs))[i]?=some x):cs[i]?=some x.1∧pv cs i=x.2:=by
 rw[List.getElem?_zip_eq_some]at h;exact⟨h.1,by simp[pv,h.2]⟩
theorem AD6 (cs:List Int):(cs.zip (-1::cs)).length=cs.length:=by simp
def GX (cs:List Int) (w:Int) (i:Nat):AS :=
 { env:=[(0, .i (.isl (aH cs))),(1, .int w),(4, .bool false),(5, .int (pv cs i)),(7,jk i (.int (pv cs i))),(10, .bool false),(11, .i (.isl (aH cs))),(12, .int cs.length),(13, .int i),(14,jk i (.bool true)),(24,jk i (.bool false))],st:=[] }
theorem wZ (cs:List Int) (w:Int):aG C0 155 [.i (.isl (aH cs)), .int w] []=some (.bool (decide (cs.length<6) && rT w cs),[]):=by
 rw[aD rfl Tryz.func155 rfl rfl];by_cases h6:cs.length<6
 case neg=>simp[h6,show(6:Int)≤cs.length by omega]
 simp[h6,show ¬ (6:Int)≤cs.length by omega];obtain⟨j,h1,h2⟩:=gJ (fun x:Int×Int=>decide (x.2<x.1∧x.1<w)) (cs.zip (-1::cs));rw[aS (GX cs w) j (by simp[GX,pv])]
 ·rw[aF]
  rcases h2 with ⟨hj,ha⟩|⟨x,h3,_,h4,ha⟩
  ·rw[AD6]at hj;have ha:rT w cs=true:=ha;simp[GX,hj,ha]
  ·obtain⟨c1,c2⟩:=EH h3;have r1:=(zY.1 c1).1;have r2:=dH c1;have hb:¬ (x.2<x.1∧x.1<w):=by simpa using h4
   have ha:rT w cs=false:=ha;by_cases hx:x.1≤x.2
   ·simp[GX,r1,r2,c2,hx,ha]
   ·simp[GX,r1,r2,c2,hx,ha,show w≤x.1 by omega]
 ·intro i hi;obtain⟨x,h3,_,h4⟩:=h1 i hi;obtain⟨c1,c2⟩:=EH h3;have r1:=(zY.1 c1).1;have r2:=dH c1;have c3:=AIZ c1;have hb:x.2<x.1∧x.1<w:=by simpa using h4
  have w2:IntKind.i64.wrap ((i:Int)+1)=i+1:=wrO;simp[GX,r1,r2,c2,c3,w2,show ¬ x.1≤x.2 by omega,show ¬ w≤x.1 by omega]
def WX (p:Pn) (a b y:Int) (x14:Bool) (n21 n22:Nat) (x22:Bool) (n26 n27:Nat) (x27:Bool) (i:Nat):AS :=
 { env:=[(0, .i (.iref [.int p.kind, .int p.table, .isl (Ex.aB p.exprs), .isl (aH p.cols), .isl (Pn.aB p.kids)])),(1, .int a),(2, .int b),(6, .int 0),(7, .int y),(8,jk i (.int (i-1))),(13, .int p.kind),(14, .bool x14),(21,jk n21 (.bool false)),(22,jk n22 (.bool x22)),(26,jk n26 (.bool false)),(27,jk n27 (.bool x27)),(35, .junk),(46, .int p.exprs.length),(47, .int i),(48,jk i (.bool true)),(59,jk i (.bool false)),(65, .junk)],st:=[] }
theorem iY (p:Pn) (a b:Int) (ha:0≤a∧a≤6) (hb:0≤b∧b≤6) (hd:p.headOk=true):aG C0 104 [.i (.iref p.cells), .int a, .int b] []=some (.int (dK p.kind p.exprs p.cols a b),[]):=by
 rw[aD rfl Tryz.func104 rfl rfl];have he:=Pn.vL hd;rw[Pn.aA];have hg:=wZ p.cols a;have w1:IntKind.i64.wrap (a+b)=a+b:=wrO;by_cases h6:p.kind=6
 ·have h8:p.kind≠8:=by omega
  have h4:p.kind≠5:=by omega
  have hz:p.exprs=[]:=by
   simp only[Pn.headOk,zU,zR,h6]at hd;have:=hd.2.1;simp[fH]at this;exact this
  by_cases hab:a=b
  ·subst hab;simp[h6];rw[aF];simp[hz,h6,dK]
  ·simp[h6,hab,dK]
 by_cases h8:p.kind=8
 ·by_cases h9:p.cols.length<6
  ·have w3:IntKind.i64.wrap ((p.cols.length:Int)+1)=p.cols.length+1:=wrO
   cases hc:rT a p.cols<;>simp[h8,hg,h9,hc,dK,w3]
  ·simp[h8,hg,h9,dK]
 by_cases h45:p.kind=4∨p.kind=5
 ·by_cases hs:a+b≤6
  case neg=>rcases h45 with h4|h4<;>simp[h4,w1,show 6<a+b by omega,dK,hs]
  have h4:True:=trivial
  rcases h45 with h45|h45
  ·simp[h45,w1,show ¬ 6<a+b by omega];obtain⟨j,h1,h2⟩:=gJ (Ex.ok (a+b)) p.exprs;rw[aS (WX p a b (a+b) true 1 0 false 0 0 false) j (by simp[WX,h45])]
   ·rw[aF]
    rcases h2 with ⟨hj,hall⟩|⟨x,h3,_,h5,hall⟩
    ·simp[WX,hj,hall,dK,h45,hs]
    ·have r1:=(zY.1 h3).1;have r2:=Ex.aV h3;have r3:=ok_eq (a+b) x;rw[h5]at r3;rw[Ex.aA]at r2 r3;simp[WX,r1,r2,r3,hall,dK,h45,hs]
   ·intro i hi;obtain⟨x,h3,_,h5⟩:=h1 i hi;have r1:=(zY.1 h3).1;have r2:=Ex.aV h3;have r3:=ok_eq (a+b) x;rw[h5]at r3;rw[Ex.aA]at r2 r3;have w2:IntKind.i64.wrap ((i:Int)+1)=i+1:=wrO;simp[WX,r1,r2,r3,w2,h45]
  ·simp[h45,w1,show ¬ 6<a+b by omega];obtain⟨j,h1,h2⟩:=gJ (Ex.ok (a+b)) p.exprs;rw[aS (WX p a b (a+b) true 1 0 false 0 0 false) j (by simp[WX,h45])]
   ·rw[aF]
    rcases h2 with ⟨hj,hall⟩|⟨x,h3,_,h5,hall⟩
    ·simp[WX,hj,hall,dK,h45,hs]
    ·have r1:=(zY.1 h3).1;have r2:=Ex.aV h3;have r3:=ok_eq (a+b) x;rw[h5]at r3;rw[Ex.aA]at r2 r3;simp[WX,r1,r2,r3,hall,dK,h45,hs]
   ·intro i hi;obtain⟨x,h3,_,h5⟩:=h1 i hi;have r1:=(zY.1 h3).1;have r2:=Ex.aV h3;have r3:=ok_eq (a+b) x;rw[h5]at r3;rw[Ex.aA]at r2 r3;have w2:IntKind.i64.wrap ((i:Int)+1)=i+1:=wrO;simp[WX,r1,r2,r3,w2,h45]
 have h4:p.kind≠4:=by omega
 have h5':p.kind≠5:=by omega
 simp[h6,h8,h4,h5'];obtain⟨j,h1,h2⟩:=gJ (Ex.ok (a)) p.exprs;rw[aS (WX p a b a false 0 1 false 0 1 false) j (by simp[WX,h6,h8,h5'])]
 ·rw[aF]
  rcases h2 with ⟨hj,hall⟩|⟨x,h3,_,h5,hall⟩
  ·by_cases h3':p.kind=3
   ·simp[WX,hj,hall,dK,h3']
   ·simp[WX,hj,hall,dK,h6,h8,h4,h5',h3']
  ·have r1:=(zY.1 h3).1;have r2:=Ex.aV h3;have r3:=ok_eq (a) x;rw[h5]at r3;rw[Ex.aA]at r2 r3;by_cases h3':p.kind=3
   ·simp[WX,r1,r2,r3,hall,dK,h3']
   ·simp[WX,r1,r2,r3,hall,dK,h6,h8,h4,h5',h3']
 ·intro i hi;obtain⟨x,h3,_,h5⟩:=h1 i hi;have r1:=(zY.1 h3).1;have r2:=Ex.aV h3;have r3:=ok_eq (a) x;rw[h5]at r3;rw[Ex.aA]at r2 r3;have w2:IntKind.i64.wrap ((i:Int)+1)=i+1:=wrO;simp[WX,r1,r2,r3,w2]
set_option maxHeartbeats 2000000
@[simp] theorem AcF:kF 1=0:=by decide
@[simp] theorem Ab6:fH 1=0:=by decide
@[simp] theorem AcE:kF 2=1:=by decide
@[simp] theorem Ab5:fH 2=1:=by decide
@[simp] theorem AcD:kF 3=1:=by decide
@[simp] theorem Ab4:fH 3=1:=by decide
@[simp] theorem AcC:kF 4=2:=by decide
@[simp] theorem Ab3:fH 4=1:=by decide
@[simp] theorem AcB:kF 5=2:=by decide
@[simp] theorem Ab2:fH 5=1:=by decide
@[simp] theorem AcA:kF 6=2:=by decide
@[simp] theorem Ab1:fH 6=0:=by decide
@[simp] theorem Ac9:kF 7=1:=by decide
@[simp] theorem Ab0:fH 7=0:=by decide
@[simp] theorem Ac8:kF 8=1:=by decide
@[simp] theorem AaZ:fH 8=0:=by decide
theorem AC8 {k:Int} (h:k≠1∧k≠2∧k≠3∧k≠4∧k≠5∧k≠6∧k≠7∧k≠8):kF k=-1:=by
 unfold kF;rw[if_neg (by omega),if_neg (by omega),if_neg (by omega)]
theorem AB6 {ws:List Int} {t:Int} {es:List Ex} {cs:List Int} {ks:List Pn} {lv:Nat} {k:Int} (h:k≠1∧k≠2∧k≠3∧k≠4∧k≠5∧k≠6∧k≠7∧k≠8):aG C0 48 [.i (.iref [.int k, .int t, .isl (Ex.aB es), .isl (aH cs), .isl (Pn.aB ks)]), .i (.isl (aH ws)), .int lv] []=some (.int 0,[]):=by
 rw[aD rfl Tryz.func48 rfl rfl];have c1:¬ (ks.length:Int)=-1:=by omega
 have hn:=AC8 h;simp[h.2.2.1,hn,c1]
theorem AM5 {ws:List Int} {t:Int} {es:List Ex} {cs:List Int} {ks:List Pn} {lv:Nat} (h:¬ ((ks.length:Int)=0∧(es.length:Int)=0∧True∧cs=[])):aG C0 48 [.i (.iref [.int 1, .int t, .isl (Ex.aB es), .isl (aH cs), .isl (Pn.aB ks)]), .i (.isl (aH ws)), .int lv] []=some (.int 0,[]):=by
 rw[aD rfl Tryz.func48 rfl rfl];by_cases c1:(ks.length:Int)=0
 case neg=>simp at c1;simp[c1]
 by_cases c2:(es.length:Int)=0
 case neg=>simp at c2;simp[c1,c2]
 by_cases c5:cs=[]
 case neg=>simp[c1,c2,c5]
 exact absurd (by simp[c1,c2,c5]) h
theorem AM4 {ws:List Int} {t:Int} {es:List Ex} {cs:List Int} {ks:List Pn} {lv:Nat} (h:¬ ((ks.length:Int)=1∧(es.length:Int)=1∧lv≠0∧t=0∧cs=[])):aG C0 48 [.i (.iref [.int 2, .int t, .isl (Ex.aB es), .isl (aH cs), .isl (Pn.aB ks)]), .i (.isl (aH ws)), .int lv] []=some (.int 0,[]):=by
 rw[aD rfl Tryz.func48 rfl rfl];by_cases c1:(ks.length:Int)=1
 case neg=>simp[c1]
 by_cases c2:(es.length:Int)=1
 case neg=>simp[c1,c2]
 by_cases c3:lv=0
 case pos=>subst c3;simp[c1,c2]
 have c3':¬ (lv:Int)=0:=by omega
 by_cases c4:t=0
 case neg=>simp[c1,c2,c3,c3',c4]
 by_cases c5:cs=[]
 case neg=>simp[c1,c2,c3,c3',c4,c5]
 exact absurd (by simp[c1,c2,c3,c3',c4,c5]) h
theorem AM3 {ws:List Int} {t:Int} {es:List Ex} {cs:List Int} {ks:List Pn} {lv:Nat} (h:¬ ((ks.length:Int)=1∧(es.length:Int)=(if bH es.length=true then(es.length:Int)else 1)∧lv≠0∧t=0∧cs=[])):aG C0 48 [.i (.iref [.int 3, .int t, .isl (Ex.aB es), .isl (aH cs), .isl (Pn.aB ks)]), .i (.isl (aH ws)), .int lv] []=some (.int 0,[]):=by
 rw[aD rfl Tryz.func48 rfl rfl]
 cases hv:bH es.length
 ·have hq:(es.length:Int)≠1:=fun hq=>by rw[hq]at hv;simp[bH]at hv
  by_cases c1:(ks.length:Int)=1
  case neg=>simp[hv,c1]
  simp[hv,c1,hq]
 by_cases c1:(ks.length:Int)=1
 case neg=>simp[hv,c1]
 by_cases c3:lv=0
 case pos=>subst c3;simp[hv,c1]
 have c3':¬ (lv:Int)=0:=by omega
 by_cases c4:t=0
 case neg=>simp[hv,c1,c3,c3',c4]
 by_cases c5:cs=[]
 case neg=>simp[hv,c1,c3,c3',c4,c5]
 exact absurd (by simp[hv,c1,c3,c4,c5]) h
theorem AM2 {ws:List Int} {t:Int} {es:List Ex} {cs:List Int} {ks:List Pn} {lv:Nat} (h:¬ ((ks.length:Int)=2∧(es.length:Int)=1∧lv≠0∧t=0∧cs=[])):aG C0 48 [.i (.iref [.int 4, .int t, .isl (Ex.aB es), .isl (aH cs), .isl (Pn.aB ks)]), .i (.isl (aH ws)), .int lv] []=some (.int 0,[]):=by
 rw[aD rfl Tryz.func48 rfl rfl];by_cases c1:(ks.length:Int)=2
 case neg=>simp[c1]
 by_cases c2:(es.length:Int)=1
 case neg=>simp[c1,c2]
 by_cases c3:lv=0
 case pos=>subst c3;simp[c1,c2]
 have c3':¬ (lv:Int)=0:=by omega
 by_cases c4:t=0
 case neg=>simp[c1,c2,c3,c3',c4]
 by_cases c5:cs=[]
 case neg=>simp[c1,c2,c3,c3',c4,c5]
 exact absurd (by simp[c1,c2,c3,c3',c4,c5]) h
theorem AM1 {ws:List Int} {t:Int} {es:List Ex} {cs:List Int} {ks:List Pn} {lv:Nat} (h:¬ ((ks.length:Int)=2∧(es.length:Int)=1∧lv≠0∧t=0∧cs=[])):aG C0 48 [.i (.iref [.int 5, .int t, .isl (Ex.aB es), .isl (aH cs), .isl (Pn.aB ks)]), .i (.isl (aH ws)), .int lv] []=some (.int 0,[]):=by
 rw[aD rfl Tryz.func48 rfl rfl];by_cases c1:(ks.length:Int)=2
 case neg=>simp[c1]
 by_cases c2:(es.length:Int)=1
 case neg=>simp[c1,c2]
 by_cases c3:lv=0
 case pos=>subst c3;simp[c1,c2]
 have c3':¬ (lv:Int)=0:=by omega
 by_cases c4:t=0
 case neg=>simp[c1,c2,c3,c3',c4]
 by_cases c5:cs=[]
 case neg=>simp[c1,c2,c3,c3',c4,c5]
 exact absurd (by simp[c1,c2,c3,c3',c4,c5]) h
theorem AM0 {ws:List Int} {t:Int} {es:List Ex} {cs:List Int} {ks:List Pn} {lv:Nat} (h:¬ ((ks.length:Int)=2∧(es.length:Int)=0∧lv≠0∧t=0∧cs=[])):aG C0 48 [.i (.iref [.int 6, .int t, .isl (Ex.aB es), .isl (aH cs), .isl (Pn.aB ks)]), .i (.isl (aH ws)), .int lv] []=some (.int 0,[]):=by
 rw[aD rfl Tryz.func48 rfl rfl];by_cases c1:(ks.length:Int)=2
 case neg=>simp[c1]
 by_cases c2:(es.length:Int)=0
 case neg=>simp at c2;simp[c1,c2]
 by_cases c3:lv=0
 case pos=>subst c3;simp[c1,c2]
 have c3':¬ (lv:Int)=0:=by omega
 by_cases c4:t=0
 case neg=>simp[c1,c2,c3,c3',c4]
 by_cases c5:cs=[]
 case neg=>simp[c1,c2,c3,c3',c4,c5]
 exact absurd (by simp[c1,c2,c3,c3',c4,c5]) h
theorem ALZ {ws:List Int} {t:Int} {es:List Ex} {cs:List Int} {ks:List Pn} {lv:Nat} (h:¬ ((ks.length:Int)=1∧(es.length:Int)=0∧lv≠0∧t=0∧cs=[])):aG C0 48 [.i (.iref [.int 7, .int t, .isl (Ex.aB es), .isl (aH cs), .isl (Pn.aB ks)]), .i (.isl (aH ws)), .int lv] []=some (.int 0,[]):=by
 rw[aD rfl Tryz.func48 rfl rfl];by_cases c1:(ks.length:Int)=1
 case neg=>simp[c1]
 by_cases c2:(es.length:Int)=0
 case neg=>simp at c2;simp[c1,c2]
 by_cases c3:lv=0
 case pos=>subst c3;simp[c1,c2]
 have c3':¬ (lv:Int)=0:=by omega
 by_cases c4:t=0
 case neg=>simp[c1,c2,c3,c3',c4]
 by_cases c5:cs=[]
 case neg=>simp[c1,c2,c3,c3',c4,c5]
 exact absurd (by simp[c1,c2,c3,c3',c4,c5]) h
theorem ALY {ws:List Int} {t:Int} {es:List Ex} {cs:List Int} {ks:List Pn} {lv:Nat} (h:¬ ((ks.length:Int)=1∧(es.length:Int)=0∧lv≠0∧t=0)):aG C0 48 [.i (.iref [.int 8, .int t, .isl (Ex.aB es), .isl (aH cs), .isl (Pn.aB ks)]), .i (.isl (aH ws)), .int lv] []=some (.int 0,[]):=by
 rw[aD rfl Tryz.func48 rfl rfl];by_cases c1:(ks.length:Int)=1
 case neg=>simp[c1]
 by_cases c2:(es.length:Int)=0
 case neg=>simp at c2;simp[c1,c2]
 by_cases c3:lv=0
 case pos=>subst c3;simp[c1,c2]
 have c3':¬ (lv:Int)=0:=by omega
 by_cases c4:t=0
 case neg=>simp[c1,c2,c3,c3',c4]
 exact absurd (by simp[c1,c2,c3,c3',c4]) h
theorem AGR {ws:List Int} {t:Int} {lv:Nat}:aG C0 48 [.i (.iref [.int 1, .int t, .isl (Ex.aB []), .isl (aH []), .isl (Pn.aB [])]), .i (.isl (aH ws)), .int lv] []=some (.int (if 0≤t then(ws[t.toNat]?).getD 0 else 0),[]):=by
 rw[aD rfl Tryz.func48 rfl rfl];by_cases h0:0≤t
 case neg=>simp[Ex.aB,Pn.aB,aH,h0,show t<0 by omega]
 cases hx:ws[t.toNat]? with
 | none =>
  have:=List.getElem?_eq_none_iff.1 hx;simp[Ex.aB,Pn.aB,aH,h0,show ¬ t<0 by omega,show(ws.length:Int)≤t by omega]
 | some x =>
  have r1:=(zY.1 hx).1;have r2:=dH hx;simp[Ex.aB,Pn.aB,aH,h0,show ¬ t<0 by omega,show ¬ (ws.length:Int)≤t by omega,r2,show t<ws.length by omega]
theorem AGQ {ws:List Int} {es:List Ex} {a:Pn} {lv:Nat} {va:Int} (hl:lv≠0) (hl8:lv≤8) (hd:Pn.headOk (Pn.mk 2 0 es [] [a])=true) (ha:aG C0 48 [.i (.iref a.cells), .i (.isl (aH ws)), .int (lv-1:Nat)] []=some (.int va,[])) (ra:0≤va∧va≤6):aG C0 48 [.i (.iref [.int 2, .int 0, .isl (Ex.aB es), .isl (aH []), .isl (Pn.aB [a])]), .i (.isl (aH ws)), .int lv] []=some (.int (if va=0 then 0 else dK 2 es [] va 0),[]):=by
 rw[aD rfl Tryz.func48 rfl rfl];have c3':¬ (lv:Int)=0:=by omega
 have w1:IntKind.i64.wrap ((lv:Int)-1)=(lv-1:Nat):=by rw[wrO];omega
 have r0:fO [a.cells] 0=some a.cells:=rfl;have hov:=iY (Pn.mk 2 0 es [] [a]) va 0 ra (by omega) hd;rw[Pn.aZ]at hov;simp only[Pn.gG,Pn.dL,Pn.gT,Pn.aB,aH,Ex.aB]at hov;rw[Pn.aA a]at ha hov r0
 have c2:(es.length:Int)=1:=by
  simp only[Pn.headOk,zU,zR,Pn.dL,Pn.gG]at hd;simpa using hd.2.1
 simp[c2,hl,c3',Pn.aB,aH,Ex.aB];rw[Pn.aA a];rw[aF];by_cases z1:va=0
 case pos=>simp[w1,ha,r0,z1]
 simp[w1,ha,r0,z1,bD];rw[aF];simp[hov,z1]
theorem AGP {ws:List Int} {es:List Ex} {a:Pn} {lv:Nat} {va:Int} (hl:lv≠0) (hl8:lv≤8) (hd:Pn.headOk (Pn.mk 3 0 es [] [a])=true) (ha:aG C0 48 [.i (.iref a.cells), .i (.isl (aH ws)), .int (lv-1:Nat)] []=some (.int va,[])) (ra:0≤va∧va≤6):aG C0 48 [.i (.iref [.int 3, .int 0, .isl (Ex.aB es), .isl (aH []), .isl (Pn.aB [a])]), .i (.isl (aH ws)), .int lv] []=some (.int (if va=0 then 0 else dK 3 es [] va 0),[]):=by
 rw[aD rfl Tryz.func48 rfl rfl];have c3':¬ (lv:Int)=0:=by omega
 have w1:IntKind.i64.wrap ((lv:Int)-1)=(lv-1:Nat):=by rw[wrO];omega
 have r0:fO [a.cells] 0=some a.cells:=rfl;have hov:=iY (Pn.mk 3 0 es [] [a]) va 0 ra (by omega) hd;rw[Pn.aZ]at hov;simp only[Pn.gG,Pn.dL,Pn.gT,Pn.aB,aH,Ex.aB]at hov;rw[Pn.aA a]at ha hov r0
 have hv:bH es.length=true∨(es.length:Int)=1:=by
  simp only[Pn.headOk,zU,zR,Pn.dL,Pn.gG]at hd;have:=hd.2.1;split at this
  ·rename_i h;exact .inl h.2
  ·exact .inr (by simpa using this)
 have hv:bH es.length=true:=by
  rcases hv with h|h
  ·exact h
  ·rw[h];decide
 simp[hv,hl,c3',Pn.aB,aH,Ex.aB];rw[Pn.aA a];rw[aF];by_cases z1:va=0
 case pos=>simp[w1,ha,r0,z1]
 simp[w1,ha,r0,z1,bD];rw[aF];simp[hov,z1]
theorem AGO {ws:List Int} {es:List Ex} {a b:Pn} {lv:Nat} {va vb:Int} (hl:lv≠0) (hl8:lv≤8) (hd:Pn.headOk (Pn.mk 4 0 es [] [a,b])=true) (ha:aG C0 48 [.i (.iref a.cells), .i (.isl (aH ws)), .int (lv-1:Nat)] []=some (.int va,[])) (ra:0≤va∧va≤6) (hb:aG C0 48 [.i (.iref b.cells), .i (.isl (aH ws)), .int (lv-1:Nat)] []=some (.int vb,[])) (rb:0≤vb∧vb≤6):aG C0 48 [.i (.iref [.int 4, .int 0, .isl (Ex.aB es), .isl (aH []), .isl (Pn.aB [a,b])]), .i (.isl (aH ws)), .int lv] []=some (.int (if va=0∨vb=0 then 0 else dK 4 es [] va vb),[]):=by
 rw[aD rfl Tryz.func48 rfl rfl];have c3':¬ (lv:Int)=0:=by omega
 have w1:IntKind.i64.wrap ((lv:Int)-1)=(lv-1:Nat):=by rw[wrO];omega
 have r0:fO [a.cells,b.cells] 0=some a.cells:=rfl;have r1:fO [a.cells,b.cells] 1=some b.cells:=rfl;have hov:=iY (Pn.mk 4 0 es [] [a,b]) va vb ra rb hd;rw[Pn.aZ]at hov;simp only[Pn.gG,Pn.dL,Pn.gT,Pn.aB,aH,Ex.aB]at hov;rw[Pn.aA a]at ha hov r0 r1;rw[Pn.aA b]at hb hov r0 r1
 have c2:(es.length:Int)=1:=by
  simp only[Pn.headOk,zU,zR,Pn.dL,Pn.gG]at hd;simpa using hd.2.1
 simp[c2,hl,c3',Pn.aB,aH,Ex.aB];rw[Pn.aA a,Pn.aA b];rw[aF];by_cases z1:va=0
 case pos=>simp[w1,ha,r0,z1]
 simp[w1,ha,r0,z1,bD];rw[aF];by_cases z2:vb=0
 case pos=>simp[w1,hb,r1,z2]
 simp[w1,hb,r1,z1,z2,wrap64 (x:=2) (by omega) (by omega)];rw[aF];simp[hov,z1,z2]
theorem AGN {ws:List Int} {es:List Ex} {a b:Pn} {lv:Nat} {va vb:Int} (hl:lv≠0) (hl8:lv≤8) (hd:Pn.headOk (Pn.mk 5 0 es [] [a,b])=true) (ha:aG C0 48 [.i (.iref a.cells), .i (.isl (aH ws)), .int (lv-1:Nat)] []=some (.int va,[])) (ra:0≤va∧va≤6) (hb:aG C0 48 [.i (.iref b.cells), .i (.isl (aH ws)), .int (lv-1:Nat)] []=some (.int vb,[])) (rb:0≤vb∧vb≤6):aG C0 48 [.i (.iref [.int 5, .int 0, .isl (Ex.aB es), .isl (aH []), .isl (Pn.aB [a,b])]), .i (.isl (aH ws)), .int lv] []=some (.int (if va=0∨vb=0 then 0 else dK 5 es [] va vb),[]):=by
 rw[aD rfl Tryz.func48 rfl rfl];have c3':¬ (lv:Int)=0:=by omega
 have w1:IntKind.i64.wrap ((lv:Int)-1)=(lv-1:Nat):=by rw[wrO];omega
 have r0:fO [a.cells,b.cells] 0=some a.cells:=rfl;have r1:fO [a.cells,b.cells] 1=some b.cells:=rfl;have hov:=iY (Pn.mk 5 0 es [] [a,b]) va vb ra rb hd;rw[Pn.aZ]at hov;simp only[Pn.gG,Pn.dL,Pn.gT,Pn.aB,aH,Ex.aB]at hov;rw[Pn.aA a]at ha hov r0 r1;rw[Pn.aA b]at hb hov r0 r1
 have c2:(es.length:Int)=1:=by
  simp only[Pn.headOk,zU,zR,Pn.dL,Pn.gG]at hd;simpa using hd.2.1
 simp[c2,hl,c3',Pn.aB,aH,Ex.aB];rw[Pn.aA a,Pn.aA b];rw[aF];by_cases z1:va=0
 case pos=>simp[w1,ha,r0,z1]
 simp[w1,ha,r0,z1,bD];rw[aF];by_cases z2:vb=0
 case pos=>simp[w1,hb,r1,z2]
 simp[w1,hb,r1,z1,z2,wrap64 (x:=2) (by omega) (by omega)];rw[aF];simp[hov,z1,z2]
theorem AGM {ws:List Int} {a b:Pn} {lv:Nat} {va vb:Int} (hl:lv≠0) (hl8:lv≤8) (hd:Pn.headOk (Pn.mk 6 0 [] [] [a,b])=true) (ha:aG C0 48 [.i (.iref a.cells), .i (.isl (aH ws)), .int (lv-1:Nat)] []=some (.int va,[])) (ra:0≤va∧va≤6) (hb:aG C0 48 [.i (.iref b.cells), .i (.isl (aH ws)), .int (lv-1:Nat)] []=some (.int vb,[])) (rb:0≤vb∧vb≤6):aG C0 48 [.i (.iref [.int 6, .int 0, .isl (Ex.aB []), .isl (aH []), .isl (Pn.aB [a,b])]), .i (.isl (aH ws)), .int lv] []=some (.int (if va=0∨vb=0 then 0 else dK 6 [] [] va vb),[]):=by
 rw[aD rfl Tryz.func48 rfl rfl];have c3':¬ (lv:Int)=0:=by omega
 have w1:IntKind.i64.wrap ((lv:Int)-1)=(lv-1:Nat):=by rw[wrO];omega
 have r0:fO [a.cells,b.cells] 0=some a.cells:=rfl;have r1:fO [a.cells,b.cells] 1=some b.cells:=rfl;have hov:=iY (Pn.mk 6 0 [] [] [a,b]) va vb ra rb hd;rw[Pn.aZ]at hov;simp only[Pn.gG,Pn.dL,Pn.gT,Pn.aB,aH,Ex.aB]at hov;rw[Pn.aA a]at ha hov r0 r1;rw[Pn.aA b]at hb hov r0 r1;simp[hl,c3',Pn.aB,aH,Ex.aB];rw[Pn.aA a,Pn.aA b];rw[aF];by_cases z1:va=0
 case pos=>simp[w1,ha,r0,z1]
 simp[w1,ha,r0,z1,bD];rw[aF];by_cases z2:vb=0
 case pos=>simp[w1,hb,r1,z2]
 simp[w1,hb,r1,z1,z2,wrap64 (x:=2) (by omega) (by omega)];rw[aF];simp[hov,z1,z2]
theorem AGL {ws:List Int} {a:Pn} {lv:Nat} {va:Int} (hl:lv≠0) (hl8:lv≤8) (hd:Pn.headOk (Pn.mk 7 0 [] [] [a])=true) (ha:aG C0 48 [.i (.iref a.cells), .i (.isl (aH ws)), .int (lv-1:Nat)] []=some (.int va,[])) (ra:0≤va∧va≤6):aG C0 48 [.i (.iref [.int 7, .int 0, .isl (Ex.aB []), .isl (aH []), .isl (Pn.aB [a])]), .i (.isl (aH ws)), .int lv] []=some (.int (if va=0 then 0 else dK 7 [] [] va 0),[]):=by
 rw[aD rfl Tryz.func48 rfl rfl];have c3':¬ (lv:Int)=0:=by omega
 have w1:IntKind.i64.wrap ((lv:Int)-1)=(lv-1:Nat):=by rw[wrO];omega
 have r0:fO [a.cells] 0=some a.cells:=rfl;have hov:=iY (Pn.mk 7 0 [] [] [a]) va 0 ra (by omega) hd;rw[Pn.aZ]at hov;simp only[Pn.gG,Pn.dL,Pn.gT,Pn.aB,aH,Ex.aB]at hov;rw[Pn.aA a]at ha hov r0;simp[hl,c3',Pn.aB,aH,Ex.aB];rw[Pn.aA a];rw[aF];by_cases z1:va=0
 case pos=>simp[w1,ha,r0,z1]
 simp[w1,ha,r0,z1,bD];rw[aF];simp[hov,z1]
theorem AGK {ws:List Int} {cs:List Int} {a:Pn} {lv:Nat} {va:Int} (hl:lv≠0) (hl8:lv≤8) (hd:Pn.headOk (Pn.mk 8 0 [] cs [a])=true) (ha:aG C0 48 [.i (.iref a.cells), .i (.isl (aH ws)), .int (lv-1:Nat)] []=some (.int va,[])) (ra:0≤va∧va≤6):aG C0 48 [.i (.iref [.int 8, .int 0, .isl (Ex.aB []), .isl (aH cs), .isl (Pn.aB [a])]), .i (.isl (aH ws)), .int lv] []=some (.int (if va=0 then 0 else dK 8 [] cs va 0),[]):=by
 rw[aD rfl Tryz.func48 rfl rfl];have c3':¬ (lv:Int)=0:=by omega
 have w1:IntKind.i64.wrap ((lv:Int)-1)=(lv-1:Nat):=by rw[wrO];omega
 have r0:fO [a.cells] 0=some a.cells:=rfl;have hov:=iY (Pn.mk 8 0 [] cs [a]) va 0 ra (by omega) hd;rw[Pn.aZ]at hov;simp only[Pn.gG,Pn.dL,Pn.gT,Pn.aB,aH,Ex.aB]at hov;rw[Pn.aA a]at ha hov r0;simp[hl,c3',Pn.aB,aH,Ex.aB];rw[Pn.aA a];rw[aF];by_cases z1:va=0
 case pos=>simp[w1,ha,r0,z1]
 simp[w1,ha,r0,z1,bD];rw[aF];simp[hov,z1]
theorem oF (k t:Int) (es:List Ex) (cs:List Int) (ks:List Pn):Pn.headOk (.mk k t es cs ks)=true↔((ks.length:Int)=kF k∧(es.length:Int)=(if k=3∧bH es.length=true then(es.length:Int)else fH k)∧(k=1∨t=0)∧(k=8∨cs=[])):=by
 unfold Pn.headOk;simp only[zU,zA3,zR];exact Iff.rfl
theorem nH {α:Type} {l:List α} (h:(l.length:Int)=1):∃ a,l=[a]:=zF6.1 (by omega)
theorem FD {α:Type} {l:List α} (h:(l.length:Int)=2):∃ a b,l=[a,b]:=by
 match l,h with
 | [a,b],_=>exact⟨a,b,rfl⟩
 | [],h=>simp at h
 | [_],h=>simp at h
 | _::_::_::_,h=>simp at h;omega
theorem iW {α:Type} {l:List α} (h:(l.length:Int)=0):l=[]:=zW.1 (by omega)
theorem CS {ws:List Int} (hw:∀ w∈ws,0≤w∧w≤6):∀ (p:Pn) (lv:Nat),lv≤8→aG C0 48 [.i (.iref p.cells), .i (.isl (aH ws)), .int lv] []=some (.int (p.wd ws lv),[]):=by
 intro p
 induction p using Pn.ind with
 | h k t es cs ks ih =>
  intro lv hlv;rw[Pn.aZ];by_cases hh:Pn.headOk (.mk k t es cs ks)=true∧(ks=[]∨lv≠0)
  case neg =>
   rw[Pn.ADS hh];rw[oF]at hh
   rcases uZ k with rfl|rfl|rfl|rfl|rfl|rfl|rfl|rfl|h
   ·refine AM5 fun h=>hh ?_
    have:=iW h.1;simp[h.2.1,h.2.2.2,this]
   ·exact AM4 fun h=>hh (by simp[h.1,h.2.1,h.2.2.1,h.2.2.2.1,h.2.2.2.2])
   ·exact AM3 fun h=>hh (by refine⟨⟨by simp[h.1],by simpa using h.2.1,by simp[h.2.2.2.1],by simp[h.2.2.2.2]⟩, .inr h.2.2.1⟩)
   ·exact AM2 fun h=>hh (by simp[h.1,h.2.1,h.2.2.1,h.2.2.2.1,h.2.2.2.2])
   ·exact AM1 fun h=>hh (by simp[h.1,h.2.1,h.2.2.1,h.2.2.2.1,h.2.2.2.2])
   ·exact AM0 fun h=>hh (by simp[h.1,iW h.2.1,h.2.2.1,h.2.2.2.1,h.2.2.2.2])
   ·exact ALZ fun h=>hh (by simp[h.1,iW h.2.1,h.2.2.1,h.2.2.2.1,h.2.2.2.2])
   ·exact ALY fun h=>hh (by simp[h.1,iW h.2.1,h.2.2.1,h.2.2.2])
   ·exact AB6 h
  have hd:=hh.1;have hx:=Pn.uJ ws lv (.mk k t es cs ks);rw[if_pos (by simpa using hh)]at hx;simp only[Pn.gG,Pn.kP,Pn.dL,Pn.gT,Pn.fK]at hx;rw[hx];rw[oF]at hh;obtain⟨⟨h1,h2,h3,h4⟩,h5⟩:=hh;have hr:=fun a=>Pn.mH hw a (lv-1)
  rcases uZ k with rfl|rfl|rfl|rfl|rfl|rfl|rfl|rfl|h
  ·obtain rfl:=iW (by simpa using h1);obtain rfl:es=[]:=iW (by simpa using h2);obtain rfl:cs=[]:=by simpa using h4
   exact AGR
  ·obtain⟨a,rfl⟩:=nH (by simpa using h1);obtain rfl:cs=[]:=by simpa using h4
   obtain rfl:t=0:=by simpa using h3
   have hl:lv≠0:=by simpa using h5
   rw[AGQ hl hlv hd (ih a (by simp) (lv-1) (by omega)) (hr a)];by_cases z:a.wd ws (lv-1)=0<;>simp[z]
  ·obtain⟨a,rfl⟩:=nH (by simpa using h1);obtain rfl:cs=[]:=by simpa using h4
   obtain rfl:t=0:=by simpa using h3
   have hl:lv≠0:=by simpa using h5
   rw[AGP hl hlv hd (ih a (by simp) (lv-1) (by omega)) (hr a)];by_cases z:a.wd ws (lv-1)=0<;>simp[z]
  ·obtain⟨a,b,rfl⟩:=FD (by simpa using h1);obtain rfl:cs=[]:=by simpa using h4
   obtain rfl:t=0:=by simpa using h3
   have hl:lv≠0:=by simpa using h5
   rw[AGO hl hlv hd (ih a (by simp) (lv-1) (by omega)) (hr a) (ih b (by simp) (lv-1) (by omega)) (hr b)];by_cases z:a.wd ws (lv-1)=0<;>by_cases z2:b.wd ws (lv-1)=0<;>simp[z,z2]
  ·obtain⟨a,b,rfl⟩:=FD (by simpa using h1);obtain rfl:cs=[]:=by simpa using h4
   obtain rfl:t=0:=by simpa using h3
   have hl:lv≠0:=by simpa using h5
   rw[AGN hl hlv hd (ih a (by simp) (lv-1) (by omega)) (hr a) (ih b (by simp) (lv-1) (by omega)) (hr b)];by_cases z:a.wd ws (lv-1)=0<;>by_cases z2:b.wd ws (lv-1)=0<;>simp[z,z2]
  ·obtain⟨a,b,rfl⟩:=FD (by simpa using h1);obtain rfl:es=[]:=iW (by simpa using h2);obtain rfl:cs=[]:=by simpa using h4
   obtain rfl:t=0:=by simpa using h3
   have hl:lv≠0:=by simpa using h5
   rw[AGM hl hlv hd (ih a (by simp) (lv-1) (by omega)) (hr a) (ih b (by simp) (lv-1) (by omega)) (hr b)];by_cases z:a.wd ws (lv-1)=0<;>by_cases z2:b.wd ws (lv-1)=0<;>simp[z,z2]
  ·obtain⟨a,rfl⟩:=nH (by simpa using h1);obtain rfl:es=[]:=iW (by simpa using h2);obtain rfl:cs=[]:=by simpa using h4
   obtain rfl:t=0:=by simpa using h3
   have hl:lv≠0:=by simpa using h5
   rw[AGL hl hlv hd (ih a (by simp) (lv-1) (by omega)) (hr a)];by_cases z:a.wd ws (lv-1)=0<;>simp[z]
  ·obtain⟨a,rfl⟩:=nH (by simpa using h1);obtain rfl:es=[]:=iW (by simpa using h2);obtain rfl:t=0:=by simpa using h3
   have hl:lv≠0:=by simpa using h5
   rw[AGK hl hlv hd (ih a (by simp) (lv-1) (by omega)) (hr a)];by_cases z:a.wd ws (lv-1)=0<;>simp[z]
  ·exact absurd h1 (by rw[AC8 h];omega)
def VX (ws:List Int) (i:Nat):AS :=
 { env:=[(0, .i (.isl (aH ws))),(2, .bool false),(4,jk i (.int (ws[i-1]?.getD 0))),(12, .bool false),(13, .i (.isl (aH ws))),(14, .int ws.length),(15, .int i),(16,jk i (.bool true)),(21,jk i (.bool false))],st:=[] }
theorem NI (ws:List Int):aG C0 47 [.i (.isl (aH ws))] []=some (.bool (pO ws),[]):=by
 rw[aD rfl Tryz.func47 rfl rfl];by_cases h1:ws.length=0
 ·have:=zW.1 h1;subst this;simp[aH,pO]
 by_cases h4:ws.length≤4
 case neg=>simp[pO,h4,show ¬ (ws.length:Int)<1 by omega,show 4<(ws.length:Int)by omega]
 simp[show ¬ (ws.length:Int)<1 by omega,show ¬ 4<(ws.length:Int)by omega];obtain⟨j,h1',h2⟩:=gJ bH ws;rw[aS (VX ws) j (by simp[VX])]
 ·rw[aF]
  rcases h2 with ⟨hj,ha⟩|⟨x,h3,_,h5,ha⟩
  ·simp[VX,hj,pO,h4,ha,show 1≤ws.length by omega]
  ·have r1:=(zY.1 h3).1;have r2:=dH h3;simp[VX,r1,r2,h5,pO,ha]
 ·intro i hi;obtain⟨x,h3,_,h5⟩:=h1' i hi;have r1:=(zY.1 h3).1;have r2:=dH h3;have w2:IntKind.i64.wrap ((i:Int)+1)=i+1:=wrO;have h3':ws[i]=x:=(zY.1 h3).2;simp[VX,r1,r2,h5,w2,h3']
theorem rM {ws:List Int} (h:pO ws=true):∀ w∈ws,0≤w∧w≤6:=by
 intro w hw;simp only[pO,zU]at h;have:=zS.1 h.2 w hw;simp[bH]at this;omega
theorem mV (p:Pn) (ws:List Int):aG C0 26 [.i (.agg p.cells), .i (.isl (aH ws))] []=some (.int (p.width ws),[]):=by
 rw[aD rfl Tryz.func26 rfl rfl];have hv:=NI ws
 cases h:pO ws with
 | false=>rw[h]at hv;rw[Pn.aA];simp[hv,Pn.width,h]
 | true =>
  rw[h]at hv;have hb:=CS (rM h) p 8 (by omega);rw[show((8:Nat):Int)=8 from rfl]at hb;rw[Pn.aA]at hb ⊢;simp[hv,Pn.width,h,hb]
def only (k t:Int) (es:List Ex) (cs:List Int) (ks:List Pn):Bool:=decide (1≤k∧k≤8) && (decide ((ks.length:Int)=kF k) && (decide ((es.length:Int)=if k=3 then(es.length:Int)else fH k) && ((decide (t=0) || decide (k=1)) && (decide (cs=[]) || decide (k=8)))))
theorem fT (k t:Int) (es:List Ex) (cs:List Int) (ks:List Pn):aG C0 96 [.i (.agg [.int k, .int t, .isl (Ex.aB es), .isl (aH cs), .isl (Pn.aB ks)])] []=some (.bool (only k t es cs ks),[]):=by
 rw[aD rfl Tryz.func96 rfl rfl]
 rcases uZ k with rfl|rfl|rfl|rfl|rfl|rfl|rfl|rfl|h
 case inr.inr.inr.inr.inr.inr.inr.inr =>
  have h1:¬ (1≤k∧k≤8):=by omega
  simp[h.1,h.2.1,h.2.2.1,h.2.2.2.1,h.2.2.2.2.1,h.2.2.2.2.2.1,h1,only]
 case inr.inr.inl =>
  by_cases c1:(ks.length:Int)=1
  case neg=>simp[c1,only]
  by_cases c3:t=0
  case neg=>simp[c1,c3,only]
  by_cases c5:cs=[]<;>simp[c1,c3,c5,only,aH]
 case inl =>
  by_cases c1:ks=[]
  case neg=>simp[c1,only]
  by_cases c2:es=[]
  case neg=>simp[c1,c2,only]
  by_cases c3:t=0<;>by_cases c5:cs=[]<;>simp[c1,c2,c3,c5,only,aH,Ex.aB,Pn.aB]
 case inr.inl =>
  by_cases c1:(ks.length:Int)=1
  case neg=>simp[c1,only]
  by_cases c2:(es.length:Int)=1
  case neg=>simp[c1,c2,only]
  by_cases c3:t=0
  case neg=>simp[c1,c2,c3,only]
  by_cases c5:cs=[]<;>simp[c1,c2,c3,c5,only,aH]
 case inr.inr.inr.inl =>
  by_cases c1:(ks.length:Int)=2
  case neg=>simp[c1,only]
  by_cases c2:(es.length:Int)=1
  case neg=>simp[c1,c2,only]
  by_cases c3:t=0
  case neg=>simp[c1,c2,c3,only]
  by_cases c5:cs=[]<;>simp[c1,c2,c3,c5,only,aH]
 case inr.inr.inr.inr.inl =>
  by_cases c1:(ks.length:Int)=2
  case neg=>simp[c1,only]
  by_cases c2:(es.length:Int)=1
  case neg=>simp[c1,c2,only]
  by_cases c3:t=0
  case neg=>simp[c1,c2,c3,only]
  by_cases c5:cs=[]<;>simp[c1,c2,c3,c5,only,aH]
 case inr.inr.inr.inr.inr.inl =>
  by_cases c1:(ks.length:Int)=2
  case neg=>simp[c1,only]
  by_cases c2:es=[]
  case neg=>simp[c1,c2,only]
  by_cases c3:t=0
  case neg=>simp[c1,c2,c3,only]
  by_cases c5:cs=[]<;>simp[c1,c2,c3,c5,only,aH,Ex.aB]
 case inr.inr.inr.inr.inr.inr.inl =>
  by_cases c1:(ks.length:Int)=1
  case neg=>simp[c1,only]
  by_cases c2:es=[]
  case neg=>simp[c1,c2,only]
  by_cases c3:t=0
  case neg=>simp[c1,c2,c3,only]
  by_cases c5:cs=[]<;>simp[c1,c2,c3,c5,only,aH,Ex.aB]
 case inr.inr.inr.inr.inr.inr.inr.inl =>
  by_cases c1:(ks.length:Int)=1
  case neg=>simp[c1,only]
  by_cases c2:es=[]
  case neg=>simp[c1,c2,only]
  by_cases c3:t=0
  case neg=>simp[c1,c2,c3,only]
  by_cases c5:cs=[]<;>simp[c1,c2,c3,c5,only,aH,Ex.aB]
theorem ATT {cs:List Int} {w:Int}:∀ {i:Nat},(∀ k,k<i→∃ x,(cs.zip (-1::cs))[k]?=some x∧x∈cs.zip (-1::cs)∧decide (x.2<x.1∧x.1<w)=true)→-1≤pv cs i∧(i≠0→0≤pv cs i)
 | 0,_=>by simp[pv]
 | i+1,h=>by
  obtain⟨x,h3,_,h4⟩:=h i (by omega);obtain⟨c1,c2⟩:=EH h3;rw[AIZ c1];have hb:x.2<x.1∧x.1<w:=by simpa using h4
  have:=ATT (i:=i) fun k hk=>h k (by omega)
  omega
def CX (cs:List Int) (w:Int) (i:Nat):AS :=
 { env:=[(0, .i (.isl (aH cs))),(1, .int w),(4, .bool false),(5, .int i),(9,jk i (.bool true)),(35,jk i (.bool false))],st:=[] }
theorem UE (cs:List Int) (w:Int) (hl:cs.length<9223372036854775808) (hw:0≤w∧w≤6):aG C0 99 [.i (.isl (aH cs)), .int w] []=some (.bool (rT w cs),[]):=by
 rw[aD rfl Tryz.func99 rfl rfl];have w1:IntKind.i64.wrap (w-1)=w-1:=wrO;simp;obtain⟨j,h1,h2⟩:=gJ (fun x:Int×Int=>decide (x.2<x.1∧x.1<w)) (cs.zip (-1::cs));rw[aS (CX cs w) j (by simp[CX])]
 ·rw[aF]
  rcases h2 with ⟨hj,ha⟩|⟨x,h3,_,h4,ha⟩
  ·rw[AD6]at hj;have ha:rT w cs=true:=ha;simp[CX,hj,ha]
  ·obtain⟨c1,c2⟩:=EH h3;have r1:=(zY.1 c1).1;have r2:=dH c1;have hb:¬ (x.2<x.1∧x.1<w):=by simpa using h4
   have ha:rT w cs=false:=ha;have hp:=ATT (i:=j) h1;by_cases hin:0≤x.1∧x.1≤w-1
   ·have hj:j≠0:=fun h=>by subst h;simp[pv]at c2;omega
    obtain⟨j,rfl⟩:∃ i,j=i+1:=⟨j-1,by omega⟩
    have q1:cs[j]?=some x.2:=by
     have:pv cs (j+1)=x.2:=c2;simp only[pv,zC7]at this;rw[zX (by omega)]at this ⊢;simpa using this
    have q2:=dH q1;have w4:IntKind.i64.wrap ((j:Int)+1-1)=j:=by rw[wrO];omega
    have w5:IntKind.i64.wrap ((j:Int))=j:=by rw[wrO]
    simp[CX,r1,r2,w1,hin,ha,q2,w4,w5,show(0:Int)<j+1 by omega,show x.1≤x.2 by omega,show(0:Int)≤(j:Int)+1 by omega,show j<cs.length by omega,show((j:Int)+1<cs.length)by omega]
   ·simp[CX,r1,r2,w1,hin,ha]
 ·intro i hi;obtain⟨x,h3,_,h4⟩:=h1 i hi;obtain⟨c1,c2⟩:=EH h3;have r1:=(zY.1 c1).1;have r2:=dH c1;have hb:x.2<x.1∧x.1<w:=by simpa using h4
  have hp:=ATT (i:=i) fun k hk=>h1 k (by omega)
  have hin:0≤x.1∧x.1≤w-1:=by omega
  have w2:IntKind.i64.wrap ((i:Int)+1)=i+1:=wrO;by_cases h0:i=0
  ·subst h0;simp[CX,r1,r2,w1,hin,bD]
  ·obtain⟨i,rfl⟩:∃ j,i=j+1:=⟨i-1,by omega⟩
   have q1:cs[i]?=some x.2:=by
    have:pv cs (i+1)=x.2:=c2;simp only[pv,zC7]at this;rw[zX (by omega)]at this ⊢;simpa using this
   have q2:=dH q1;have w5:IntKind.i64.wrap ((i:Int))=i:=by rw[wrO]
   have w2':IntKind.i64.wrap ((i:Int)+1+1)=i+1+1:=wrO;simp[CX,r1,r2,w1,hin,q2,w5,w2',show(0:Int)<i+1 by omega,show ¬ x.1≤x.2 by omega,show(0:Int)≤(i:Int)+1 by omega,show i<cs.length by omega,show((i:Int)+1<cs.length)by omega]
def pW (es:List Ex) (w:Int):Int:=if es.all (Ex.ok w)=true∧es.length≤6 then(es.length:Int)else 0
def QX (es:List Ex) (w:Int) (i:Nat):AS :=
 { env:=[(0, .i (.isl (Ex.aB es))),(1, .int w),(4, .int 0),(5, .int i),(9,jk i (.bool true)),(18,jk i (.bool false)),(21, .junk)],st:=[] }
theorem KJ (es:List Ex) (w:Int) (hl:es.length<9223372036854775808):aG C0 98 [.i (.isl (Ex.aB es)), .int w] []=some (.int (pW es w),[]):=by
 rw[aD rfl Tryz.func98 rfl rfl];simp;obtain⟨j,h1,h2⟩:=gJ (Ex.ok w) es;rw[aS (QX es w) j (by simp[QX])]
 ·rw[aF]
  rcases h2 with ⟨hj,hall⟩|⟨x,h3,_,h5,hall⟩
  ·by_cases h6:es.length≤6
   ·have hq:pW es w=es.length:=if_pos ⟨hall,h6⟩;simp[QX,hj,hq,show ¬ (6:Int)<es.length by omega]
   ·have hq:pW es w=0:=if_neg fun h=>h6 h.2
    simp[QX,hj,hq,show(6:Int)<es.length by omega]
  ·have r1:=(zY.1 h3).1;have r2:=Ex.aV h3;have r3:=UY w x;rw[h5]at r3;rw[Ex.aA]at r2 r3;have hq:pW es w=0:=if_neg fun h=>by rw[hall]at h;simp at h
   simp[QX,r1,r2,r3,hq]
 ·intro i hi;obtain⟨x,h3,_,h5⟩:=h1 i hi;have r1:=(zY.1 h3).1;have r2:=Ex.aV h3;have r3:=UY w x;rw[h5]at r3;rw[Ex.aA]at r2 r3;have w2:IntKind.i64.wrap ((i:Int)+1)=i+1:=wrO;simp[QX,r1,r2,r3,w2]
def UX (ws:List Int) (i:Nat):AS :=
 { env:=[(0, .i (.isl (aH ws))),(2, .bool false),(3, .int i),(7,jk i (.bool true)),(15,jk i (.bool false))],st:=[] }
theorem JP (ws:List Int) (hl:ws.length<9223372036854775808):aG C0 44 [.i (.isl (aH ws))] []=some (.bool (pO ws),[]):=by
 rw[aD rfl Tryz.func44 rfl rfl];simp;obtain⟨j,h1',h2⟩:=gJ bH ws;rw[aS (UX ws) j (by simp[UX])]
 ·rw[aF]
  rcases h2 with ⟨hj,ha⟩|⟨x,h3,_,h5,ha⟩
  ·by_cases h4:1≤ws.length∧ws.length≤4
   ·simp[UX,hj,pO,h4,ha,show(1:Int)≤ws.length∧(ws.length:Int)≤4 by omega]
   ·simp[UX,hj,pO,h4,ha,show ¬ ((1:Int)≤ws.length∧(ws.length:Int)≤4)by omega]
  ·have r1:=(zY.1 h3).1;have r2:=dH h3;have h5:¬ (1≤x∧x≤6):=by simpa [bH]using h5
   simp[UX,r1,r2,h5,pO,ha]
 ·intro i hi;obtain⟨x,h3,_,h5⟩:=h1' i hi;have r1:=(zY.1 h3).1;have r2:=dH h3;have h5:1≤x∧x≤6:=by simpa [bH]using h5
  have w2:IntKind.i64.wrap ((i:Int)+1)=i+1:=wrO;simp[UX,r1,r2,h5,w2]
theorem ANP {ws:List Int} {k t:Int} {es:List Ex} {cs:List Int} {ks:List Pn} {lv:Nat} (h:¬ (only k t es cs ks=true∧(ks=[]∨lv≠0))):aG C0 45 [.i (.agg [.int k, .int t, .isl (Ex.aB es), .isl (aH cs), .isl (Pn.aB ks)]), .i (.isl (aH ws)), .int lv] []=some (.int 0,[]):=by
 rw[aD rfl Tryz.func45 rfl rfl];have ho:=fT k t es cs ks
 cases hq:only k t es cs ks with
 | false=>rw[hq]at ho;simp[ho]
 | true =>
  rw[hq]at ho;by_cases hk:ks=[]
  ·exact absurd ⟨hq, .inl hk⟩ h
  by_cases hl:lv=0
  ·have:0<ks.length:=xY.2 hk;subst hl;simp[ho,hk,this]
  ·exact absurd ⟨hq, .inr hl⟩ h
theorem AEJ {ws:List Int} {lv:Nat} {t:Int} (ho:only 1 t [] [] []=true) (hw:ws.length<1000000000):aG C0 45 [.i (.agg [.int 1, .int t, .isl (Ex.aB []), .isl (aH []), .isl (Pn.aB [])]), .i (.isl (aH ws)), .int lv] []=some (.int (if 0≤t then(ws[t.toNat]?).getD 0 else 0),[]):=by
 rw[aD rfl Tryz.func45 rfl rfl];have hf:=fT 1 t [] [] [];rw[ho]at hf;have w1:IntKind.i64.wrap ((ws.length:Int)-1)=ws.length-1:=wrO;simp only[Ex.aB,Pn.aB,aH]at hf ⊢;simp[hf,w1];rw[aF];by_cases h0:0≤t
 case neg=>simp[h0,w1]
 cases hx:ws[t.toNat]? with
 | none =>
  have:=List.getElem?_eq_none_iff.1 hx;simp[h0,w1,show ¬ t≤ws.length-1 by omega]
 | some x =>
  have r1:=(zY.1 hx).1;have r2:=dH hx;simp[h0,w1,show t≤ws.length-1 by omega,show t<ws.length by omega,r2]
theorem AEI {ws:List Int} {lv:Nat} {a:Pn} {va:Int} {e:Ex} (ho:only 2 0 [e] [] [a]=true) (hl:lv≠0) (hl8:lv≤8) (ha:aG C0 45 [.i (.agg a.cells), .i (.isl (aH ws)), .int (lv-1:Nat)] []=some (.int va,[])) (ra:0≤va∧va≤6):aG C0 45 [.i (.agg [.int 2, .int 0, .isl (Ex.aB [e]), .isl (aH []), .isl (Pn.aB [a])]), .i (.isl (aH ws)), .int lv] []=some (.int (if va=0 then 0 else if e.ok va=true then va else 0),[]):=by
 rw[aD rfl Tryz.func45 rfl rfl];have hf:=fT 2 0 [e] [] [a];rw[ho]at hf;have c3':¬ (lv:Int)=0:=by omega
 have w1:IntKind.i64.wrap ((lv:Int)-1)=(lv-1:Nat):=by rw[wrO];omega
 have w2:IntKind.i64.wrap (1:Int)=1:=bD;have w3:IntKind.i64.wrap (2:Int)=2:=wrO;have r0:fO [a.cells] 0=some a.cells:=rfl;simp only[Pn.aB,aH,Ex.aB]at hf ⊢;have q0:fO [e.cells] 0=some e.cells:=rfl;have qe:=UY (va) e;rw[Ex.aA e]at q0 qe hf ⊢;rw[Pn.aA a]at ha r0 hf ⊢;simp[hf,hl,c3'];rw[aF];by_cases z1:va=0
 case pos=>simp[w1,ha,r0,z1]
 simp[w1,w2,ha,r0,z1];rw[aF]
 cases hv:e.ok va<;>rw[hv]at qe<;>simp[z1,q0,qe]
theorem OX {ws:List Int} {lv:Nat} {a:Pn} {va:Int} {es:List Ex} (ho:only 3 0 es [] [a]=true) (hl:lv≠0) (hl8:lv≤8) (ha:aG C0 45 [.i (.agg a.cells), .i (.isl (aH ws)), .int (lv-1:Nat)] []=some (.int va,[])) (ra:0≤va∧va≤6) (he:es.length<9223372036854775808):aG C0 45 [.i (.agg [.int 3, .int 0, .isl (Ex.aB es), .isl (aH []), .isl (Pn.aB [a])]), .i (.isl (aH ws)), .int lv] []=some (.int (if va=0 then 0 else pW es va),[]):=by
 rw[aD rfl Tryz.func45 rfl rfl];have hf:=fT 3 0 es [] [a];rw[ho]at hf;have c3':¬ (lv:Int)=0:=by omega
 have w1:IntKind.i64.wrap ((lv:Int)-1)=(lv-1:Nat):=by rw[wrO];omega
 have w2:IntKind.i64.wrap (1:Int)=1:=bD;have w3:IntKind.i64.wrap (2:Int)=2:=wrO;have r0:fO [a.cells] 0=some a.cells:=rfl;simp only[Pn.aB,aH,Ex.aB]at hf ⊢;rw[Pn.aA a]at ha r0 hf ⊢;simp[hf,hl,c3'];rw[aF];by_cases z1:va=0
 case pos=>simp[w1,ha,r0,z1]
 simp[w1,w2,ha,r0,z1];rw[aF];have hp:=KJ es va he;simp[z1,hp]
theorem AEH {ws:List Int} {lv:Nat} {a:Pn} {va:Int} {b:Pn} {vb:Int} {e:Ex} (ho:only 4 0 [e] [] [a,b]=true) (hl:lv≠0) (hl8:lv≤8) (ha:aG C0 45 [.i (.agg a.cells), .i (.isl (aH ws)), .int (lv-1:Nat)] []=some (.int va,[])) (ra:0≤va∧va≤6) (hb:aG C0 45 [.i (.agg b.cells), .i (.isl (aH ws)), .int (lv-1:Nat)] []=some (.int vb,[])) (rb:0≤vb∧vb≤6):aG C0 45 [.i (.agg [.int 4, .int 0, .isl (Ex.aB [e]), .isl (aH []), .isl (Pn.aB [a,b])]), .i (.isl (aH ws)), .int lv] []=some (.int (if va=0∨vb=0 then 0 else if va+vb≤6∧e.ok (va+vb)=true then va+vb else 0),[]):=by
 rw[aD rfl Tryz.func45 rfl rfl];have hf:=fT 4 0 [e] [] [a,b];rw[ho]at hf;have c3':¬ (lv:Int)=0:=by omega
 have w1:IntKind.i64.wrap ((lv:Int)-1)=(lv-1:Nat):=by rw[wrO];omega
 have w2:IntKind.i64.wrap (1:Int)=1:=bD;have w3:IntKind.i64.wrap (2:Int)=2:=wrO;have r0:fO [a.cells,b.cells] 0=some a.cells:=rfl;have r1:fO [a.cells,b.cells] 1=some b.cells:=rfl;simp only[Pn.aB,aH,Ex.aB]at hf ⊢;have q0:fO [e.cells] 0=some e.cells:=rfl;have qe:=UY (va+vb) e;rw[Ex.aA e]at q0 qe hf ⊢;rw[Pn.aA a]at ha r0 hf ⊢;rw[Pn.aA a]at r1;rw[Pn.aA b]at hb r0 r1 hf ⊢;simp[hf,hl,c3'];rw[aF];by_cases z1:va=0
 case pos=>simp[w1,ha,r0,z1]
 simp[w1,w2,ha,r0,z1];rw[aF];by_cases z2:vb=0
 case pos=>simp[w1,hb,r1,z2]
 simp[w1,hb,r1,z1,z2,w2,w3];rw[aF];have w4:IntKind.i64.wrap (va+vb)=va+vb:=wrO;by_cases h6:va+vb≤6
 ·cases hv:e.ok (va+vb)<;>rw[hv]at qe<;>simp[z1,z2,q0,qe,w4,h6]
 ·simp[z1,z2,w4,h6]
theorem AEG {ws:List Int} {lv:Nat} {a:Pn} {va:Int} {b:Pn} {vb:Int} {e:Ex} (ho:only 5 0 [e] [] [a,b]=true) (hl:lv≠0) (hl8:lv≤8) (ha:aG C0 45 [.i (.agg a.cells), .i (.isl (aH ws)), .int (lv-1:Nat)] []=some (.int va,[])) (ra:0≤va∧va≤6) (hb:aG C0 45 [.i (.agg b.cells), .i (.isl (aH ws)), .int (lv-1:Nat)] []=some (.int vb,[])) (rb:0≤vb∧vb≤6):aG C0 45 [.i (.agg [.int 5, .int 0, .isl (Ex.aB [e]), .isl (aH []), .isl (Pn.aB [a,b])]), .i (.isl (aH ws)), .int lv] []=some (.int (if va=0∨vb=0 then 0 else if va+vb≤6∧e.ok (va+vb)=true then va+vb else 0),[]):=by
 rw[aD rfl Tryz.func45 rfl rfl];have hf:=fT 5 0 [e] [] [a,b];rw[ho]at hf;have c3':¬ (lv:Int)=0:=by omega
 have w1:IntKind.i64.wrap ((lv:Int)-1)=(lv-1:Nat):=by rw[wrO];omega
 have w2:IntKind.i64.wrap (1:Int)=1:=bD;have w3:IntKind.i64.wrap (2:Int)=2:=wrO;have r0:fO [a.cells,b.cells] 0=some a.cells:=rfl;have r1:fO [a.cells,b.cells] 1=some b.cells:=rfl;simp only[Pn.aB,aH,Ex.aB]at hf ⊢;have q0:fO [e.cells] 0=some e.cells:=rfl;have qe:=UY (va+vb) e;rw[Ex.aA e]at q0 qe hf ⊢;rw[Pn.aA a]at ha r0 hf ⊢;rw[Pn.aA a]at r1;rw[Pn.aA b]at hb r0 r1 hf ⊢;simp[hf,hl,c3'];rw[aF];by_cases z1:va=0
 case pos=>simp[w1,ha,r0,z1]
 simp[w1,w2,ha,r0,z1];rw[aF];by_cases z2:vb=0
 case pos=>simp[w1,hb,r1,z2]
 simp[w1,hb,r1,z1,z2,w2,w3];rw[aF];have w4:IntKind.i64.wrap (va+vb)=va+vb:=wrO;by_cases h6:va+vb≤6
 ·cases hv:e.ok (va+vb)<;>rw[hv]at qe<;>simp[z1,z2,q0,qe,w4,h6]
 ·simp[z1,z2,w4,h6]
theorem AEF {ws:List Int} {lv:Nat} {a:Pn} {va:Int} {b:Pn} {vb:Int} (ho:only 6 0 [] [] [a,b]=true) (hl:lv≠0) (hl8:lv≤8) (ha:aG C0 45 [.i (.agg a.cells), .i (.isl (aH ws)), .int (lv-1:Nat)] []=some (.int va,[])) (ra:0≤va∧va≤6) (hb:aG C0 45 [.i (.agg b.cells), .i (.isl (aH ws)), .int (lv-1:Nat)] []=some (.int vb,[])) (rb:0≤vb∧vb≤6):aG C0 45 [.i (.agg [.int 6, .int 0, .isl (Ex.aB []), .isl (aH []), .isl (Pn.aB [a,b])]), .i (.isl (aH ws)), .int lv] []=some (.int (if va=0∨vb=0 then 0 else if va=vb then va else 0),[]):=by
 rw[aD rfl Tryz.func45 rfl rfl];have hf:=fT 6 0 [] [] [a,b];rw[ho]at hf;have c3':¬ (lv:Int)=0:=by omega
 have w1:IntKind.i64.wrap ((lv:Int)-1)=(lv-1:Nat):=by rw[wrO];omega
 have w2:IntKind.i64.wrap (1:Int)=1:=bD;have w3:IntKind.i64.wrap (2:Int)=2:=wrO;have r0:fO [a.cells,b.cells] 0=some a.cells:=rfl;have r1:fO [a.cells,b.cells] 1=some b.cells:=rfl;simp only[Pn.aB,aH,Ex.aB]at hf ⊢;rw[Pn.aA a]at ha r0 hf ⊢;rw[Pn.aA a]at r1;rw[Pn.aA b]at hb r0 r1 hf ⊢;simp[hf,hl,c3'];rw[aF];by_cases z1:va=0
 case pos=>simp[w1,ha,r0,z1]
 simp[w1,w2,ha,r0,z1];rw[aF];by_cases z2:vb=0
 case pos=>simp[w1,hb,r1,z2]
 simp[w1,hb,r1,z1,z2,w2,w3];rw[aF];by_cases h6:va=vb<;>simp[z1,z2,h6]
theorem AEE {ws:List Int} {lv:Nat} {a:Pn} {va:Int} (ho:only 7 0 [] [] [a]=true) (hl:lv≠0) (hl8:lv≤8) (ha:aG C0 45 [.i (.agg a.cells), .i (.isl (aH ws)), .int (lv-1:Nat)] []=some (.int va,[])) (ra:0≤va∧va≤6):aG C0 45 [.i (.agg [.int 7, .int 0, .isl (Ex.aB []), .isl (aH []), .isl (Pn.aB [a])]), .i (.isl (aH ws)), .int lv] []=some (.int (if va=0 then 0 else va),[]):=by
 rw[aD rfl Tryz.func45 rfl rfl];have hf:=fT 7 0 [] [] [a];rw[ho]at hf;have c3':¬ (lv:Int)=0:=by omega
 have w1:IntKind.i64.wrap ((lv:Int)-1)=(lv-1:Nat):=by rw[wrO];omega
 have w2:IntKind.i64.wrap (1:Int)=1:=bD;have w3:IntKind.i64.wrap (2:Int)=2:=wrO;have r0:fO [a.cells] 0=some a.cells:=rfl;simp only[Pn.aB,aH,Ex.aB]at hf ⊢;rw[Pn.aA a]at ha r0 hf ⊢;simp[hf,hl,c3'];rw[aF];by_cases z1:va=0
 case pos=>simp[w1,ha,r0,z1]
 simp[w1,w2,ha,r0,z1];rw[aF];simp[z1]
theorem AED {ws:List Int} {lv:Nat} {a:Pn} {va:Int} {cs:List Int} (ho:only 8 0 [] cs [a]=true) (hl:lv≠0) (hl8:lv≤8) (ha:aG C0 45 [.i (.agg a.cells), .i (.isl (aH ws)), .int (lv-1:Nat)] []=some (.int va,[])) (ra:0≤va∧va≤6) (hc:cs.length<9223372036854775808):aG C0 45 [.i (.agg [.int 8, .int 0, .isl (Ex.aB []), .isl (aH cs), .isl (Pn.aB [a])]), .i (.isl (aH ws)), .int lv] []=some (.int (if va=0 then 0 else if cs.length<6∧rT va cs=true then(cs.length:Int)+1 else 0),[]):=by
 rw[aD rfl Tryz.func45 rfl rfl];have hf:=fT 8 0 [] cs [a];rw[ho]at hf;have c3':¬ (lv:Int)=0:=by omega
 have w1:IntKind.i64.wrap ((lv:Int)-1)=(lv-1:Nat):=by rw[wrO];omega
 have w2:IntKind.i64.wrap (1:Int)=1:=bD;have w3:IntKind.i64.wrap (2:Int)=2:=wrO;have r0:fO [a.cells] 0=some a.cells:=rfl;simp only[Pn.aB,aH,Ex.aB]at hf ⊢;rw[Pn.aA a]at ha r0 hf ⊢;simp[hf,hl,c3'];rw[aF];by_cases z1:va=0
 case pos=>simp[w1,ha,r0,z1]
 simp[w1,w2,ha,r0,z1];rw[aF];have hp:=UE cs va hc ra;by_cases h6:cs.length<6
 ·have w5:IntKind.i64.wrap ((cs.length:Int)+1)=cs.length+1:=wrO
  cases hv:rT va cs<;>rw[hv]at hp<;>simp[z1,hp,h6,show(cs.length:Int)<6 by omega,w5]
 ·cases hv:rT va cs<;>rw[hv]at hp<;>simp[z1,hp,h6,show ¬ (cs.length:Int)<6 by omega]
theorem AC2 (k t:Int) (es:List Ex) (cs:List Int) (ks:List Pn):only k t es cs ks=true↔((1≤k∧k≤8)∧(ks.length:Int)=kF k∧((es.length:Int)=if k=3 then(es.length:Int)else fH k)∧(t=0∨k=1)∧(cs=[]∨k=8)):=by
 unfold only;simp only[zU,zA3,zR]
theorem sK {ws:List Int} (hw:∀ w∈ws,0≤w∧w≤6) (hwl:ws.length<1000000000):∀ (p:Pn),p.lim→∀ (lv:Nat),lv≤8→aG C0 45 [.i (.agg p.cells), .i (.isl (aH ws)), .int lv] []=some (.int (p.wd ws lv),[]):=by
 intro p
 induction p using Pn.ind with
 | h k t es cs ks ih =>
  intro hp lv hlv;have hp:=(Pn.LG _).1 hp;simp only[Pn.dL,Pn.gT,Pn.fK]at hp;obtain⟨he,hc,-,hks⟩:=hp;rw[Pn.aZ];have hr:=fun a=>Pn.mH hw a (lv-1)
  by_cases ho:only k t es cs ks=true∧(ks=[]∨lv≠0)
  case neg =>
   rw[ANP ho,Pn.ADS];intro hh;apply ho;refine⟨?_,hh.2⟩;have h:=(oF k t es cs ks).1 hh.1;rw[AC2];refine⟨?_,h.1,?_,h.2.2.1.symm,h.2.2.2.symm⟩
   ·rcases KW k with h1|h1|h1|h1<;>omega
   ·by_cases h3:k=3
    ·rw[if_pos h3]
    ·have:=h.2.1;rw[if_neg fun h=>h3 h.1]at this;rw[if_neg h3];exact this
  have hoo:=ho.1;have hq:=(AC2 k t es cs ks).1 ho.1;obtain⟨h0,h1,h2,h3,h4⟩:=hq;have h5:=ho.2;by_cases hd:Pn.headOk (.mk k t es cs ks)=true
  case neg =>
   rw[Pn.ADS fun h=>hd h.1]
   have hk3:k=3∧¬ bH es.length=true∧(es.length:Int)≠1:=by
    by_cases hk:k=3
    ·refine⟨hk,?_,?_⟩
     ·intro hv;exact hd ((oF k t es cs ks).2 ⟨h1,by rw[if_pos ⟨hk,hv⟩],h3.symm,h4.symm⟩)
     ·intro hv;have:bH es.length=true:=by rw[hv];decide
      exact hd ((oF k t es cs ks).2 ⟨h1,by rw[if_pos ⟨hk,this⟩],h3.symm,h4.symm⟩)
    ·exact absurd ((oF k t es cs ks).2 ⟨h1,by rw[if_neg fun h=>hk h.1];rwa [if_neg hk]at h2,h3.symm,h4.symm⟩) hd
   obtain⟨rfl,hv,hv1⟩:=hk3;obtain⟨a,rfl⟩:=nH (by simpa using h1);obtain rfl:cs=[]:=by simpa using h4
   obtain rfl:t=0:=by simpa using h3
   have hl:lv≠0:=by simpa using h5
   rw[OX hoo hl hlv (ih a (by simp) (hks a (by simp)) (lv-1) (by omega)) (hr a) he]
   have:pW es (a.wd ws (lv-1))=0:=by
    unfold pW;split
    ·rename_i h;have:¬ (1≤(es.length:Int)∧(es.length:Int)≤6):=by simpa [bH]using hv
     omega
    ·rfl
   simp[this]
  have hx:=Pn.uJ ws lv (.mk k t es cs ks);rw[if_pos (by simpa using (⟨hd,h5⟩:_∧_))]at hx;simp only[Pn.gG,Pn.kP,Pn.dL,Pn.gT,Pn.fK]at hx;rw[hx]
  rcases uZ k with rfl|rfl|rfl|rfl|rfl|rfl|rfl|rfl|h
  ·obtain rfl:=iW (by simpa using h1);obtain rfl:es=[]:=iW (by simpa using h2);obtain rfl:cs=[]:=by simpa using h4
   exact AEJ hoo hwl
  ·obtain⟨a,rfl⟩:=nH (by simpa using h1);obtain⟨e,rfl⟩:=nH (by simpa using h2);obtain rfl:cs=[]:=by simpa using h4
   obtain rfl:t=0:=by simpa using h3
   have hl:lv≠0:=by simpa using h5
   rw[AEI hoo hl hlv (ih a (by simp) (hks a (by simp)) (lv-1) (by omega)) (hr a)];by_cases z:a.wd ws (lv-1)=0<;>simp[z,dK]
  ·obtain⟨a,rfl⟩:=nH (by simpa using h1);obtain rfl:cs=[]:=by simpa using h4
   obtain rfl:t=0:=by simpa using h3
   have hl:lv≠0:=by simpa using h5
   rw[OX hoo hl hlv (ih a (by simp) (hks a (by simp)) (lv-1) (by omega)) (hr a) he];have h6:=Pn.vL hd;simp only[Pn.dL]at h6;by_cases z:a.wd ws (lv-1)=0<;>simp[z,dK,pW,h6]
  ·obtain⟨a,b,rfl⟩:=FD (by simpa using h1);obtain⟨e,rfl⟩:=nH (by simpa using h2);obtain rfl:cs=[]:=by simpa using h4
   obtain rfl:t=0:=by simpa using h3
   have hl:lv≠0:=by simpa using h5
   rw[AEH hoo hl hlv (ih a (by simp) (hks a (by simp)) (lv-1) (by omega)) (hr a) (ih b (by simp) (hks b (by simp)) (lv-1) (by omega)) (hr b)];by_cases z:a.wd ws (lv-1)=0<;>by_cases z2:b.wd ws (lv-1)=0<;>simp[z,z2,dK]
  ·obtain⟨a,b,rfl⟩:=FD (by simpa using h1);obtain⟨e,rfl⟩:=nH (by simpa using h2);obtain rfl:cs=[]:=by simpa using h4
   obtain rfl:t=0:=by simpa using h3
   have hl:lv≠0:=by simpa using h5
   rw[AEG hoo hl hlv (ih a (by simp) (hks a (by simp)) (lv-1) (by omega)) (hr a) (ih b (by simp) (hks b (by simp)) (lv-1) (by omega)) (hr b)];by_cases z:a.wd ws (lv-1)=0<;>by_cases z2:b.wd ws (lv-1)=0<;>simp[z,z2,dK]
  ·obtain⟨a,b,rfl⟩:=FD (by simpa using h1);obtain rfl:es=[]:=iW (by simpa using h2);obtain rfl:cs=[]:=by simpa using h4
   obtain rfl:t=0:=by simpa using h3
   have hl:lv≠0:=by simpa using h5
   rw[AEF hoo hl hlv (ih a (by simp) (hks a (by simp)) (lv-1) (by omega)) (hr a) (ih b (by simp) (hks b (by simp)) (lv-1) (by omega)) (hr b)];by_cases z:a.wd ws (lv-1)=0<;>by_cases z2:b.wd ws (lv-1)=0<;>simp[z,z2,dK]
  ·obtain⟨a,rfl⟩:=nH (by simpa using h1);obtain rfl:es=[]:=iW (by simpa using h2);obtain rfl:cs=[]:=by simpa using h4
   obtain rfl:t=0:=by simpa using h3
   have hl:lv≠0:=by simpa using h5
   rw[AEE hoo hl hlv (ih a (by simp) (hks a (by simp)) (lv-1) (by omega)) (hr a)];by_cases z:a.wd ws (lv-1)=0<;>simp[z,dK]
  ·obtain⟨a,rfl⟩:=nH (by simpa using h1);obtain rfl:es=[]:=iW (by simpa using h2);obtain rfl:t=0:=by simpa using h3
   have hl:lv≠0:=by simpa using h5
   rw[AED hoo hl hlv (ih a (by simp) (hks a (by simp)) (lv-1) (by omega)) (hr a) hc];by_cases z:a.wd ws (lv-1)=0<;>simp[z,dK]
  ·omega
theorem OB (p:Pn) (hp:p.lim) (ws:List Int) (hl:ws.length<9223372036854775808):aG C0 23 [.i (.agg p.cells), .i (.isl (aH ws))] []=some (.int (p.width ws),[]):=by
 rw[aD rfl Tryz.func23 rfl rfl];have hv:=JP ws hl
 cases h:pO ws with
 | false=>rw[h]at hv;rw[Pn.aA];simp[hv,Pn.width,h]
 | true =>
  rw[h]at hv;have h4:ws.length≤4:=by simp[pO]at h;omega
  have hb:=sK (rM h) (by omega) p hp 8 (by omega);rw[show((8:Nat):Int)=8 from rfl]at hb;rw[Pn.aA]at hb ⊢;simp[hv,Pn.width,h,hb]
def IX (l m:List Int) (i:Nat):AS :=
 { env:=[(0, .i (.isl (aH l))),(1, .i (.isl (aH m))),(4, .bool false),(5, .int i),(10, .bool false),(14,jk i (.bool true)),(25,jk i (.bool false))],st:=[] }
def EX (a b:Ex) (i:Nat):AS :=
 { env:=[(0, .i (.iref [.int a.kind, .int a.col, .bool a.val.null, .int a.val.n, .isl (Ex.aB a.kids)])),(1, .i (.iref [.int b.kind, .int b.col, .bool b.val.null, .int b.val.n, .isl (Ex.aB b.kids)])),(4, .bool false),(5,jk i (.int (i-1))),(49, .bool false),(54, .int a.kids.length),(55, .int i),(56,jk i (.bool true)),(71,jk i (.bool false))],st:=[] }
def FX (a b:Ex) (i:Nat):AS :=
 { env:=[(0, .i (.agg [.int a.kind, .int a.col, .bool a.val.null, .int a.val.n, .isl (Ex.aB a.kids)])),(1, .i (.agg [.int b.kind, .int b.col, .bool b.val.null, .int b.val.n, .isl (Ex.aB b.kids)])),(2, .own 0 0),(3, .own 1 0),(4, .bool false),(5, .int i),(33, .bool false),(38,jk i (.bool true)),(52,jk i (.bool false))],
   st:=[some (.box [.int a.kind, .int a.col, .bool a.val.null, .int a.val.n, .i (.isl (Ex.aB a.kids))]),some (.box [.int b.kind, .int b.col, .bool b.val.null, .int b.val.n, .i (.isl (Ex.aB b.kids))])] }
def HX (p q:Pn) (n m:Nat) (i j k:AV) (x51 x65 x70 x83 x88 x102:AV):AS :=
 { env:=[(0, .i (.agg [.int p.kind, .int p.table, .isl (Ex.aB p.exprs), .isl (aH p.cols), .isl (Pn.aB p.kids)])),(1, .i (.agg [.int q.kind, .int q.table, .isl (Ex.aB q.exprs), .isl (aH q.cols), .isl (Pn.aB q.kids)])),(2, .own 0 0),(3, .own 1 0),(4, .bool false),(5,i),(6,j),(7,k),(46, .bool false),(51,x51),(65,x65),(70,x70),(83,x83),(88,x88),(102,x102)],
   st:=[some (.box [.int p.kind, .int p.table, .i (.isl (Ex.aB p.exprs)), .i (.isl (aH p.cols)), .i (.isl (Pn.aB p.kids))]),some (.box [.int q.kind, .int q.table, .i (.isl (Ex.aB q.exprs)), .i (.isl (aH q.cols)), .i (.isl (Pn.aB q.kids))])] }
def H1 (p q:Pn) (i:Nat):AS:=HX p q 0 0 (.int i) .junk .junk (jk i (.bool true)) (jk i (.bool false)) .junk .junk .junk .junk
def H2 (p q:Pn) (i:Nat):AS:=HX p q 0 0 (.int p.exprs.length) (.int i) .junk (.bool false) (jk p.exprs.length (.bool false)) (jk i (.bool true)) (jk i (.bool false)) .junk .junk
def KX (p:Pn) (i:Nat):AS :=
 { env:=[(0, .i (.agg [.int p.kind, .int p.table, .isl (Ex.aB p.exprs), .isl (aH p.cols), .isl (Pn.aB p.kids)])),(1, .own 0 0),(2, .own 1 0),(3, .own 2 0),(4, .int i),(5, .junk),(19,jk i (.bool true)),(37, .junk)],
   st:=some (.box [.int p.kind, .int p.table, .i (.isl (Ex.aB p.exprs)), .i (.isl (aH p.cols)), .i (.isl (Pn.aB p.kids))])::some (.box [.int 0, .int 0, .nils, .nils, .nils]) ::
    some (.box [.int p.kind, .int p.table,gro 3 5 i, .osl (if i=0 then 3 else 4) 1 0 p.cols.length, .nils])::(vN 5 (Ex.aB (p.exprs.take i)) i++[some (.arr 1 (aH p.cols))]) }
def K2 (p:Pn) (i:Nat):AS :=
 { env:=[(0, .i (.agg [.int p.kind, .int p.table, .isl (Ex.aB p.exprs), .isl (aH p.cols), .isl (Pn.aB p.kids)])),(1, .own 0 0),(2, .own 1 0),(3, .own 2 0),(4, .int p.exprs.length),(5, .int i),(19, .bool false),(37,jk i (.bool true))],
   st:=some (.box [.int p.kind, .int p.table, .i (.isl (Ex.aB p.exprs)), .i (.isl (aH p.cols)), .i (.isl (Pn.aB p.kids))])::some (.box [.int 0, .int 0, .nils, .nils, .nils]) ::
    some (.box [.int p.kind, .int p.table,gro 3 5 p.exprs.length, .osl (if p.exprs.length=0 then 3 else 4) 1 0 p.cols.length,gro (if p.exprs.length=0 then 4 else 5) 5 i])::(vN 5 (Ex.aB p.exprs) p.exprs.length++some (.arr 1 (aH p.cols))::vN 5 (Pn.aB (p.kids.take i)) i) }
def pcX (p:Pn):AV:=.agg [.int p.kind, .int p.table,gro 0 5 p.exprs.length, .osl (if p.exprs.length=0 then 0 else 1) 1 0 p.cols.length,gro (if p.exprs.length=0 then 1 else 2) 5 p.kids.length]
def pcS (p:Pn):StL:=vN 5 (Ex.aB p.exprs) p.exprs.length++some (.arr 1 (aH p.cols))::vN 5 (Pn.aB p.kids) p.kids.length
theorem TD {p:Pn} (hp:p.thin) (ih:∀ a∈p.kids,aG C0 128 [.i (.agg a.cells)] []=some (pcX a,pcS a)) :
 aG C0 128 [.i (.agg p.cells)] []=some (pcX p,pcS p):=by
 have ht:=(Pn.kN _).1 hp;obtain⟨t1,t2,t3,t4,-⟩:=ht;rw[aD rfl Tryz.func128 rfl rfl,Pn.aA];by_cases hc:p.cols=[]
 ·simp[hc,aH];rw[aS (KX p) p.exprs.length (by simp[KX,hc,aH])]
  ·rw[aF]
   cases hn:p.exprs.length with
   | zero =>
    have he:p.exprs=[]:=zW.1 hn;simp[KX,he,hc,aH,Ex.aB];rw[aS (K2 p) p.kids.length (by simp[K2,he,hc,aH,Ex.aB])]
    ·rw[aF]
     cases hm:p.kids.length with
     | zero =>
      have hk:p.kids=[]:=zW.1 hm;simp[K2,he,hc,aH,hk,Ex.aB,Pn.aB,pcX,pcS]
     | succ m =>
      have hk:p.kids.take (m+1)=p.kids:=zZ (by omega);simp[K2,he,hc,aH,hm,hk,Ex.aB,pcX,pcS]
    ·intro i hi;have h3:=zX hi;have hc':=ih _ (zV h3);have r2:=Pn.aV h3;generalize p.kids[i]=a at h3 hc' r2;have w2:IntKind.i64.wrap ((i:Int)+1)=i+1:=wrO;rw[Pn.aA]at r2 hc';simp only[pcX,pcS]at hc';have hl1:(i+1)*88≤140737488355328:=by omega
     have hl2:min i p.kids.length=i:=by omega
     by_cases a1:a.exprs=[]
     ·by_cases a2:a.kids=[]
      ·simp[a1,a2,Ex.aB,Pn.aB]at hc' r2;by_cases h0:i=0
       ·subst h0;simp[K2,he,hc,aH,hi,r2,hc',bD,aP h3,Ex.aB,Pn.aB,Pn.aA a,a1,a2]
       ·simp[K2,he,hc,aH,aM h0,aI h0,dR h0,hi,r2,hc',w2,aP h3,Ex.aB,Pn.aB,Pn.bN,hl1,hl2,zF,Pn.aA a,h0,a1,a2]
      ·have a2':a.kids.length≠0:=fun h=>a2 (zW.1 h)
       simp[a1,aM a2',aI a2',a2,Ex.aB,Pn.aB]at hc' r2;by_cases h0:i=0
       ·subst h0;simp[K2,he,hc,aH,hi,r2,hc',bD,aP h3,Ex.aB,Pn.aB,Pn.aA a,a1,aM a2',aI a2',a2]
       ·simp[K2,he,hc,aH,aM h0,aI h0,dR h0,hi,r2,hc',w2,aP h3,Ex.aB,Pn.aB,Pn.bN,hl1,hl2,zF,Pn.aA a,h0,a1,aM a2',aI a2',a2]
     ·by_cases a2:a.kids=[]
      ·have a1':a.exprs.length≠0:=fun h=>a1 (zW.1 h)
       simp[aM a1',aI a1',a1,a2,Ex.aB,Pn.aB]at hc' r2;by_cases h0:i=0
       ·subst h0;simp[K2,he,hc,aH,hi,r2,hc',bD,aP h3,Ex.aB,Pn.aB,Pn.aA a,aM a1',aI a1',a1,a2]
       ·simp[K2,he,hc,aH,aM h0,aI h0,dR h0,hi,r2,hc',w2,aP h3,Ex.aB,Pn.aB,Pn.bN,hl1,hl2,zF,Pn.aA a,h0,aM a1',aI a1',a1,a2]
      ·have a1':a.exprs.length≠0:=fun h=>a1 (zW.1 h)
       have a2':a.kids.length≠0:=fun h=>a2 (zW.1 h)
       simp[aM a1',aI a1',a1,aM a2',aI a2',a2,Ex.aB,Pn.aB]at hc' r2;by_cases h0:i=0
       ·subst h0;simp[K2,he,hc,aH,hi,r2,hc',bD,aP h3,Ex.aB,Pn.aB,Pn.aA a,aM a1',aI a1',a1,aM a2',aI a2',a2]
       ·simp[K2,he,hc,aH,aM h0,aI h0,dR h0,hi,r2,hc',w2,aP h3,Ex.aB,Pn.aB,Pn.bN,hl1,hl2,zF,Pn.aA a,h0,aM a1',aI a1',a1,aM a2',aI a2',a2]
   | succ n =>
    have he:p.exprs.take (n+1)=p.exprs:=zZ (by omega);simp[KX,hn,he,hc,aH];rw[aS (K2 p) p.kids.length (by simp[K2,hn,hc,aH,Ex.aB])]
    ·rw[aF]
     cases hm:p.kids.length with
     | zero =>
      have hk:p.kids=[]:=zW.1 hm;simp[K2,hn,hc,aH,hk,Ex.aB,Pn.aB,pcX,pcS]
     | succ m =>
      have hk:p.kids.take (m+1)=p.kids:=zZ (by omega);simp[K2,hn,hc,aH,hm,hk,Ex.aB,pcX,pcS]
    ·intro i hi;have h3:=zX hi;have hc':=ih _ (zV h3);have r2:=Pn.aV h3;generalize p.kids[i]=a at h3 hc' r2;have w2:IntKind.i64.wrap ((i:Int)+1)=i+1:=wrO;rw[Pn.aA]at r2 hc';simp only[pcX,pcS]at hc';have hl1:(i+1)*88≤140737488355328:=by omega
     have hl2:min i p.kids.length=i:=by omega
     by_cases a1:a.exprs=[]
     ·by_cases a2:a.kids=[]
      ·simp[a1,a2,Ex.aB,Pn.aB]at hc' r2;by_cases h0:i=0
       ·subst h0;simp[K2,hn,hc,aH,hi,r2,hc',bD,aP h3,Ex.aB,Pn.aB,Pn.aA a,a1,a2]
       ·simp[K2,hn,hc,aH,aM h0,aI h0,dR h0,hi,r2,hc',w2,aP h3,Ex.aB,Pn.aB,Pn.bN,hl1,hl2,zF,Pn.aA a,h0,a1,a2]
      ·have a2':a.kids.length≠0:=fun h=>a2 (zW.1 h)
       simp[a1,aM a2',aI a2',a2,Ex.aB,Pn.aB]at hc' r2;by_cases h0:i=0
       ·subst h0;simp[K2,hn,hc,aH,hi,r2,hc',bD,aP h3,Ex.aB,Pn.aB,Pn.aA a,a1,aM a2',aI a2',a2]
       ·simp[K2,hn,hc,aH,aM h0,aI h0,dR h0,hi,r2,hc',w2,aP h3,Ex.aB,Pn.aB,Pn.bN,hl1,hl2,zF,Pn.aA a,h0,a1,aM a2',aI a2',a2]
     ·by_cases a2:a.kids=[]
      ·have a1':a.exprs.length≠0:=fun h=>a1 (zW.1 h)
       simp[aM a1',aI a1',a1,a2,Ex.aB,Pn.aB]at hc' r2;by_cases h0:i=0
       ·subst h0;simp[K2,hn,hc,aH,hi,r2,hc',bD,aP h3,Ex.aB,Pn.aB,Pn.aA a,aM a1',aI a1',a1,a2]
       ·simp[K2,hn,hc,aH,aM h0,aI h0,dR h0,hi,r2,hc',w2,aP h3,Ex.aB,Pn.aB,Pn.bN,hl1,hl2,zF,Pn.aA a,h0,aM a1',aI a1',a1,a2]
      ·have a1':a.exprs.length≠0:=fun h=>a1 (zW.1 h)
       have a2':a.kids.length≠0:=fun h=>a2 (zW.1 h)
       simp[aM a1',aI a1',a1,aM a2',aI a2',a2,Ex.aB,Pn.aB]at hc' r2;by_cases h0:i=0
       ·subst h0;simp[K2,hn,hc,aH,hi,r2,hc',bD,aP h3,Ex.aB,Pn.aB,Pn.aA a,aM a1',aI a1',a1,aM a2',aI a2',a2]
       ·simp[K2,hn,hc,aH,aM h0,aI h0,dR h0,hi,r2,hc',w2,aP h3,Ex.aB,Pn.aB,Pn.bN,hl1,hl2,zF,Pn.aA a,h0,aM a1',aI a1',a1,aM a2',aI a2',a2]
  ·intro i hi;have h3:=zX hi;have hc':=BU _ (t2 _ (zV h3));have r2:=Ex.aV h3;generalize p.exprs[i]=a at h3 hc' r2;have w2:IntKind.i64.wrap ((i:Int)+1)=i+1:=wrO;rw[Ex.aA]at r2 hc';by_cases h0:i=0
   ·subst h0;simp[KX,hc,aH,hi,r2,hc',bD,aP h3,Ex.aB,Ex.aA a]
   ·simp[KX,hc,aH,aM h0,aI h0,dR h0,hi,r2,hc',w2,aP h3,Ex.bN,show min i p.exprs.length=i by omega,show(i+1)*56≤140737488355328 by omega,zF,Ex.aA a,h0]
 simp[hc,show p.cols.length*8≤140737488355328 by omega];rw[aS (KX p) p.exprs.length (by simp[KX,hc])]
 ·rw[aF]
  cases hn:p.exprs.length with
  | zero =>
   have he:p.exprs=[]:=zW.1 hn;simp[KX,he,hc,Ex.aB];rw[aS (K2 p) p.kids.length (by simp[K2,he,hc,Ex.aB])]
   ·rw[aF]
    cases hm:p.kids.length with
    | zero =>
     have hk:p.kids=[]:=zW.1 hm;simp[K2,he,hc,hk,Ex.aB,Pn.aB,pcX,pcS]
    | succ m =>
     have hk:p.kids.take (m+1)=p.kids:=zZ (by omega);simp[K2,he,hc,hm,hk,Ex.aB,pcX,pcS]
   ·intro i hi;have h3:=zX hi;have hc':=ih _ (zV h3);have r2:=Pn.aV h3;generalize p.kids[i]=a at h3 hc' r2;have w2:IntKind.i64.wrap ((i:Int)+1)=i+1:=wrO;rw[Pn.aA]at r2 hc';simp only[pcX,pcS]at hc';have hl1:(i+1)*88≤140737488355328:=by omega
    have hl2:min i p.kids.length=i:=by omega
    by_cases a1:a.exprs=[]
    ·by_cases a2:a.kids=[]
     ·simp[a1,a2,Ex.aB,Pn.aB]at hc' r2;by_cases h0:i=0
      ·subst h0;simp[K2,he,hc,hi,r2,hc',bD,aP h3,Ex.aB,Pn.aB,Pn.aA a,a1,a2]
      ·simp[K2,he,hc,aM h0,aI h0,dR h0,hi,r2,hc',w2,aP h3,Ex.aB,Pn.aB,Pn.bN,hl1,hl2,zF,Pn.aA a,h0,a1,a2]
     ·have a2':a.kids.length≠0:=fun h=>a2 (zW.1 h)
      simp[a1,aM a2',aI a2',a2,Ex.aB,Pn.aB]at hc' r2;by_cases h0:i=0
      ·subst h0;simp[K2,he,hc,hi,r2,hc',bD,aP h3,Ex.aB,Pn.aB,Pn.aA a,a1,aM a2',aI a2',a2]
      ·simp[K2,he,hc,aM h0,aI h0,dR h0,hi,r2,hc',w2,aP h3,Ex.aB,Pn.aB,Pn.bN,hl1,hl2,zF,Pn.aA a,h0,a1,aM a2',aI a2',a2]
    ·by_cases a2:a.kids=[]
     ·have a1':a.exprs.length≠0:=fun h=>a1 (zW.1 h)
      simp[aM a1',aI a1',a1,a2,Ex.aB,Pn.aB]at hc' r2;by_cases h0:i=0
      ·subst h0;simp[K2,he,hc,hi,r2,hc',bD,aP h3,Ex.aB,Pn.aB,Pn.aA a,aM a1',aI a1',a1,a2]
      ·simp[K2,he,hc,aM h0,aI h0,dR h0,hi,r2,hc',w2,aP h3,Ex.aB,Pn.aB,Pn.bN,hl1,hl2,zF,Pn.aA a,h0,aM a1',aI a1',a1,a2]
     ·have a1':a.exprs.length≠0:=fun h=>a1 (zW.1 h)
      have a2':a.kids.length≠0:=fun h=>a2 (zW.1 h)
      simp[aM a1',aI a1',a1,aM a2',aI a2',a2,Ex.aB,Pn.aB]at hc' r2;by_cases h0:i=0
      ·subst h0;simp[K2,he,hc,hi,r2,hc',bD,aP h3,Ex.aB,Pn.aB,Pn.aA a,aM a1',aI a1',a1,aM a2',aI a2',a2]
      ·simp[K2,he,hc,aM h0,aI h0,dR h0,hi,r2,hc',w2,aP h3,Ex.aB,Pn.aB,Pn.bN,hl1,hl2,zF,Pn.aA a,h0,aM a1',aI a1',a1,aM a2',aI a2',a2]
  | succ n =>
   have he:p.exprs.take (n+1)=p.exprs:=zZ (by omega);simp[KX,hn,he,hc];rw[aS (K2 p) p.kids.length (by simp[K2,hn,hc,Ex.aB])]
   ·rw[aF]
    cases hm:p.kids.length with
    | zero =>
     have hk:p.kids=[]:=zW.1 hm;simp[K2,hn,hc,hk,Ex.aB,Pn.aB,pcX,pcS]
    | succ m =>
     have hk:p.kids.take (m+1)=p.kids:=zZ (by omega);simp[K2,hn,hc,hm,hk,Ex.aB,pcX,pcS]
   ·intro i hi;have h3:=zX hi;have hc':=ih _ (zV h3);have r2:=Pn.aV h3;generalize p.kids[i]=a at h3 hc' r2;have w2:IntKind.i64.wrap ((i:Int)+1)=i+1:=wrO;rw[Pn.aA]at r2 hc';simp only[pcX,pcS]at hc';have hl1:(i+1)*88≤140737488355328:=by omega
    have hl2:min i p.kids.length=i:=by omega
    by_cases a1:a.exprs=[]
    ·by_cases a2:a.kids=[]
     ·simp[a1,a2,Ex.aB,Pn.aB]at hc' r2;by_cases h0:i=0
      ·subst h0;simp[K2,hn,hc,hi,r2,hc',bD,aP h3,Ex.aB,Pn.aB,Pn.aA a,a1,a2]
      ·simp[K2,hn,hc,aM h0,aI h0,dR h0,hi,r2,hc',w2,aP h3,Ex.aB,Pn.aB,Pn.bN,hl1,hl2,zF,Pn.aA a,h0,a1,a2]
     ·have a2':a.kids.length≠0:=fun h=>a2 (zW.1 h)
      simp[a1,aM a2',aI a2',a2,Ex.aB,Pn.aB]at hc' r2;by_cases h0:i=0
      ·subst h0;simp[K2,hn,hc,hi,r2,hc',bD,aP h3,Ex.aB,Pn.aB,Pn.aA a,a1,aM a2',aI a2',a2]
      ·simp[K2,hn,hc,aM h0,aI h0,dR h0,hi,r2,hc',w2,aP h3,Ex.aB,Pn.aB,Pn.bN,hl1,hl2,zF,Pn.aA a,h0,a1,aM a2',aI a2',a2]
    ·by_cases a2:a.kids=[]
     ·have a1':a.exprs.length≠0:=fun h=>a1 (zW.1 h)
      simp[aM a1',aI a1',a1,a2,Ex.aB,Pn.aB]at hc' r2;by_cases h0:i=0
      ·subst h0;simp[K2,hn,hc,hi,r2,hc',bD,aP h3,Ex.aB,Pn.aB,Pn.aA a,aM a1',aI a1',a1,a2]
      ·simp[K2,hn,hc,aM h0,aI h0,dR h0,hi,r2,hc',w2,aP h3,Ex.aB,Pn.aB,Pn.bN,hl1,hl2,zF,Pn.aA a,h0,aM a1',aI a1',a1,a2]
     ·have a1':a.exprs.length≠0:=fun h=>a1 (zW.1 h)
      have a2':a.kids.length≠0:=fun h=>a2 (zW.1 h)
      simp[aM a1',aI a1',a1,aM a2',aI a2',a2,Ex.aB,Pn.aB]at hc' r2;by_cases h0:i=0
      ·subst h0;simp[K2,hn,hc,hi,r2,hc',bD,aP h3,Ex.aB,Pn.aB,Pn.aA a,aM a1',aI a1',a1,aM a2',aI a2',a2]
      ·simp[K2,hn,hc,aM h0,aI h0,dR h0,hi,r2,hc',w2,aP h3,Ex.aB,Pn.aB,Pn.bN,hl1,hl2,zF,Pn.aA a,h0,aM a1',aI a1',a1,aM a2',aI a2',a2]
 ·intro i hi;have h3:=zX hi;have hc':=BU _ (t2 _ (zV h3));have r2:=Ex.aV h3;generalize p.exprs[i]=a at h3 hc' r2;have w2:IntKind.i64.wrap ((i:Int)+1)=i+1:=wrO;rw[Ex.aA]at r2 hc';by_cases h0:i=0
  ·subst h0;simp[KX,hc,hi,r2,hc',bD,aP h3,Ex.aB,Ex.aA a]
  ·simp[KX,hc,aM h0,aI h0,dR h0,hi,r2,hc',w2,aP h3,Ex.bN,show min i p.exprs.length=i by omega,show(i+1)*56≤140737488355328 by omega,zF,Ex.aA a,h0]
theorem AAW:∀ (p:Pn),p.thin→aG C0 128 [.i (.agg p.cells)] []=some (pcX p,pcS p):=by
 intro p
 induction p using Pn.ind with
 | h k t es cs ks ih =>
  intro ht;exact TD ht fun a ha=>ih a ha (((Pn.kN _).1 ht).2.2.2.2 a ha)
def vB (x:Bool) (v:Pn):Option Blk:=if x=true then some (.fbox v.cells)else some (.box (lZ v.cells))
theorem qI:aG C0 62 [.i (.isl [])] []=some (.nils,[]):=by
 rw[aD rfl Tryz.func62 rfl rfl];simp
theorem tK {l:List Int} (h:l≠[]) (hl:l.length<1000000000):aG C0 62 [.i (.isl (aH l))] []=some (.osl 0 1 0 l.length,[some (.arr 1 (aH l))]):=by
 rw[aD rfl Tryz.func62 rfl rfl];have h1:8*(l.length:Int)≤281474976710656:=by omega
 simp[h,h1];unfold over;simp
end Go.Proofs.YtnmimmaahhlgeaaGreat.P
namespace Go.Av
end Go.Av
namespace Go.Proofs.YtnmimmaahhlgeaaGreat.P
open Go Go.Av
set_option maxRecDepth 4000
set_option maxHeartbeats 2000000
theorem AJU {a:Nat} (ha:a<64):a % 2 ^ IntKind.i64.bits=a:=by
 show a % 18446744073709551616=a;exact Nat.mod_eq_of_lt (by omega)
theorem AU2 {a:Nat} (ha:a<64):(a:Int) % 2 ^ IntKind.i64.bits=a:=by
 show(a:Int) % 18446744073709551616=a;omega
theorem AOC {a b:Nat} (ha:a<64) (hb:b<64):IntKind.i64.wrap ((a ||| b:Nat):Int)=((a ||| b:Nat):Int):=by
 have h3:a ||| b<2 ^ 6:=zD2 (by omega) (by omega)
 exact wrO
theorem AN5 {a:Nat} (ha:a<64):IntKind.i64.wrap (a:Int)=a:=wrO
def KBX (e:Ex) (i:Nat):AS :=
 { env:=[(0, .i (.iref [.int e.kind, .int e.col, .bool e.val.null, .int e.val.n, .isl (Ex.aB e.kids)])),(2, .int 0),(3, .int (Ex.tO (e.kids.take i):Nat)),(4,jk i (.int (i-1))),(9, .bool false),(19, .int e.kids.length),(20, .int i),(21,jk i (.bool true))],st:=[] }
theorem QL:∀ e:Ex,e.size<1000000000→e.BC (fun c=>decide (0≤c∧c<6))=true→aG C0 108 [.i (.iref e.cells)] []=some (.int (e.bits:Nat),[]):=by
 intro e
 induction e using Ex.ind with
 | h k c v ks ih =>
  intro hs ha;generalize he:Ex.mk k c v ks=e at *
  have hk1:k=e.kind:=by rw[← he];rfl
  have hks:ks=e.kids:=by rw[← he];rfl
  subst hks;have hsz:=Ex.size_eq e;have hln:=Ex.eG e.kids;rw[aD rfl Tryz.func108 rfl rfl,Ex.aA];rw[Ex.nI]at ha;by_cases h1:e.kind=1
  ·simp only[h1,if_true]at ha;have ha:=zO ha;rw[Ex.TR h1];have hc:e.col=0∨e.col=1∨e.col=2∨e.col=3∨e.col=4∨e.col=5:=by omega
   rcases hc with hc|hc|hc|hc|hc|hc<;>(simp[h1,hc];decide)
  ·simp only[h1,if_false,zS]at ha;rw[Ex.TP h1];simp[h1];rw[aS (KBX e) e.kids.length (by simp[KBX,Ex.tO,h1])]
   ·rw[aF];simp[KBX]
   ·intro i hi;have h3:=zX hi;have hm:=zV h3;have r2:=Ex.aV h3;have htk:=aP h3;generalize e.kids[i]=a at h3 hm r2 htk;have hk:=ih a hm (by have:=Ex.jD hm;omega) (ha a hm);have w2:IntKind.i64.wrap ((i:Int)+1)=i+1:=wrO;have hb:a.bits<2 ^ 6:=Ex.TQ a (ha a hm);have hbl:Ex.tO (e.kids.take i)<2 ^ 6:=Ex.TS fun x hx=>Ex.TQ x (ha x (zH hx))
    have hor:=AOC (a:=Ex.tO (e.kids.take i)) (b:=a.bits) (by omega) (by omega);rw[Ex.aA a]at r2 hk;by_cases h0:i=0
    ·subst h0;simp[KBX,hi,r2,hk,bD,htk,Ex.FU,Ex.tO,AU2 (show a.bits<64 by omega),AN5 (show a.bits<64 by omega)]
    ·simp[KBX,dR h0,hi,r2,hk,w2,htk,Ex.FU,hor,AJU (show a.bits<64 by omega),AJU (show Ex.tO (e.kids.take i)<64 by omega)]
end Go.Proofs.YtnmimmaahhlgeaaGreat.P
namespace Go.Av
theorem Ex.ASN {w w':Int} (h:w≤w'):∀ e:Ex,e.wf w=true→e.wf w'=true:=by
 intro e
 induction e using Ex.ind with
 | h k c v ks ih =>
  intro hw;rw[Ex.EO]at hw ⊢;simp only[zU]at hw ⊢;refine⟨hw.1,?_,?_⟩
  ·have h2:=hw.2.1;unfold Ex.headOk at h2 ⊢;split at h2
   ·rename_i h1;rw[if_pos h1];simp only[zU,zR]at h2 ⊢;exact⟨h2.1,by omega,h2.2.2⟩
   ·rename_i h1;rw[if_neg h1];exact h2
  ·rw[zS]at *
   exact fun x hx=>ih x hx (hw.2.2 x hx)
theorem Ex.vF {w:Int} {e:Ex} (h:e.ok w=true):e.wf w=true∧1≤w∧w≤6:=by
 unfold Ex.ok bH at h;rw[Ex.NJ]at h;simp only[zU,zR]at h;exact⟨h.2.1,h.1.1,h.1.2⟩
theorem Ex.AJH {w:Int} {e:Ex} (h:e.ok w=true):e.wf 6=true:=Ex.ASN (Ex.vF h).2.2 e (Ex.vF h).1
theorem Ex.ABE {e:Ex} (h:e.wf 6=true):e.BC (fun c=>decide (0≤c∧c<6))=true:=Ex.QY e h
theorem Ex.AN6 {w:Int} {e:Ex} (h:e.wf w=true):e.BC (fun c=>decide (0≤c))=true:=Ex.rY (fun c hc=>by simp only[zR]at hc ⊢;exact hc.1) e (Ex.QY e h)
theorem Ex.ADH {f g:Int→Bool}:∀ e:Ex,e.BC f=true→e.BC g=true→e.BC (fun c=>f c && g c)=true:=by
 intro e
 induction e using Ex.ind with
 | h k c v ks ih =>
  intro h1 h2;rw[Ex.nI]at *
  by_cases hk:k=1
  ·subst hk;simp only[Ex.kind,Ex.col,if_true]at h1 h2 ⊢;simp[h1,h2]
  ·simp only[Ex.kind,Ex.kids,hk,if_false,zS]at h1 h2 ⊢;exact fun x hx=>ih x hx (h1 x hx) (h2 x hx)
def okS (a:Int):Prop:=1≤a∧a≤7
theorem APO:∀ a b:Fin 8,a.val≠0→b.val≠0→(1≤lU 8 a.val b.val∧lU 8 a.val b.val≤7)∧(1≤lU 9 a.val b.val∧lU 9 a.val b.val≤7)∧(1≤lU 3 a.val b.val∧lU 3 a.val b.val≤7)∧(1≤lU 6 a.val b.val∧lU 6 a.val b.val≤7):=by decide
theorem ALN {k a b:Int} (ha:okS a) (hb:okS b):okS (lU k a b):=by
 obtain⟨a,rfl⟩:=yH (show 0≤a by have:=ha.1;omega);obtain⟨b,rfl⟩:=yH (show 0≤b by have:=hb.1;omega);have h:=APO ⟨a,by have:=ha.2;omega⟩ ⟨b,by have:=hb.2;omega⟩ (by have:=ha.1;simp;omega) (by have:=hb.1;simp;omega);unfold okS;by_cases h8:k=8
 ·subst h8;exact h.1
 ·by_cases h9:k=9
  ·subst h9;exact h.2.1
  ·by_cases h6:k<6
   ·have e:lU k a b=lU 3 a b:=by simp[lU,h8,h9,h6]
    rw[e];exact h.2.2.1
   ·have e:lU k a b=lU 6 a b:=by simp[lU,h8,h9,h6]
    rw[e];exact h.2.2.2
theorem RY:∀ a:Fin 8,a.val≠0→(1≤AYX a.val∧AYX a.val≤7)∧(1≤AWR a.val∧AWR a.val≤7):=by decide
theorem AHZ (v:Val):okS (stV v):=by
 unfold stV okS;split
 ·omega
 ·split<;>omega
theorem RU (st:List Int) (e:Ex):NV st e=if e.kind=1 then(st[e.col.toNat]?).getD 0 else if e.kind=2 then stV e.val else if e.kind=10 then AYX ((e.kids[0]?.map (NV st)).getD 0)else if e.kind=11 then AWR ((e.kids[0]?.map (NV st)).getD 0)else lU e.kind ((e.kids[0]?.map (NV st)).getD 0) ((e.kids[1]?.map (NV st)).getD 0):=by
 cases e
 simp only[NV,WE,Ex.kind,Ex.col,Ex.val,Ex.kids,zJ];congr
end Go.Av
namespace Go.Proofs.YtnmimmaahhlgeaaGreat.P
open Go Go.Av
set_option maxRecDepth 4000
set_option maxHeartbeats 4000000
@[simp] theorem wr0:IntKind.i64.wrap 0=0:=by decide
@[simp] theorem wr1:IntKind.i64.wrap 1=1:=by decide
@[simp] theorem wr2:IntKind.i64.wrap 2=2:=by decide
@[simp] theorem wr3:IntKind.i64.wrap 3=3:=by decide
@[simp] theorem wr4:IntKind.i64.wrap 4=4:=by decide
@[simp] theorem wr7:IntKind.i64.wrap 7=7:=by decide
@[simp] theorem AnJ:(2:Nat) ^ IntKind.i64.bits=18446744073709551616:=rfl
@[simp] theorem AnK:(2:Int) ^ IntKind.i64.bits=18446744073709551616:=rfl
theorem mX (b:Bool) (n:Int):aG C0 189 [.i (.agg [.bool b, .int n])] []=some (.int (stV ⟨b,n⟩),[]):=by
 rw[aD rfl Tryz.func189 rfl rfl]
 cases b
 ·by_cases h:n=0<;>simp[stV,h]
 ·simp[stV]
theorem eight {a:Int} (h:0≤a∧a≤7):a=0∨a=1∨a=2∨a=3∨a=4∨a=5∨a=6∨a=7:=by omega
theorem MH {a:Int} (h:0≤a∧a≤7):aG C0 210 [.int a] []=some (.i (.isl (aO (exS a))),[]):=by
 rw[aD rfl Tryz.func210 rfl rfl];have s0:=mX false 0;have s1:=mX false 1;have s2:=mX true 0;simp only[stV,yY,if_false,if_true,Int.reduceEq]at s0 s1 s2
 rcases eight h with rfl|rfl|rfl|rfl|rfl|rfl|rfl|rfl
 all_goals
  simp;rw[aF];simp[s0,s1,s2];rw[aF];simp[s0,s1,s2];rw[aF];simp[s0,s1,s2];rw[aF];simp[exS,kI,aO]
theorem bT (e:Ex) (k:Pn):(filt e k).cells=[.int 2, .int 0, .isl [e.cells], .isl [], .isl [k.cells]]:=by simp[filt,Pn.cells,Ex.aB,aH,Pn.aB]
theorem wI (es:List Ex) (k:Pn):(proj es k).cells=[.int 3, .int 0, .isl (Ex.aB es), .isl [], .isl [k.cells]]:=by simp[proj,Pn.cells,aH,Pn.aB]
theorem pair_cells (kd:Int) (e:Ex) (a b:Pn):(aX kd e a b).cells=[.int kd, .int 0, .isl [e.cells], .isl [], .isl [a.cells,b.cells]]:=by simp[aX,Pn.cells,Ex.aB,aH,Pn.aB]
theorem Z8 (a b:Pn):(bU a b).cells=[.int 6, .int 0, .isl [], .isl [], .isl [a.cells,b.cells]]:=by simp[bU,Pn.cells,Ex.aB,aH,Pn.aB]
theorem FW (a b:Ex):(ABB a b).cells=[.int 8, .int 0, .bool false, .int 0, .isl [a.cells,b.cells]]:=by simp[ABB,Ex.cells,Ex.aB,Val.zero]
theorem oG (c:Int):(AGD c).cells=[.int 1, .int c, .bool false, .int 0, .isl []]:=by simp[AGD,Ex.cells,Ex.aB,Val.zero]
theorem bA:Pn.zero.cells=[.int 0, .int 0, .isl [], .isl [], .isl []]:=by simp[Pn.zero,Pn.cells,Ex.aB,aH,Pn.aB]
theorem gB (e:Ex) (k:Pn):aG C0 106 [.i (.agg e.cells), .i (.agg k.cells)] []=some (.i (.agg (filt e k).cells),[]):=by
 rw[aD rfl Tryz.func106 rfl rfl,bT,Ex.aA,Pn.aA];simp
theorem oO (kd:Int) (e:Ex) (a b:Pn):aG C0 109 [.int kd, .i (.agg e.cells), .i (.agg a.cells), .i (.agg b.cells)] []=some (.i (.agg (aX kd e a b).cells),[]):=by
 rw[aD rfl Tryz.func109 rfl rfl,pair_cells,Ex.aA,Pn.aA a,Pn.aA b];simp
theorem ALV (a b:Ex):aG C0 107 [.i (.agg a.cells), .i (.agg b.cells)] []=some (.i (.agg (ABB a b).cells),[]):=by
 rw[aD rfl Tryz.func107 rfl rfl,FW,Ex.aA a,Ex.aA b];simp
theorem FI (c:Int):aG C0 113 [.int c] []=some (.i (.agg (AGD c).cells),[]):=by
 rw[aD rfl Tryz.func113 rfl rfl,oG];simp
theorem gW {p:Pn} {kd:Int} (h:p.kind≠2):aG C0 105 [.i (.iref p.cells), .int kd] []=some (.tup [.i (.lit (.pointer none)), .i (.lit (.pointer none)), .bool false],[]):=by
 rw[aD rfl Tryz.func105 rfl rfl,Pn.aA];simp[h]
theorem fA {e:Ex} {k:Pn} {kd:Int} (h:k.kind≠kd):aG C0 105 [.i (.iref (filt e k).cells), .int kd] []=some (.tup [.i (.lit (.pointer none)), .i (.lit (.pointer none)), .bool false],[]):=by
 rw[aD rfl Tryz.func105 rfl rfl,bT,Pn.aA k];simp[h]
theorem gZ {e:Ex} {k:Pn} {kd:Int} (h:k.kind=kd):aG C0 105 [.i (.iref (filt e k).cells), .int kd] []=some (.tup [.i (.iref e.cells), .i (.iref k.cells), .bool true],[]):=by
 rw[aD rfl Tryz.func105 rfl rfl,bT,Pn.aA k,Ex.aA e];simp[h]
theorem ZV (c w:Int) (h0:0≤c∧c≤6) (hw:0≤w∧w≤6):aG C0 111 [.int c, .own 0 0] [some (.box [.int w])]=some (.int (c-w),[some (.box [.int w])]):=by
 rw[aD rfl Tryz.func111 rfl rfl];have w1:IntKind.i64.wrap (c-w)=c-w:=wrO;simp[w1]
theorem PD (c a b:Int) (h0:0≤c∧c≤12) (ha:0≤a∧a≤6) (hb:0≤b∧b≤6):aG C0 112 [.int c, .own 0 0, .own 1 0] [some (.box [.int a]),some (.box [.int b])]=some (.int (pK a b c),[some (.box [.int a]),some (.box [.int b])]):=by
 rw[aD rfl Tryz.func112 rfl rfl];have w1:IntKind.i64.wrap (c-a)=c-a:=wrO;have w2:IntKind.i64.wrap (c+b)=c+b:=wrO;unfold pK;by_cases h:c<a
 ·simp[h,w2]
 ·simp[h,w1]
def zrw:List IV:=[.int 0, .int 0, .bool false, .int 0, .isl []]
@[simp] theorem ALE {e:Ex} (h:e.size<1000000000):aG C0 61 [.i (.iref e.cells)] []=some (.i (.agg e.cells),[]):=by
  rw[aN (p:=MP) rfl];exact AD4 h
theorem AIU {e:Ex} {w:Int} (hw:0≤w∧w≤6) (hk:e.kind=1) (hc:0≤e.col∧e.col<6) :
 aG C0 158 [.i (.iref e.cells), .own 0 0] [some (.box [.fn (.func 111) [.own 1 0]]),some (.box [.int w])]=some (.i (.agg (AGD (e.col-w)).cells),[some (.box [.fn (.func 111) [.own 1 0]]),some (.box [.int w])]):=by
 have hp:=ZV e.col w (by omega) hw;have h2:=FI (e.col-w);rw[aD rfl Tryz.func158 rfl rfl,Ex.aA e];rw[oG]at *
 simp[hk,hp,h2]
theorem AIS {e:Ex} {w:Int} (hk:e.kind≠1) (hs:e.size<1000000000) :
 aG C0 158 [.i (.iref e.cells), .own 0 0] [some (.box [.fn (.func 111) [.own 1 0]]),some (.box [.int w])]=some (.i (.agg e.cells),[some (.box [.fn (.func 111) [.own 1 0]]),some (.box [.int w])]):=by
 have hc:=ALE hs;rw[aD rfl Tryz.func158 rfl rfl];rw[Ex.aA e]at *
 simp[hk,hc]
def RNR (e:Ex) (w:Int) (f:Ex→Ex) (i:Nat):AS :=
 { env:=[(0, .i (.iref [.int e.kind, .int e.col, .bool e.val.null, .int e.val.n, .isl (Ex.aB e.kids)])),(1, .fn (.func 158) [.own 0 0]),(4, .own 2 0),(5, .own 3 0),(6,jk i (.int (i-1))),(12, .bool ((e.kids.length:Int) == 0)),(39, .int e.kids.length),(40, .int i),(41,jk i (.bool true))],
   st:=[some (.box [.fn (.func 111) [.own 1 0]]),some (.box [.int w]),some (.box [.int 0, .int 0, .bool false, .int 0, .nils]),some (.box [.int e.kind, .int e.col, .bool e.val.null, .int e.val.n, .osl 4 5 0 e.kids.length]),some (.arr 5 (Ex.aB ((e.kids.map f).take i)++List.replicate (e.kids.length-i) zrw))] }
theorem Ac2 {e:Ex} {w:Int} {f:Ex→Ex} (hk:e.kids≠[]) (hl:e.kids.length<1000000000) (ih:∀ x∈e.kids,aG C0 157 [.i (.iref x.cells), .fn (.func 158) [.own 0 0]] [some (.box [.fn (.func 111) [.own 1 0]]),some (.box [.int w])]=some (.i (.agg (f x).cells),[some (.box [.fn (.func 111) [.own 1 0]]),some (.box [.int w])])) :
 aG C0 157 [.i (.iref e.cells), .fn (.func 158) [.own 0 0]] [some (.box [.fn (.func 111) [.own 1 0]]),some (.box [.int w])]=some (.i (.agg (Ex.mk e.kind e.col e.val (e.kids.map f)).cells),[some (.box [.fn (.func 111) [.own 1 0]]),some (.box [.int w])]):=by
 rw[aD rfl Tryz.func157 rfl rfl,Ex.aA];have hb:56*(e.kids.length:Int)≤281474976710656:=by omega
 simp[hk,hb];rw[aS (RNR e w f) e.kids.length (by simp[RNR,Ex.aB,zrw])]
 ·rw[aF];have ht:(e.kids.map f).take e.kids.length=e.kids.map f:=zZ (by simp);simp[RNR,Ex.cells,ht]
 ·intro i hi;have h3:=zX hi;have hm:=zV h3;have hc:=ih _ hm;have r2:=Ex.aV h3;generalize e.kids[i]=x at h3 hc r2;have w2:IntKind.i64.wrap ((i:Int)+1)=i+1:=wrO;rw[Ex.aA]at hc r2;have hD:(Ex.aB ((e.kids.map f).take i)).length=i:=by simp;omega
  have hS:Ex.aB ((e.kids.map f).take i)++[(f x).cells]=Ex.aB ((e.kids.map f).take (i+1)):=by rw[aP (a:=f x) (by simp[h3]),Ex.bN]
  have g1:=JA (n:=e.kids.length) (z:=zrw) hD hi;have g2:=J9 (n:=e.kids.length) (z:=zrw) (x:=(f x).cells) hD hi;have g3:splice zrw 0 (f x).cells=some (f x).cells:=wG (by simp[zrw]);rw[hS]at g2;simp[RNR,hi,r2,hc,w2,g1,g2,g3]
theorem AYI {e x:Ex} {w:Int} (hk:e.kids=[]) (h:aG C0 158 [.i (.iref e.cells), .own 0 0] [some (.box [.fn (.func 111) [.own 1 0]]),some (.box [.int w])]=some (.i (.agg x.cells),[some (.box [.fn (.func 111) [.own 1 0]]),some (.box [.int w])])) :
 aG C0 157 [.i (.iref e.cells), .fn (.func 158) [.own 0 0]] [some (.box [.fn (.func 111) [.own 1 0]]),some (.box [.int w])]=some (.i (.agg x.cells),[some (.box [.fn (.func 111) [.own 1 0]]),some (.box [.int w])]):=by
 rw[aD rfl Tryz.func157 rfl rfl];rw[Ex.aA e]at h ⊢;rw[Ex.aA x]at h ⊢;simp[hk,Ex.aB]at h ⊢;simp[h]
theorem AIM {w:Int} (hw:0≤w∧w≤6):∀ (e:Ex),e.wf 6=true→e.size<1000000000→aG C0 157 [.i (.iref e.cells), .fn (.func 158) [.own 0 0]] [some (.box [.fn (.func 111) [.own 1 0]]),some (.box [.int w])]=some (.i (.agg (e.wK (·-w)).cells),[some (.box [.fn (.func 111) [.own 1 0]]),some (.box [.int w])]):=by
 intro e
 induction e using Ex.ind with
 | h k c v ks ih =>
  intro hx6 hs;have hsz:=Ex.size_eq (.mk k c v ks);have hln:=Ex.eG ks;simp only[Ex.kids]at hsz;by_cases h1:k=1
  ·have hc:=Ex.pV hx6 (by simpa [Ex.kind]using h1);rw[Ex.SA _ (by simpa [Ex.kind]using h1)];exact AYI hc.2.2 (AIU hw (by simpa [Ex.kind]using h1) ⟨hc.1,hc.2.1⟩)
  ·rw[Ex.S9 _ (by simpa [Ex.kind]using h1)];by_cases hk:ks=[]
   ·subst hk;exact AYI rfl (AIS (by simpa [Ex.kind]using h1) hs)
   ·exact Ac2 hk (by simp only[Ex.kids];omega) fun x hx=>ih x hx (Ex.iU hx6 hx) (by have:=Ex.jD (l:=ks) hx;omega)
theorem ZO {w:Int} (hw:0≤w∧w≤6) (e:Ex) (hx6:e.wf 6=true) (hs:e.size<1000000000):aG C0 110 [.i (.iref e.cells), .fn (.func 111) [.own 0 0]] [some (.box [.int w])]=some (.i (.agg (e.wK (·-w)).cells),[some (.box [.int w])]):=by
 have h:=AIM hw e hx6 hs;rw[aD rfl Tryz.func110 rfl rfl];generalize e.wK (·-w)=x at *
 rw[Ex.aA e,Ex.aA x]at *
 simp[h]
theorem AIT {e:Ex} {a b:Int} (ha:0≤a∧a≤6) (hb:0≤b∧b≤6) (hk:e.kind=1) (hc:0≤e.col∧e.col<6) :
 aG C0 158 [.i (.iref e.cells), .own 0 0] [some (.box [.fn (.func 112) [.own 1 0, .own 2 0]]),some (.box [.int a]),some (.box [.int b])]=some (.i (.agg (AGD (pK a b e.col)).cells),[some (.box [.fn (.func 112) [.own 1 0, .own 2 0]]),some (.box [.int a]),some (.box [.int b])]):=by
 have hp:=PD e.col a b (by omega) ha hb;have h2:=FI (pK a b e.col);rw[aD rfl Tryz.func158 rfl rfl,Ex.aA e];rw[oG]at *
 simp[hk,hp,h2]
theorem AIR {e:Ex} {a b:Int} (hk:e.kind≠1) (hs:e.size<1000000000) :
 aG C0 158 [.i (.iref e.cells), .own 0 0] [some (.box [.fn (.func 112) [.own 1 0, .own 2 0]]),some (.box [.int a]),some (.box [.int b])]=some (.i (.agg e.cells),[some (.box [.fn (.func 112) [.own 1 0, .own 2 0]]),some (.box [.int a]),some (.box [.int b])]):=by
 have hc:=ALE hs;rw[aD rfl Tryz.func158 rfl rfl];rw[Ex.aA e]at *
 simp[hk,hc]
def RNS (e:Ex) (a b:Int) (f:Ex→Ex) (i:Nat):AS :=
 { env:=[(0, .i (.iref [.int e.kind, .int e.col, .bool e.val.null, .int e.val.n, .isl (Ex.aB e.kids)])),(1, .fn (.func 158) [.own 0 0]),(4, .own 3 0),(5, .own 4 0),(6,jk i (.int (i-1))),(12, .bool ((e.kids.length:Int) == 0)),(39, .int e.kids.length),(40, .int i),(41,jk i (.bool true))],
   st:=[some (.box [.fn (.func 112) [.own 1 0, .own 2 0]]),some (.box [.int a]),some (.box [.int b]),some (.box [.int 0, .int 0, .bool false, .int 0, .nils]),some (.box [.int e.kind, .int e.col, .bool e.val.null, .int e.val.n, .osl 5 5 0 e.kids.length]),some (.arr 5 (Ex.aB ((e.kids.map f).take i)++List.replicate (e.kids.length-i) zrw))] }
theorem Ac1 {e:Ex} {a b:Int} {f:Ex→Ex} (hk:e.kids≠[]) (hl:e.kids.length<1000000000) (ih:∀ x∈e.kids,aG C0 157 [.i (.iref x.cells), .fn (.func 158) [.own 0 0]] [some (.box [.fn (.func 112) [.own 1 0, .own 2 0]]),some (.box [.int a]),some (.box [.int b])]=some (.i (.agg (f x).cells),[some (.box [.fn (.func 112) [.own 1 0, .own 2 0]]),some (.box [.int a]),some (.box [.int b])])) :
 aG C0 157 [.i (.iref e.cells), .fn (.func 158) [.own 0 0]] [some (.box [.fn (.func 112) [.own 1 0, .own 2 0]]),some (.box [.int a]),some (.box [.int b])]=some (.i (.agg (Ex.mk e.kind e.col e.val (e.kids.map f)).cells),[some (.box [.fn (.func 112) [.own 1 0, .own 2 0]]),some (.box [.int a]),some (.box [.int b])]):=by
 rw[aD rfl Tryz.func157 rfl rfl,Ex.aA];have hb:56*(e.kids.length:Int)≤281474976710656:=by omega
 simp[hk,hb];rw[aS (RNS e a b f) e.kids.length (by simp[RNS,Ex.aB,zrw])]
 ·rw[aF];have ht:(e.kids.map f).take e.kids.length=e.kids.map f:=zZ (by simp);simp[RNS,Ex.cells,ht]
 ·intro i hi;have h3:=zX hi;have hm:=zV h3;have hc:=ih _ hm;have r2:=Ex.aV h3;generalize e.kids[i]=x at h3 hc r2;have w2:IntKind.i64.wrap ((i:Int)+1)=i+1:=wrO;rw[Ex.aA]at hc r2;have hD:(Ex.aB ((e.kids.map f).take i)).length=i:=by simp;omega
  have hS:Ex.aB ((e.kids.map f).take i)++[(f x).cells]=Ex.aB ((e.kids.map f).take (i+1)):=by rw[aP (a:=f x) (by simp[h3]),Ex.bN]
  have g1:=JA (n:=e.kids.length) (z:=zrw) hD hi;have g2:=J9 (n:=e.kids.length) (z:=zrw) (x:=(f x).cells) hD hi;have g3:splice zrw 0 (f x).cells=some (f x).cells:=wG (by simp[zrw]);rw[hS]at g2;simp[RNS,hi,r2,hc,w2,g1,g2,g3]
theorem AYH {e x:Ex} {a b:Int} (hk:e.kids=[]) (h:aG C0 158 [.i (.iref e.cells), .own 0 0] [some (.box [.fn (.func 112) [.own 1 0, .own 2 0]]),some (.box [.int a]),some (.box [.int b])]=some (.i (.agg x.cells),[some (.box [.fn (.func 112) [.own 1 0, .own 2 0]]),some (.box [.int a]),some (.box [.int b])])) :
 aG C0 157 [.i (.iref e.cells), .fn (.func 158) [.own 0 0]] [some (.box [.fn (.func 112) [.own 1 0, .own 2 0]]),some (.box [.int a]),some (.box [.int b])]=some (.i (.agg x.cells),[some (.box [.fn (.func 112) [.own 1 0, .own 2 0]]),some (.box [.int a]),some (.box [.int b])]):=by
 rw[aD rfl Tryz.func157 rfl rfl];rw[Ex.aA e]at h ⊢;rw[Ex.aA x]at h ⊢;simp[hk,Ex.aB]at h ⊢;simp[h]
theorem AIL {a b:Int} (ha:0≤a∧a≤6) (hb:0≤b∧b≤6):∀ (e:Ex),e.wf 6=true→e.size<1000000000→aG C0 157 [.i (.iref e.cells), .fn (.func 158) [.own 0 0]] [some (.box [.fn (.func 112) [.own 1 0, .own 2 0]]),some (.box [.int a]),some (.box [.int b])]=some (.i (.agg (e.wK (pK a b)).cells),[some (.box [.fn (.func 112) [.own 1 0, .own 2 0]]),some (.box [.int a]),some (.box [.int b])]):=by
 intro e
 induction e using Ex.ind with
 | h k c v ks ih =>
  intro hx6 hs;have hsz:=Ex.size_eq (.mk k c v ks);have hln:=Ex.eG ks;simp only[Ex.kids]at hsz;by_cases h1:k=1
  ·have hc:=Ex.pV hx6 (by simpa [Ex.kind]using h1);rw[Ex.SA _ (by simpa [Ex.kind]using h1)];exact AYH hc.2.2 (AIT ha hb (by simpa [Ex.kind]using h1) ⟨hc.1,hc.2.1⟩)
  ·rw[Ex.S9 _ (by simpa [Ex.kind]using h1)];by_cases hk:ks=[]
   ·subst hk;exact AYH rfl (AIR (by simpa [Ex.kind]using h1) hs)
   ·exact Ac1 hk (by simp only[Ex.kids];omega) fun x hx=>ih x hx (Ex.iU hx6 hx) (by have:=Ex.jD (l:=ks) hx;omega)
theorem ZN {a b:Int} (ha:0≤a∧a≤6) (hb:0≤b∧b≤6) (e:Ex) (hx6:e.wf 6=true) (hs:e.size<1000000000):aG C0 110 [.i (.iref e.cells), .fn (.func 112) [.own 0 0, .own 1 0]] [some (.box [.int a]),some (.box [.int b])]=some (.i (.agg (e.wK (pK a b)).cells),[some (.box [.int a]),some (.box [.int b])]):=by
 have h:=AIL ha hb e hx6 hs;rw[aD rfl Tryz.func110 rfl rfl];generalize e.wK (pK a b)=x at *
 rw[Ex.aA e,Ex.aA x]at *
 simp[h]
end Go.Proofs.YtnmimmaahhlgeaaGreat.P
namespace Go.Av
theorem ZX (a b:Nat):orS a b=((a ||| b:Nat):Int):=by simp[orS]
def U2 (k:Int) (v:Val) (l:List Val) (s:Int) (j:Nat):Int:=(l.take j).foldl (fun s w=>orS s (stV (Val.cmb k v w))) s
def YV (k:Int) (l r:List Val) (i:Nat):Int:=(l.take i).foldl (fun s v=>r.foldl (fun s w=>orS s (stV (Val.cmb k v w))) s) 0
theorem YN {k:Int} {v w:Val} {l:List Val} {s:Int} {j:Nat} (h:l[j]?=some w):U2 k v l s (j+1)=orS (U2 k v l s j) (stV (Val.cmb k v w)):=by
 unfold U2;rw[aP h,zD3];rfl
theorem ND {k:Int} {v:Val} {l r:List Val} {i:Nat} (h:l[i]?=some v):YV k l r (i+1)=U2 k v r (YV k l r i) r.length:=by
 unfold YV U2;rw[aP h,zD3,zE1];rfl
def AU6 (s:Int):Prop:=∃ n:Nat,s=n∧n<8
theorem ZC (v:Val):AU6 (stV v):=by
 unfold stV;split
 ·exact⟨4,rfl,by omega⟩
 ·split
  ·exact⟨1,rfl,by omega⟩
  ·exact⟨2,rfl,by omega⟩
theorem ATX {a b:Int} (ha:AU6 a) (hb:AU6 b):AU6 (orS a b):=by
 obtain⟨m,rfl,hm⟩:=ha;obtain⟨n,rfl,hn⟩:=hb;exact⟨m ||| n,ZX m n,zD2 (n:=3) hm hn⟩
theorem JC {k:Int} {v:Val}:∀ (l:List Val) {s:Int} (j:Nat),AU6 s→AU6 (U2 k v l s j)
 | [],s,j,h=>by simpa [U2]using h
 | a::l,s,0,h=>by simpa [U2]using h
 | a::l,s,j+1,h=>by
  have:=JC (k:=k) (v:=v) l (s:=orS s (stV (Val.cmb k v a))) j (ATX h (ZC _));simpa [U2]using this
theorem ADI {k:Int} {r:List Val} (l:List Val) (i:Nat) (hi:i≤l.length):AU6 (YV k l r i):=by
 induction i with
 | zero=>exact⟨0,by simp[YV],by omega⟩
 | succ i ih =>
  rw[ND (zX (show i<l.length by omega))];exact JC r _ (ih (by omega))
theorem APQ {k a b:Int} (h:k=8∨k=9):lU k a b=YV k (exS a) (exS b) (exS a).length:=by
 unfold lU YV;rw[if_pos h,zE1]
theorem ARS {a:Int} {v:Val} (h:v∈exS a):v.ok=true:=by
 unfold exS at h;simp only[zT]at h
 rcases h with h|h|h
 ·split at h
  ·simp at h;subst h;rfl
  ·cases h
 ·split at h
  ·simp at h;subst h;rfl
  ·cases h
 ·split at h
  ·simp at h;subst h;rfl
  ·cases h
theorem AZI {b:Int} (h:okS b):exS b≠[]:=by
 obtain⟨h1,h2⟩:=h;have:b=1∨b=2∨b=3∨b=4∨b=5∨b=6∨b=7:=by omega
 rcases this with rfl|rfl|rfl|rfl|rfl|rfl|rfl<;>decide
theorem AL0 (a:Int):(exS a).length≤3:=by
 unfold exS;simp only[zQ]
 repeat' split
 all_goals simp
end Go.Av
namespace Go.Proofs.YtnmimmaahhlgeaaGreat.P
open Go Go.Av
set_option maxRecDepth 4000
set_option maxHeartbeats 4000000
theorem NY {n:Nat} (h:n<8):n % 18446744073709551616=n:=Nat.mod_eq_of_lt (by omega)
theorem or8 {m n:Nat} (hm:m<8) (hn:n<8):IntKind.i64.wrap ((m ||| n:Nat):Int)=((m ||| n:Nat):Int):=by
 have:=zD2 (n:=3) hm hn;exact wrO
def vBx (v:Val):Option Blk:=some (.box [.bool v.null, .int v.n])
def vAt (l:List Val) (i:Nat):Val:=(l[i]?).getD Val.zero
def jz (i:Nat) (v:AV):AV:=if i=0 then .junk else v
@[simp] theorem ArT (v:AV):jz 0 v=.junk:=rfl
@[simp] theorem ArS (i:Nat) (v:AV):jz (i+1) v=v:=rfl
theorem I5 {i:Nat} (h:i≠0) (v:AV):jz i v=v:=if_neg h
def CSX (k a b:Int) (A B:List Val) (i:Nat):AS :=
 { env:=[(0, .int k),(1, .int a),(2, .int b),(6, .int 0),(7, .int (YV k A B i)),(9,jz i (.own 0 0)),(11,jz i (.own 1 0)),(17, .bool true),(19, .i (.isl (aO A))),(20, .int A.length),(21, .int i),(22,jz i (.bool true)),(26,jz i (.i (.isl (aO B)))),(27,jz i (.int B.length)),(28,jz i (.int B.length)),(29,jz i (.bool false)),(46, .junk),(54, .junk),(66, .junk)],
   st:=if i=0 then []else [vBx (vAt A (i-1)),vBx (vAt B (B.length-1))] }
def CSI (k a b:Int) (A B:List Val) (i:Nat) (j:Nat):AS :=
 { env:=[(0, .int k),(1, .int a),(2, .int b),(6, .int 0),(7, .int (U2 k (vAt A i) B (YV k A B i) j)),(9, .own 0 0),(11,if j=0 then jz i (.own 1 0)else .own 1 0),(17, .bool true),(19, .i (.isl (aO A))),(20, .int A.length),(21, .int i),(22, .bool true),(26, .i (.isl (aO B))),(27, .int B.length),(28, .int j),(29,if j=0 then jz i (.bool false)else .bool true),(46, .junk),(54, .junk),(66, .junk)],
   st:=vBx (vAt A i)::(if j=0 then(if i=0 then []else [vBx (vAt B (B.length-1))])else [vBx (vAt B (j-1))]) }
theorem EG {k a b:Int} (hk:k=8∨k=9) (ha:okS a) (hb:okS b):aG C0 190 [.int k, .int a, .int b] []=some (.int (lU k a b),[]):=by
 have hea:=MH (a:=a) ⟨by have:=ha.1;omega,ha.2⟩;have heb:=MH (a:=b) ⟨by have:=hb.1;omega,hb.2⟩;have hbn:=AZI hb;have hbl:(exS b).length≠0:=fun h=>hbn (zW.1 h)
 have la:=AL0 a;have lb:=AL0 b;have oka:∀ v∈exS a,v.ok=true:=fun v hv=>ARS hv
 have okb:∀ v∈exS b,v.ok=true:=fun v hv=>ARS hv
 rw[aD rfl Tryz.func190 rfl rfl,APQ hk];generalize exS a=A at *
 generalize exS b=B at *
 rcases hk with rfl|rfl
 ·simp[hea];rw[aS (CSX 8 a b A B) A.length (by simp[CSX,YV])]
  ·rw[aF];simp[CSX]
  ·intro i hi;have h3:=zX hi;have hm:=zV h3;generalize A[i]=v at h3 hm;have rA:=bS h3;have hv:vAt A i=v:=by simp[vAt,h3]
   have w2:IntKind.i64.wrap ((i:Int)+1)=i+1:=wrO;have hlow0:=ADI (k:=8) (r:=B) A i (by omega);have hsc:=ND (k:=8) (r:=B) h3
   have inner:∀ j,j<B.length→∃ w,B[j]?=some w∧w∈B∧fO (aO B) j=some [.bool w.null, .int w.n]∧vAt B j=w∧∃ m n:Nat,U2 8 v B (YV 8 A B i) j=m∧stV (Val.cmb 8 v w)=n∧m<8∧n<8∧U2 8 v B (YV 8 A B i) (j+1)=((m ||| n:Nat):Int)∧IntKind.i64.wrap ((m ||| n:Nat):Int)=((m ||| n:Nat):Int):=by
    intro j hj;have q3:=zX hj;obtain⟨m,hm1,hm2⟩:=JC (k:=8) (v:=v) B j hlow0;obtain⟨n,hn1,hn2⟩:=ZC (Val.cmb 8 v B[j]);refine⟨B[j],q3,xQ hj,bS q3,by simp[vAt,q3],m,n,hm1,hn1,hm2,hn2,?_,or8 hm2 hn2⟩;rw[YN q3,hm1,hn1,ZX]
   by_cases h0:i=0
   ·subst h0;simp[CSX,hi,rA,heb];rw[aS (CSI 8 a b A B 0) B.length (by simp[CSI,U2,hv,vBx])]
    ·rw[aF];simp[CSI,hbl,w2,hv,hsc,CSX,vBx]
    ·intro j hj;obtain⟨w,q3,qm,q4,q5,m,n,m1,n1,m2,n2,hn,hwr⟩:=inner j hj;have hcm:=p9 8 v w (oka v hm) (okb w qm);have hst:=mX (Val.cmb 8 v w).null (Val.cmb 8 v w).n;have w3:IntKind.i64.wrap ((j:Int)+1)=j+1:=wrO;rw[show stV ⟨(Val.cmb 8 v w).null,(Val.cmb 8 v w).n⟩=stV (Val.cmb 8 v w)from rfl,n1]at hst;by_cases j0:j=0
     ·subst j0;simp[CSI,hj,hv,q4,q5,vBx,m1,hcm,hst,NY m2,NY n2,hwr,hn]
     ·simp[CSI,hj,hv,q4,q5,vBx,m1,hcm,hst,NY m2,NY n2,hwr,hn,j0,w3]
   ·simp[CSX,hi,rA,heb,h0,I5 h0,vBx];rw[aS (CSI 8 a b A B i) B.length (by simp[CSI,U2,hv,vBx,I5 h0,h0])]
    ·rw[aF];simp[CSI,hbl,w2,hv,hsc,CSX,vBx]
    ·intro j hj;obtain⟨w,q3,qm,q4,q5,m,n,m1,n1,m2,n2,hn,hwr⟩:=inner j hj;have hcm:=p9 8 v w (oka v hm) (okb w qm);have hst:=mX (Val.cmb 8 v w).null (Val.cmb 8 v w).n;have w3:IntKind.i64.wrap ((j:Int)+1)=j+1:=wrO;rw[show stV ⟨(Val.cmb 8 v w).null,(Val.cmb 8 v w).n⟩=stV (Val.cmb 8 v w)from rfl,n1]at hst;by_cases j0:j=0
     ·subst j0;simp[CSI,hj,hv,q4,q5,vBx,m1,hcm,hst,NY m2,NY n2,hwr,hn,I5 h0,h0]
     ·simp[CSI,hj,hv,q4,q5,vBx,m1,hcm,hst,NY m2,NY n2,hwr,hn,j0,w3,I5 h0,h0]
 ·simp[hea];rw[aS (CSX 9 a b A B) A.length (by simp[CSX,YV])]
  ·rw[aF];simp[CSX]
  ·intro i hi;have h3:=zX hi;have hm:=zV h3;generalize A[i]=v at h3 hm;have rA:=bS h3;have hv:vAt A i=v:=by simp[vAt,h3]
   have w2:IntKind.i64.wrap ((i:Int)+1)=i+1:=wrO;have hlow0:=ADI (k:=9) (r:=B) A i (by omega);have hsc:=ND (k:=9) (r:=B) h3
   have inner:∀ j,j<B.length→∃ w,B[j]?=some w∧w∈B∧fO (aO B) j=some [.bool w.null, .int w.n]∧vAt B j=w∧∃ m n:Nat,U2 9 v B (YV 9 A B i) j=m∧stV (Val.cmb 9 v w)=n∧m<8∧n<8∧U2 9 v B (YV 9 A B i) (j+1)=((m ||| n:Nat):Int)∧IntKind.i64.wrap ((m ||| n:Nat):Int)=((m ||| n:Nat):Int):=by
    intro j hj;have q3:=zX hj;obtain⟨m,hm1,hm2⟩:=JC (k:=9) (v:=v) B j hlow0;obtain⟨n,hn1,hn2⟩:=ZC (Val.cmb 9 v B[j]);refine⟨B[j],q3,xQ hj,bS q3,by simp[vAt,q3],m,n,hm1,hn1,hm2,hn2,?_,or8 hm2 hn2⟩;rw[YN q3,hm1,hn1,ZX]
   by_cases h0:i=0
   ·subst h0;simp[CSX,hi,rA,heb];rw[aS (CSI 9 a b A B 0) B.length (by simp[CSI,U2,hv,vBx])]
    ·rw[aF];simp[CSI,hbl,w2,hv,hsc,CSX,vBx]
    ·intro j hj;obtain⟨w,q3,qm,q4,q5,m,n,m1,n1,m2,n2,hn,hwr⟩:=inner j hj;have hcm:=p9 9 v w (oka v hm) (okb w qm);have hst:=mX (Val.cmb 9 v w).null (Val.cmb 9 v w).n;have w3:IntKind.i64.wrap ((j:Int)+1)=j+1:=wrO;rw[show stV ⟨(Val.cmb 9 v w).null,(Val.cmb 9 v w).n⟩=stV (Val.cmb 9 v w)from rfl,n1]at hst;by_cases j0:j=0
     ·subst j0;simp[CSI,hj,hv,q4,q5,vBx,m1,hcm,hst,NY m2,NY n2,hwr,hn]
     ·simp[CSI,hj,hv,q4,q5,vBx,m1,hcm,hst,NY m2,NY n2,hwr,hn,j0,w3]
   ·simp[CSX,hi,rA,heb,h0,I5 h0,vBx];rw[aS (CSI 9 a b A B i) B.length (by simp[CSI,U2,hv,vBx,I5 h0,h0])]
    ·rw[aF];simp[CSI,hbl,w2,hv,hsc,CSX,vBx]
    ·intro j hj;obtain⟨w,q3,qm,q4,q5,m,n,m1,n1,m2,n2,hn,hwr⟩:=inner j hj;have hcm:=p9 9 v w (oka v hm) (okb w qm);have hst:=mX (Val.cmb 9 v w).null (Val.cmb 9 v w).n;have w3:IntKind.i64.wrap ((j:Int)+1)=j+1:=wrO;rw[show stV ⟨(Val.cmb 9 v w).null,(Val.cmb 9 v w).n⟩=stV (Val.cmb 9 v w)from rfl,n1]at hst;by_cases j0:j=0
     ·subst j0;simp[CSI,hj,hv,q4,q5,vBx,m1,hcm,hst,NY m2,NY n2,hwr,hn,I5 h0,h0]
     ·simp[CSI,hj,hv,q4,q5,vBx,m1,hcm,hst,NY m2,NY n2,hwr,hn,j0,w3,I5 h0,h0]
set_option maxHeartbeats 8000000
theorem AYT:∀ m n:Fin 8,((m.val ||| n.val) &&& 4=0∧kI (orS m.val n.val) 4=false)∨((m.val ||| n.val) &&& 4=4∧kI (orS m.val n.val) 4=true):=by decide
theorem RV {m n:Nat} (hm:m<8) (hn:n<8):((m ||| n) &&& 4=0∧kI (orS m n) 4=false)∨((m ||| n) &&& 4=4∧kI (orS m n) 4=true):=AYT ⟨m,hm⟩ ⟨n,hn⟩
theorem AU5:∀ m:Fin 8,(m.val &&& 18446744073709551611=0∧(kI m.val 1 || kI m.val 2)=false)∨((m.val &&& 18446744073709551611=1∨m.val &&& 18446744073709551611=2∨m.val &&& 18446744073709551611=3)∧(kI m.val 1 || kI m.val 2)=true):=by decide
theorem AJZ {m:Nat} (hm:m<8):∃ v:Nat,m &&& 18446744073709551611=v∧IntKind.i64.wrap (v:Int)=v∧((v=0∧(kI m 1 || kI m 2)=false)∨(¬ v=0∧(kI m 1 || kI m 2)=true)):=by
 rcases AU5 ⟨m,hm⟩with ⟨h,q⟩|⟨h|h|h,q⟩
 ·exact⟨0,h,by decide, .inl ⟨rfl,q⟩⟩
 ·exact⟨1,h,by decide, .inr ⟨by omega,q⟩⟩
 ·exact⟨2,h,by decide, .inr ⟨by omega,q⟩⟩
 ·exact⟨3,h,by decide, .inr ⟨by omega,q⟩⟩
theorem BV {k:Int} (hk:3≤k∧k≠8∧k≠9) {m n:Nat} (hm:m<8) (hn:n<8):aG C0 190 [.int k, .int m, .int n] []=some (.int (lU k m n),[]):=by
 rw[aD rfl Tryz.func190 rfl rfl];have h1:=NY hm;have h2:=NY hn;have h3:=or8 hm hn;have h4:(m ||| n) % 18446744073709551616=m ||| n:=NY (zD2 (n:=3) hm hn)
 obtain⟨x,x1,x2,x3⟩:=AJZ hm;obtain⟨y,y1,y2,y3⟩:=AJZ hn;have k8:¬ k=8:=hk.2.1;have k9:¬ k=9:=hk.2.2;have e7:orS 0 7=7:=by decide
 have e3:orS 0 3=3:=by decide
 have e47:orS 4 7=7:=by decide
 have e43:orS 4 3=7:=by decide
 have e40:orS 4 0=4:=by decide
 have e00:orS 0 0=0:=by decide
 by_cases k6:k<6
 ·have hk3:k=3∨k=4∨k=5:=by omega
  rcases hk3 with rfl|rfl|rfl
  ·rcases RV hm hn with ⟨p,q⟩|⟨p,q⟩
   ·rcases x3 with ⟨x3,x4⟩|⟨x3,x4⟩
    ·simp[h1,h2,h3,h4,p,x1,x2,x3,lU,q,x4,e00]
    ·rcases y3 with ⟨y3,y4⟩|⟨y3,y4⟩
     ·simp[h1,h2,h3,h4,p,x1,x2,x3,y1,y2,y3,lU,q,x4,y4,e00]
     ·simp[h1,h2,h3,h4,p,x1,x2,x3,y1,y2,y3,lU,q,x4,y4,e7,e3]
   ·rcases x3 with ⟨x3,x4⟩|⟨x3,x4⟩
    ·simp[h1,h2,h3,h4,p,x1,x2,x3,lU,q,x4,e40]
    ·rcases y3 with ⟨y3,y4⟩|⟨y3,y4⟩
     ·simp[h1,h2,h3,h4,p,x1,x2,x3,y1,y2,y3,lU,q,x4,y4,e40]
     ·simp[h1,h2,h3,h4,p,x1,x2,x3,y1,y2,y3,lU,q,x4,y4,e47,e43]
  ·rcases RV hm hn with ⟨p,q⟩|⟨p,q⟩
   ·rcases x3 with ⟨x3,x4⟩|⟨x3,x4⟩
    ·simp[h1,h2,h3,h4,p,x1,x2,x3,lU,q,x4,e00]
    ·rcases y3 with ⟨y3,y4⟩|⟨y3,y4⟩
     ·simp[h1,h2,h3,h4,p,x1,x2,x3,y1,y2,y3,lU,q,x4,y4,e00]
     ·simp[h1,h2,h3,h4,p,x1,x2,x3,y1,y2,y3,lU,q,x4,y4,e7,e3]
   ·rcases x3 with ⟨x3,x4⟩|⟨x3,x4⟩
    ·simp[h1,h2,h3,h4,p,x1,x2,x3,lU,q,x4,e40]
    ·rcases y3 with ⟨y3,y4⟩|⟨y3,y4⟩
     ·simp[h1,h2,h3,h4,p,x1,x2,x3,y1,y2,y3,lU,q,x4,y4,e40]
     ·simp[h1,h2,h3,h4,p,x1,x2,x3,y1,y2,y3,lU,q,x4,y4,e47,e43]
  ·rcases RV hm hn with ⟨p,q⟩|⟨p,q⟩
   ·rcases x3 with ⟨x3,x4⟩|⟨x3,x4⟩
    ·simp[h1,h2,h3,h4,p,x1,x2,x3,lU,q,x4,e00]
    ·rcases y3 with ⟨y3,y4⟩|⟨y3,y4⟩
     ·simp[h1,h2,h3,h4,p,x1,x2,x3,y1,y2,y3,lU,q,x4,y4,e00]
     ·simp[h1,h2,h3,h4,p,x1,x2,x3,y1,y2,y3,lU,q,x4,y4,e7,e3]
   ·rcases x3 with ⟨x3,x4⟩|⟨x3,x4⟩
    ·simp[h1,h2,h3,h4,p,x1,x2,x3,lU,q,x4,e40]
    ·rcases y3 with ⟨y3,y4⟩|⟨y3,y4⟩
     ·simp[h1,h2,h3,h4,p,x1,x2,x3,y1,y2,y3,lU,q,x4,y4,e40]
     ·simp[h1,h2,h3,h4,p,x1,x2,x3,y1,y2,y3,lU,q,x4,y4,e47,e43]
 ·have k3:¬ k=3:=by omega
  have k4:¬ k=4:=by omega
  have k5:¬ k=5:=by omega
  rcases RV hm hn with ⟨p,q⟩|⟨p,q⟩
  ·rcases x3 with ⟨x3,x4⟩|⟨x3,x4⟩
   ·simp[h1,h2,h3,h4,p,x1,x2,x3,lU,q,x4,e00,k3,k4,k5,k6,k8,k9]
   ·rcases y3 with ⟨y3,y4⟩|⟨y3,y4⟩
    ·simp[h1,h2,h3,h4,p,x1,x2,x3,y1,y2,y3,lU,q,x4,y4,e00,k3,k4,k5,k6,k8,k9]
    ·simp[h1,h2,h3,h4,p,x1,x2,x3,y1,y2,y3,lU,q,x4,y4,e7,e3,k3,k4,k5,k6,k8,k9]
  ·rcases x3 with ⟨x3,x4⟩|⟨x3,x4⟩
   ·simp[h1,h2,h3,h4,p,x1,x2,x3,lU,q,x4,e40,k3,k4,k5,k6,k8,k9]
   ·rcases y3 with ⟨y3,y4⟩|⟨y3,y4⟩
    ·simp[h1,h2,h3,h4,p,x1,x2,x3,y1,y2,y3,lU,q,x4,y4,e40,k3,k4,k5,k6,k8,k9]
    ·simp[h1,h2,h3,h4,p,x1,x2,x3,y1,y2,y3,lU,q,x4,y4,e47,e43,k3,k4,k5,k6,k8,k9]
end Go.Proofs.YtnmimmaahhlgeaaGreat.P
namespace Go.Av
theorem Ex.QW {w:Int} {e:Ex} (h:e.wf w=true):(e.kind=1∧0≤e.col∧e.col<w∧e.kids=[])∨(e.kind=2∧e.kids=[])∨((e.kind=10∨e.kind=11)∧∃ x,e.kids=[x]∧x.wf w=true)∨((3≤e.kind∧e.kind≤9)∧∃ x y,e.kids=[x,y]∧x.wf w=true∧y.wf w=true):=by
 have hk:∀ x∈e.kids,x.wf w=true:=fun x hx=>Ex.iU h hx
 by_cases h1:e.kind=1
 ·have:=Ex.pV h h1;exact .inl ⟨h1,this.1,this.2.1,this.2.2⟩
 rw[Ex.EO]at h;simp only[zU,zR]at h;have hl:=h.1;unfold dA at hl;split at hl
 ·rename_i hc;exact .inr (.inl ⟨by omega,zW.1 (by omega)⟩)
 ·split at hl
  ·rename_i hc;obtain⟨x,hx⟩:=J8 (show e.kids.length=1 by omega);exact .inr (.inr (.inl ⟨hc,x,hx,hk x (by simp[hx])⟩))
  ·split at hl
   ·rename_i hc;obtain⟨x,y,hx⟩:=SC (show e.kids.length=2 by omega);exact .inr (.inr (.inr ⟨hc,x,y,hx,hk x (by simp[hx]),hk y (by simp[hx])⟩))
   ·omega
theorem AJG {W:Int} (st:List Int) (hl:(st.length:Int)=W) (hs:∀ a∈st,okS a):∀ e:Ex,e.wf W=true→okS (NV st e):=by
 intro e
 induction e using Ex.ind with
 | h k c v ks ih =>
  intro hw;rw[RU]
  rcases Ex.QW hw with ⟨h1,h2,h3,h4⟩|⟨h1,h2⟩|⟨h1,x,h2,h3⟩|⟨h1,x,y,h2,h3,h4⟩
  ·rw[if_pos h1];generalize Ex.col (.mk k c v ks)=cc at *
   have hlt:cc.toNat<st.length:=by omega
   rw[zX hlt];exact hs _ (xQ hlt)
  ·rw[if_neg (by omega),if_pos h1];exact AHZ _
  ·have hx:=ih x (by simp only[Ex.kids]at h2;simp[h2]) h3;obtain⟨n,hn⟩:=yH (show 0≤NV st x by have:=hx.1;omega);have ht:=RY ⟨n,by have:=hx.2;omega⟩ (by have:=hx.1;simp;omega);rw[if_neg (by omega),if_neg (by omega),h2];simp only[List.getElem?_cons_zero,yM,zC,hn]
   rcases h1 with h1|h1
   ·rw[if_pos h1];exact ht.1
   ·rw[if_neg (by omega),if_pos h1];exact ht.2
  ·have hx:=ih x (by simp only[Ex.kids]at h2;simp[h2]) h3;have hy:=ih y (by simp only[Ex.kids]at h2;simp[h2]) h4;rw[if_neg (by omega),if_neg (by omega),if_neg (by omega),if_neg (by omega),h2];exact ALN hx hy
end Go.Av
namespace Go.Proofs.YtnmimmaahhlgeaaGreat.P
open Go Go.Av
set_option maxRecDepth 4000
set_option maxHeartbeats 8000000
theorem seven {a:Int} (h:okS a):a=1∨a=2∨a=3∨a=4∨a=5∨a=6∨a=7:=by have:=h.1;have:=h.2;omega
theorem AKL {k a b:Int} (hk:3≤k) (ha:okS a) (hb:okS b):aG C0 190 [.int k, .int a, .int b] []=some (.int (lU k a b),[]):=by
 by_cases h:k=8∨k=9
 ·exact EG h ha hb
 ·obtain⟨m,rfl⟩:=yH (show 0≤a by have:=ha.1;omega);obtain⟨n,rfl⟩:=yH (show 0≤b by have:=hb.1;omega);exact BV ⟨hk,by omega,by omega⟩ (by have:=ha.2;omega) (by have:=hb.2;omega)
theorem X8 {W:Int} (st:List Int) (hl:(st.length:Int)=W) (hs:∀ a∈st,okS a):∀ e:Ex,e.wf W=true→aG C0 159 [.i (.iref e.cells), .i (.isl (aH st))] []=some (.int (NV st e),[]):=by
 intro e
 induction e using Ex.ind with
 | h k c v ks ih =>
  intro hw;have hall:=AJG st hl hs;rw[aD rfl Tryz.func159 rfl rfl,Ex.aA,RU]
  rcases Ex.QW hw with ⟨h1,h2,h3,h4⟩|⟨h1,h2⟩|⟨h1,x,h2,h3⟩|⟨h1,x,y,h2,h3,h4⟩
  ·generalize Ex.mk k c v ks=e at *
   have hlt:e.col.toNat<st.length:=by omega
   have h5:=zX hlt;generalize st[e.col.toNat]=s at h5;have r2:=dH h5;obtain⟨_,h6⟩:=zY.1 h5;simp[h1,h2,r2,h6,show e.col<st.length by omega]
  ·generalize Ex.mk k c v ks=e at *
   have hst:=mX e.val.null e.val.n;simp[h1,hst]
  ·have hx:=ih x (by simp only[Ex.kids]at h2;simp[h2]) h3;have ho:=hall x h3;generalize Ex.mk k c v ks=e at *
   generalize hso:NV st x=s at hx ho;rw[Ex.aA]at hx
   rcases h1 with h1|h1
   ·rcases seven ho with rfl|rfl|rfl|rfl|rfl|rfl|rfl<;>(simp[h1,h2,Ex.aB,Ex.aA x,hx,hso];try decide)
   ·rcases seven ho with rfl|rfl|rfl|rfl|rfl|rfl|rfl<;>(simp[h1,h2,Ex.aB,Ex.aA x,hx,hso];try decide)
  ·have hx:=ih x (by simp only[Ex.kids]at h2;simp[h2]) h3;have hy:=ih y (by simp only[Ex.kids]at h2;simp[h2]) h4;have ho:=hall x h3;have hp:=hall y h4;generalize Ex.mk k c v ks=e at *
   have hc:=AKL (k:=e.kind) h1.1 ho hp;generalize hso:NV st x=s at hx ho hc;generalize hto:NV st y=t at hy hp hc;rw[Ex.aA]at hx hy;have q1:¬ e.kind=1:=by omega
   have q2:¬ e.kind=2:=by omega
   have q3:¬ e.kind=10:=by omega
   have q4:¬ e.kind=11:=by omega
   simp[q1,q2,q3,q4,h2,Ex.aB,Ex.aA x,Ex.aA y,hx,hy,hc,hso,hto]
end Go.Proofs.YtnmimmaahhlgeaaGreat.P
namespace Go.Av
theorem AKJ (n:Nat) (x:Int):aH (List.replicate n x)=List.replicate n [.int x]:=by
 induction n with
 | zero=>rfl
 | succ n ih=>simp[xO,aH,ih]
def st1 (n i:Nat):List Int:=List.replicate i 7++List.replicate (n-i) 0
def st2 (p m i:Nat):List Int:=List.replicate p 7++(List.replicate i 4++List.replicate (m-i) 7)
theorem AIP {a b:Int} {n i:Nat} (h:i<n):(List.replicate i a++List.replicate (n-i) b)[i]?=some b:=by
 rw[zN (by simp)];have:0<n-i:=by omega
 simp[List.getElem?_replicate,this]
theorem AIO {a b:Int} {n i:Nat} (h:i<n):(List.replicate i a++List.replicate (n-i) b).set i a=List.replicate (i+1) a++List.replicate (n-(i+1)) b:=by
 rw[zB6 _ _ (by simp)];rw[show n-i=(n-(i+1))+1 by omega,xO,List.replicate_succ'];simp
theorem AT9 {n i:Nat} (h:i<n):(st1 n i)[i]?=some 0:=AIP h
theorem AT8 {n i:Nat} (h:i<n):(st1 n i).set i 7=st1 n (i+1):=AIO h
theorem AT6 {p m i:Nat} (h:i<m):(st2 p m i)[p+i]?=some 7:=by
 unfold st2;rw[zN (by simp)];simpa using AIP (a:=4) (b:=7) h
theorem AT5 {p m i:Nat} (h:i<m):(st2 p m i).set (p+i) 4=st2 p m (i+1):=by
 unfold st2;rw[zB6 _ _ (by simp)];simp only[zB3,xM];rw[AIO h]
theorem ATA {p m:Nat}:st1 (p+m) (p+m)=st2 p m 0:=by
 simp[st1,st2,List.replicate_append_replicate]
theorem AT7 (p m:Nat):st2 p m m=A8 ((p+m:Nat):Int) p:=by
 unfold st2 A8;apply zF4;intro i;simp only[zG6,List.replicate_zero,y9,zD4,zJ];by_cases h:i<p
 ·rw[zM (by simpa using h)];simp[h,show i<p+m by omega]
 ·rw[zN (by simp;omega)];by_cases h2:i<p+m
  ·simp[h2,show i-p<m by omega,show p≤i by omega]
  ·simp[h2,show ¬ i-p<m by omega]
@[simp] theorem AEC {p m i:Nat} (h:i≤m):(st2 p m i).length=p+m:=by simp[st2];omega
def BX (p m:Nat):List Int:=(List.range m).map fun(i:Nat)=>((p+i:Nat):Int)
@[simp] theorem AS2 (p m:Nat):(BX p m).length=m:=by simp[BX]
theorem ALI {p m i:Nat} (h:i<m):(BX p m)[i]?=some ((p+i:Nat):Int):=by simp[BX,h]
theorem AGC (p m:Nat):BX p (m+1)=BX p m++[((p+m:Nat):Int)]:=by simp[BX,zG7]
theorem AC5 (W left:Int):∀ a∈A8 W left,okS a:=by
 intro a ha;unfold A8 at ha;obtain⟨i,-,rfl⟩:=zG.1 ha;unfold okS;split<;>omega
theorem WH (W left:Int):(A8 W left).length=W.toNat:=by simp[A8]
theorem ASR:∀ a:Fin 8,(a.val &&& 2=0∧kI a.val 2=false)∨(a.val &&& 2=2∧kI a.val 2=true):=by decide
end Go.Av
namespace Go.Proofs.YtnmimmaahhlgeaaGreat.P
open Go Go.Av
set_option maxRecDepth 4000
set_option maxHeartbeats 8000000
def RJ1 (e:Ex) (l:List Int) (n:Nat) (i:Nat):AS :=
 { env:=[(0, .i (.agg [.int e.kind, .int e.col, .bool e.val.null, .int e.val.n, .isl (Ex.aB e.kids)])),(1, .int n),(2, .i (.isl (aH l))),(3, .own 0 0),(6, .bool false),(7, .osl 1 1 0 n),(8,jk i (.int (i-1))),(10, .junk),(14, .bool false),(18, .int n),(19, .int i),(20,jk i (.bool true)),(26, .junk),(27, .junk),(28, .junk),(29, .junk),(38, .junk)],
   st:=[some (.box [.int e.kind, .int e.col, .bool e.val.null, .int e.val.n, .i (.isl (Ex.aB e.kids))]),some (.arr 1 (aH (st1 n i)))] }
def RJ2 (e:Ex) (n p m:Nat) (i:Nat):AS :=
 { env:=[(0, .i (.agg [.int e.kind, .int e.col, .bool e.val.null, .int e.val.n, .isl (Ex.aB e.kids)])),(1, .int n),(2, .i (.isl (aH (BX p m)))),(3, .own 0 0),(6, .bool false),(7, .osl 1 1 0 n),(8, .int (n-1)),(10,jk i (.int ((p:Int)+i-1))),(14, .bool false),(18, .int n),(19, .int n),(20, .bool false),(26, .i (.isl (aH (BX p m)))),(27, .int m),(28, .int i),(29,jk i (.bool true)),(38,jk i (.bool true))],
   st:=[some (.box [.int e.kind, .int e.col, .bool e.val.null, .int e.val.n, .i (.isl (Ex.aB e.kids))]),some (.arr 1 (aH (st2 p m i)))] }
theorem AA7 (e:Ex) {n p m:Nat} (hn:n=p+m) (h:e.ok n=true):aG C0 114 [.i (.agg e.cells), .int n, .i (.isl (aH (BX p m)))] []=some (.bool (AR7 e n p),[]):=by
 have hok:=ok_eq n e;rw[h]at hok;obtain⟨hw,g1,g2⟩:=Ex.vF h;have hlen:((A8 n p).length:Int)=(n:Int):=by rw[WH];omega
 have ho:=X8 (A8 n p) hlen (AC5 _ _) e hw;have hs:=AJG (A8 n p) hlen (AC5 _ _) e hw;rw[aD rfl Tryz.func114 rfl rfl];unfold AR7;generalize NV (A8 n p) e=s at ho hs;obtain⟨s,rfl⟩:=yH (show 0≤s by have:=hs.1;omega);have hs8:s<8:=by have:=hs.2;omega
 have hall:=AT7 p m;rw[← hn]at hall;rw[← hall]at ho;rw[Ex.aA]at *
 have hb:8*(n:Int)≤281474976710656:=by omega
 have hz:=AKJ n 0;have hz1:st1 n 0=List.replicate n 0:=by simp[st1]
 have hs1:st1 n n=st2 p m 0:=by rw[hn];exact ATA
 have hl2:∀ i,i≤m→(st2 p m i).length=n:=fun i hi=>by rw[AEC hi,hn]
 have hl3:(st2 p m m).take n=st2 p m m:=zZ (by rw[hl2 m (zL m)];exact zL n);simp[hok,hb];rw[aS (RJ1 e (BX p m) n) n (by simp[RJ1,hz1,hz])]
 ·rw[aF];simp[RJ1];rw[aS (RJ2 e n p m) m (by simp[RJ2,hs1,dR (show n≠0 by omega)])]
  ·rw[aF];have h2:=ASR ⟨s,hs8⟩
   rcases h2 with ⟨h2,h3⟩|⟨h2,h3⟩
   ·simp at h2 h3;simp[RJ2,ho,NY hs8,h2,h3,hl2,hl3]
   ·simp at h2 h3;simp[RJ2,ho,NY hs8,h2,h3,hl2,hl3]
  ·intro i hi;have h3:=ALI (p:=p) hi;have r2:=dH h3;have r3:=dH (AT6 (p:=p) hi);have hset:=AT5 (p:=p) hi;have hin:((p:Int)+i)<n:=by omega
   have hl:=hl2 i (by omega);have hin2:p+i<n:=by omega
   have hin0:0≤(p:Int)+i:=by omega
   have w2:IntKind.i64.wrap ((i:Int)+1)=i+1:=wrO;simp[RJ2,hi,r2,r3,w2,EA,hset,hin,hin0,hl,show((p:Int)+i).toNat=p+i by omega];omega
 ·intro i hi;have r3:=dH (AT9 hi);have hset:=AT8 hi;have w2:IntKind.i64.wrap ((i:Int)+1)=i+1:=wrO;simp[RJ1,hi,r3,w2,EA,hset]
end Go.Proofs.YtnmimmaahhlgeaaGreat.P
namespace Go.Av
end Go.Av
namespace Go.Proofs.YtnmimmaahhlgeaaGreat.P
open Go Go.Av
set_option maxRecDepth 4000
set_option maxHeartbeats 8000000
end Go.Proofs.YtnmimmaahhlgeaaGreat.P
namespace Go.Av
end Go.Av
namespace Go.Proofs.YtnmimmaahhlgeaaGreat.P
open Go Go.Av
set_option maxRecDepth 4000
set_option maxHeartbeats 8000000
@[simp] theorem wr8:IntKind.i64.wrap 8=8:=by decide
end Go.Proofs.YtnmimmaahhlgeaaGreat.P

/- Part 4 of what the proof rests on: the executor and what it is worth, and the program's functions as it runs them. No condition. -/
import Derived.Test.YtjdfjgmebalaaaaGreatT3
set_option linter.unusedVariables false
set_option linter.unusedSimpArgs false
namespace Go.Av
section
variable {wi:World} {mi:Mem} {nt:Nat}
theorem GR.AYC {ok:Nat→Prop} {R:World→Mem→Pl→Prop} {env:Nat→AV} {st:Store} {a:Act} {w:World} {u bq oq:Nat} {cs:List IV} (h:GR wi mi nt ok R env st a w) (hu:env u=.i (.lit (.pointer (some ⟨bq,oq,none⟩)))) (hc:IAt mi bq oq cs):GR wi mi nt ok R (upd env u (.i (.iref cs))) st a w:=by
 refine h.turn fun m φ h1 h2 h3 h4 h5=>⟨m,φ,h1,fun t=>?_,h3,h4,h5⟩
 by_cases ht:t=u
 ·subst ht;have:=h2 t;rw[hu]at this;simp only[upd,if_true];rw[this.cB];exact .i (.iref (hc.mono h3.mle))
 ·simp only[upd,ht,if_false];exact h2 t
end
theorem AtP.see {w:World} {m:Mem} {x:Pn} {b o:Nat} {F:List Nat} {path:List Int} {y:Pn} {bq oq:Nat} {Fa Fy Fz:List Nat} (h:AtP w m x b o F path y bq oq Fa Fy Fz):∃ v0 v1 v2 v3 ao cap,IAt (iV w) bq oq [.lit v0, .lit v1, .lit v2, .lit v3, .lit (.slice ao y.kids.length cap)]∧w.cell? ⟨bq,oq+4,none⟩=some (.slice ao y.kids.length cap):=by
 obtain⟨v0,v1,v2,v3,v4,h5,hone,⟨ao,cap,rfl⟩,_,_⟩:=h.th.cells;exact⟨v0,v1,v2,v3,ao,cap, .cons h5.c0 (.lit _) (hone _ (by simp)) (.cons h5.c1 (.lit _) (hone _ (by simp)) (.cons h5.c2 (.lit _) (hone _ (by simp)) (.cons h5.c3 (.lit _) (hone _ (by simp)) (.cons h5.c4 (.lit _) (hone _ (by simp)) (.nil _ _))))),h5.c4⟩
end Go.Av
namespace Go.Proofs.YtjdfjgmebalaaaaGreat.G
open Go Go.Av
set_option maxRecDepth 4000
set_option maxHeartbeats 4000000
def AEV (v0:AV) (path:List Int) (v6 v13 v26:AV) (i:Nat):List (Nat×AV):=[(0,v0),(1, .i (.isl (aG path))),(4, .i (.lit (.pointer none))),(6,v6),(9, .bool false),(10, .i (.isl (aG path))),(11, .int path.length),(12, .int i),(13,v13),(26,v26)]
theorem ASV (v0 v0':AV) (path:List Int) (v6 v13 v26:AV) (i:Nat):upd (aX (AEV v0 path v6 v13 v26 i)) 0 v0'=aX (AEV v0' path v6 v13 v26 i):=by
 funext t;simp only[upd,AEV,aX];by_cases h0:t=0
 ·subst h0;simp
 ·simp only[h0,if_false]
theorem AK4 {w:World} {m:Mem} {p y:Pn} {root:Nat} {F:List Nat} {path:List Int} (hth:TH w m p root 0 F []) (hr:root ∉ F) (hn:F.Nodup) (hy:Pn.at path p=some y) (hl:path.length≤8) {vs:List Value} (hvs:RepL (iV w) (fun _=>none) [.i (.lit (.pointer (some ⟨root,0,none⟩))), .i (.isl (aG path))] vs) :
 Calls Tryz.prog 69 vs.toArray w fun e w'=>∃ bq oq Fa Fy Fz m',e=.returned (.pointer (some ⟨bq,oq,none⟩))∧AtP w m p root 0 F path y bq oq Fa Fy Fz∧nI w' m'∧Adv w (iV w) (fun _=>none) w' m' (fun _=>none):=by
 refine calls_of_wp (fn:=Tryz.f69) Tryz.func69 rfl ?_;have hv1:vs.length=2:=by simpa using hvs.length.symm
 have g0:GR w (iV w) 35 (fun id=>id<({ env:=[(0, .i (.lit (.pointer (some ⟨root,0,none⟩)))),(1, .i (.isl (aG path)))],st:=[] }:AS).st.length) (fun _ _ _=>True) (aX [(0, .i (.lit (.pointer (some ⟨root,0,none⟩)))),(1, .i (.isl (aG path)))]) (bJ []) { tmps:=vs.toArray++Array.replicate (35-vs.toArray.size) undef,defers:=[] } w:=by
  refine⟨⟨iV w,fun _=>none,inv0 w,?_, .refl _ _ _,fun id h=>absurd rfl h,trivial⟩,by simp;omega,rfl⟩;intro t;have:=nA (m:=iV w) (φ:=fun _=>none) (35-vs.toArray.size) hvs t
  rcases t with _|_|t
  ·simpa [aX,uO]using this
  ·simpa [aX,uO]using this
  ·simp only[aX];simp;exact .junk _
 refine wp_seq (wp_mono (GR.gU jT (G:=GS 69) (S:={ env:=[(0, .i (.lit (.pointer (some ⟨root,0,none⟩)))),(1, .i (.isl (aG path)))],st:=[] }) (e:=.normal) (S':={ env:=[(0, .i (.lit (.pointer (some ⟨root,0,none⟩)))),(1, .i (.isl (aG path))),(4, .i (.lit (.pointer none))),(6, .junk),(9, .junk),(10, .junk),(11, .junk),(12, .junk),(13, .junk),(26, .junk)],st:=[] }) mM (by kernel_rfl) (by simp) g0) ?_);rintro _ a1 w1 ⟨rfl,g1⟩;have hle:¬ (8:Int)<path.length:=by omega
 refine wp_seq (wp_mono (GR.gU jT (G:=GS 69) (S:={ env:=[(0, .i (.lit (.pointer (some ⟨root,0,none⟩)))),(1, .i (.isl (aG path))),(4, .i (.lit (.pointer none))),(6, .junk),(9, .junk),(10, .junk),(11, .junk),(12, .junk),(13, .junk),(26, .junk)],st:=[] }) (e:=.normal) (S':={ env:=[(0, .i (.lit (.pointer (some ⟨root,0,none⟩)))),(1, .i (.isl (aG path))),(4, .i (.lit (.pointer none))),(6, .junk),(9, .bool false),(10, .junk),(11, .junk),(12, .junk),(13, .junk),(26, .junk)],st:=[] }) mM (by kernel_rfl) (by simp[hle]) g1) ?_);rintro _ a2 w2 ⟨rfl,g2⟩;refine wp_seq (wp_seq (wp_mono (GR.gU jT (G:=GS 69) (S:={ env:=[(0, .i (.lit (.pointer (some ⟨root,0,none⟩)))),(1, .i (.isl (aG path))),(4, .i (.lit (.pointer none))),(6, .junk),(9, .bool false),(10, .junk),(11, .junk),(12, .junk),(13, .junk),(26, .junk)],st:=[] }) (e:=.normal) (S':={ env:=AEV (.i (.lit (.pointer (some ⟨root,0,none⟩)))) path .junk .junk .junk 0,st:=[] }) mM (by kernel_rfl) (by simp[AEV]) g2) ?_));rintro _ a3 w3 ⟨rfl,g3⟩;clear g0 g1 g2;refine wp_block ?_;refine EW (fun n a w'=>∃ (i:Nat) (z:Pn) (bq oq:Nat) (Fa Fy Fz:List Nat),n=path.length-i∧i≤path.length∧AtP w m p root 0 F (path.take i) z bq oq Fa Fy Fz∧GR w (iV w) 35 (fun id=>id<0) (fun _ _ _=>True) (aX (AEV (.i (.lit (.pointer (some ⟨bq,oq,none⟩)))) path .junk .junk .junk i)) (bJ []) a w') ?_ (n:=path.length) ⟨0,p,root,0,[],F,[],by omega,by omega,by simpa using AtP.start hth hr hn,g3⟩;clear g3;rintro n a w' ⟨i,z,bq,oq,Fa,Fy,Fz,rfl,hi,hat,g⟩;by_cases hi2:i=path.length
 ·subst hi2;rw[xY]at hat;have hz:z=y:=by have:=hat.is;rw[hy]at this;injection this with this;exact this.symm
  subst hz;refine wp_mono (GR.gU jT (G:=GS 69) (S:={ env:=AEV (.i (.lit (.pointer (some ⟨bq,oq,none⟩)))) path .junk .junk .junk path.length,st:=[] }) (e:=.exit 0) (S':={ env:=AEV (.i (.lit (.pointer (some ⟨bq,oq,none⟩)))) path .junk (.bool false) .junk path.length,st:=[] }) mM (by kernel_rfl) (by simp[AEV]) g) ?_;rintro _ a5 w5 ⟨rfl,g5⟩;simp only[mY,Exit.then,Exit.inBlock,if_true];refine wp_mono (GR.gU jT (G:=GS 69) (S:={ env:=AEV (.i (.lit (.pointer (some ⟨bq,oq,none⟩)))) path .junk (.bool false) .junk path.length,st:=[] }) (e:=.ret) (S':={ env:=[(0, .i (.lit (.pointer (some ⟨bq,oq,none⟩)))),(1, .i (.isl (aG path))),(4, .i (.lit (.pointer (some ⟨bq,oq,none⟩)))),(6, .junk),(9, .bool false),(10, .i (.isl (aG path))),(11, .int path.length),(12, .int path.length),(13, .bool false),(26, .junk)],st:=[] }) mM (by kernel_rfl) (by simp[AEV]) g5) ?_;rintro _ a6 w6 ⟨rfl,g6⟩;obtain⟨⟨m2,φ2,q1,q2,q3,q4,q5⟩,q6,q7⟩:=g6
  have hφ:φ2=fun _=>none:=by
   funext id
   cases h:φ2 id with
   | none=>rfl
   | some p=>exact absurd (q4 id (by rw[h];simp)) (xK _)
  subst hφ
  obtain⟨v,k1,k2⟩:=gY (C:=C2) (fn:=Tryz.f69) (keep:=false) (na:=0) (S:={ env:=[(0, .i (.lit (.pointer (some ⟨bq,oq,none⟩)))),(1, .i (.isl (aG path))),(4, .i (.lit (.pointer (some ⟨bq,oq,none⟩)))),(6, .junk),(9, .bool false),(10, .i (.isl (aG path))),(11, .int path.length),(12, .int path.length),(13, .bool false),(26, .junk)],st:=[] }) (r:=.i (.lit (.pointer (some ⟨bq,oq,none⟩)))) (stl':=[]) (fun id h=>absurd rfl h) ⟨⟨⟨m2,fun _=>none,q1,q2,q3,q4, .nil _ _ _⟩,q6,q7⟩,zA4 _⟩ (by
   show finish C2 false [ResultVar.tmp 4] 0 _=_
   simp)
  have hv:v=.pointer (some ⟨bq,oq,none⟩):=by
   obtain⟨_,_,_,e,r,_⟩:=k2;injection e with e;subst e;exact r.cB
  subst hv;exact⟨q7,_,k1,bq,oq,Fa,Fy,Fz,m2,rfl,hat,q1.mem,q3⟩
 ·have hi3:i<path.length:=by omega
  have q1:=zX hi3
  have hsplit:path=path.take i++path[i]::path.drop (i+1):=by
   rw[← List.drop_eq_getElem_cons hi3,yI]
  have hr2:Pn.at (path[i]::path.drop (i+1)) z=some y:=by
   rw[hsplit]at hy
   rwa [tO _ _ _ _ hat.is]at hy
  obtain⟨x,hx,zk,hk1,hk2⟩:=Pn.qU hr2;obtain⟨b',cap,hc1,hc2,Fa',Fy',Fz',hat'⟩:=hat.step hk1;obtain⟨v0,v1,v2,v3,ao,cap',hsee,hsee2⟩:=hat.see;rw[hc1]at hsee2;injection hsee2 with hsee2;injection hsee2 with e1 _ e3;subst e1;subst e3;have htk:path.take i++[(x:Int)]=path.take (i+1):=by rw[← hx,List.take_add_one,q1];rfl
  rw[htk]at hat';have r1:=aT q1;rw[hx]at r1;have hxl:x<z.kids.length:=(zZ.1 hk1).1;have g1:=g.AYC (u:=0) rfl hsee;rw[ASV]at g1;have w2:IntKind.i64.wrap ((i:Int)+1)=i+1:=wrO
  refine wp_mono (GR.gU jT (G:=GS 69) (S:={ env:=AEV (.i (.iref [.lit v0, .lit v1, .lit v2, .lit v3, .lit (.slice (some ⟨b',0,none⟩) z.kids.length cap)])) path .junk .junk .junk i,st:=[] }) (e:=.normal) (S':={ env:=AEV (.i (.lit (.pointer (some ⟨b',x*5,none⟩)))) path (.int x) (.bool true) (.bool false) (i+1),st:=[] }) mM (by kernel_rfl) (by
   have n1:¬ (x:Int)<0:=by omega
   have n2:¬ z.kids.length≤x:=by omega
   simp[AEV,hi3,r1,hxl,w2,n1,n2]) g1) ?_
  rintro _ a5 w5 ⟨rfl,g5⟩;simp only[mY,Exit.then,Exit.inBlock];refine⟨path.length-(i+1),by omega,i+1,zk,b',5*x,Fa',Fy',Fz',rfl,by omega,hat',?_⟩;rw[zC 5 x]
  exact g5.envTo (by
   intro t;simp only[AEV,aX];by_cases h6:t=6
   ·subst h6;simp
   by_cases h13:t=13
   ·subst h13;simp
   by_cases h26:t=26
   ·subst h26;simp
   simp[h6,h13,h26])
end Go.Proofs.YtjdfjgmebalaaaaGreat.G
namespace Go.Av
theorem H8:∀ (l:List Int) (i:Nat) (x:Int),(aG l).set i [.int x]=aG (l.set i x)
 | [],i,x=>by simp[aG]
 | a::l,0,x=>by simp[aG]
 | a::l,i+1,x=>by simp[aG,H8 l i x]
end Go.Av
namespace Go.Proofs.YtjdfjgmebalaaaaGreat
open Go Go.Av
set_option maxHeartbeats 4000000
set_option maxRecDepth 4000
theorem AUX {S:Int} (h0:0≤S) (h1:S<4611686018427387904):0≤IntKind.i64.wrap ((((S % 2 ^ IntKind.i64.bits).toNat ^^^ (IntKind.i64.wrap (S.tdiv 64) % 2 ^ IntKind.i64.bits).toNat:Nat)):Int):=by
 have e1:0≤S.tdiv 64:=Int.tdiv_nonneg h0 (by omega);have e2:S.tdiv 64≤S:=Int.tdiv_le_self _ h0;have e3:IntKind.i64.wrap (S.tdiv 64)=S.tdiv 64:=wrO
 have e4:∀ T:Int,0≤T→T<4611686018427387904→(T % 2 ^ IntKind.i64.bits).toNat<2 ^ 62:=fun T k1 k2=>by
  have:T % 2 ^ IntKind.i64.bits=T:=Int.emod_eq_of_lt k1 (by simp[IntKind.bits];omega);rw[this];omega
 rw[e3];have:=Nat.xor_lt_two_pow (e4 S h0 h1) (e4 (S.tdiv 64) e1 (by omega));rw[wrO];omega
theorem bC (l:List UInt8) (p n:Int) (h0:0≤p) (h1:p<1000000000) (hl:l.length≤2000):∃ v,aH C0 127 [.own 0 0, .int n] [Rd l p]=some (.int v,[Rd l (p+1)])∧(1≤n→0≤v∧v<n)∧(n<1→v=0):=by
 have hw:IntKind.i64.wrap (p+1)=p+1:=wrO;have hw':IntKind.i64.wrap p=p:=wrO;by_cases hn:n<1
 ·refine⟨0,?_,by omega,fun _=>rfl⟩;rw[aD rfl Tryz.func127 rfl rfl];simp[Rd,hw,hn]
 by_cases he:l=[]
 ·refine⟨0,?_,by omega,fun _=>rfl⟩;rw[aD rfl Tryz.func127 rfl rfl];subst he;simp[Rd,hw,hn]
 have hlen:0<l.length:=zB1.2 he;have hn0:n≠0:=by omega
 have hn1:(n != 0)=true:=by simp[hn0]
 by_cases hk:p<l.length
 ·obtain⟨x,hx1,hx2⟩:=uJ (l:=l) (j:=p.toNat) (by omega);have hwx:IntKind.i64.wrap (x:Int)=x:=wrO;refine⟨(x:Int).tmod n,?_,fun _=>⟨Int.tmod_nonneg _ (by omega),xX _ (by omega)⟩,by omega⟩;rw[aD rfl Tryz.func127 rfl rfl];simp[Rd,hw,hw',hn,hk,he,h0,eQ,hx2,hn1,hwx]
 ·obtain⟨x,hx1,hx2⟩:=uJ (l:=l) (j:=(p.tmod l.length).toNat) (by have:=xX p (b:=l.length) (by omega);omega);obtain⟨y,hy1,hy2⟩:=uJ (l:=l) (j:=((p*7+3).tmod l.length).toNat) (by have:=xX (p*7+3) (b:=l.length) (by omega);omega);have a1:0≤p.tmod l.length:=Int.tmod_nonneg _ h0;have a2:p.tmod l.length<l.length:=xX _ (by omega);have a3:0≤(p*7+3).tmod l.length:=Int.tmod_nonneg _ (by omega);have a4:(p*7+3).tmod l.length<l.length:=xX _ (by omega);have w7:IntKind.i64.wrap (p*7)=p*7:=wrO;have w8:IntKind.i64.wrap (p*7+3)=p*7+3:=wrO;have hwx:IntKind.i64.wrap (x:Int)=x:=wrO;have hwy:IntKind.i64.wrap (y:Int)=y:=wrO;have hl1:((l.length:Int) != 0)=true:=by simp[he]
  rw[aD rfl Tryz.func127 rfl rfl];have d1:0≤p.tdiv l.length:=Int.tdiv_nonneg h0 (by omega);have d2:p.tdiv l.length≤p:=Int.tdiv_le_self _ h0;have w1:IntKind.i64.wrap ((x:Int)*131)=x*131:=wrO;have w2:IntKind.i64.wrap ((y:Int)*1117)=y*1117:=wrO;have w3:IntKind.i64.wrap (p*29)=p*29:=wrO;have w4:IntKind.i64.wrap (p.tdiv l.length)=p.tdiv l.length:=wrO;have w5:IntKind.i64.wrap (p.tdiv l.length*53)=p.tdiv l.length*53:=wrO;have w6:IntKind.i64.wrap ((x:Int)*131+y*1117)=x*131+y*1117:=wrO;have w9:IntKind.i64.wrap ((x:Int)*131+y*1117+p*29)=x*131+y*1117+p*29:=wrO;have wA:IntKind.i64.wrap ((x:Int)*131+y*1117+p*29+p.tdiv l.length*53)=x*131+y*1117+p*29+p.tdiv l.length*53:=wrO;simp[Rd,hw,hw',hn,hk,he,eQ,hx2,hy2,hn1,hwx,hwy,w7,w8,hl1,a1,a2,a3,a4,w1,w2,w3,w4,w5,w6,w9,wA];intro hn2;have hx:=AUX (S:=x*131+y*1117+p*29+p.tdiv l.length*53) (by omega) (by omega);exact⟨Int.tmod_nonneg _ hx,xX _ (by omega)⟩
theorem SY (n:Int):n=1∨n=2∨n=3∨n=4∨n=5∨n=6∨n=7∨n=8∨n=9∨n=10∨n=11∨(n≠1∧n≠2∧n≠3∧n≠4∧n≠5∧n≠6∧n≠7∧n≠8∧n≠9∧n≠10∧n≠11):=by omega
@[simp] theorem AJ4 (n:Int):aH C0 205 [.int n] []=some (.int (bU n),[]):=by
  rw[aD rfl Tryz.func205 rfl rfl]
  rcases SY n with rfl|rfl|rfl|rfl|rfl|rfl|rfl|rfl|rfl|rfl|rfl|⟨h1,h2,h3,h4,h5,h6,h7,h8,h9,h10,h11⟩
  all_goals first
   | (simp[bU];done)
   | (have e:bU n=-1:=by
       unfold bU;rw[if_neg (by omega),if_neg (by omega),if_neg (by omega)]
      simp[e,h1,h2,h3,h4,h5,h6,h7,h8,h9,h10,h11])
@[simp] theorem ASB (n:Int):aH C0 192 [.int n] []=some (.int (bU n),[]):=by
  rw[aD rfl Tryz.func192 rfl rfl]
  rcases SY n with rfl|rfl|rfl|rfl|rfl|rfl|rfl|rfl|rfl|rfl|rfl|⟨h1,h2,h3,h4,h5,h6,h7,h8,h9,h10,h11⟩
  all_goals first
   | (simp[bU];done)
   | (have e:bU n=-1:=by
       unfold bU;rw[if_neg (by omega),if_neg (by omega),if_neg (by omega)]
      simp[e,h1,h2,h3,h4,h5,h6,h7,h8,h9,h10,h11])
@[simp] theorem MW (n:Int):aH C0 143 [.int n] []=some (.bool (bE n),[]):=by
  rw[aD rfl Tryz.func143 rfl rfl];by_cases h1:1≤n<;>by_cases h2:n≤6<;>simp[bE,h1,h2]
@[simp] theorem LU (n a b:Int):aH C0 132 [.int n, .int a, .int b] []=some (.bool (decide (a≤n∧n≤b)),[]):=by
  rw[aD rfl Tryz.func132 rfl rfl];by_cases h1:a≤n<;>by_cases h2:n≤b<;>simp[h1,h2]
@[simp] theorem valid_eq (b:Bool) (n:Int):aH C0 206 [.i (.agg [.bool b, .int n])] []=some (.bool (Val.ok ⟨b,n⟩),[]):=by
  rw[aD rfl Tryz.func206 rfl rfl]
  cases b
  ·by_cases h1:-9999≤n<;>by_cases h2:n≤9999<;>simp[Val.ok,h1,h2]
  ·by_cases h1:n=0<;>simp[Val.ok,h1]
@[simp] theorem AHQ (b:Bool) (n:Int):aH C0 193 [.i (.agg [.bool b, .int n])] []=some (.bool (Val.ok ⟨b,n⟩),[]):=by
  rw[aD rfl Tryz.func193 rfl rfl]
  cases b
  ·by_cases h1:-9999≤n<;>by_cases h2:n≤9999<;>simp[Val.ok,h1,h2]
  ·by_cases h1:n=0
   ·subst h1;simp[Val.ok]
   ·by_cases h2:-9999≤n<;>by_cases h3:n≤9999<;>simp[Val.ok,h1,h2,h3]
@[simp] theorem WN (v:Val):aH C0 199 [.i (.agg [.bool v.null, .int v.n])] []=some (.i (.agg (Ex.mk 2 0 v []).cells),[]):=by
  rw[aD rfl Tryz.func199 rfl rfl];simp[Ex.cells,Ex.aB]
theorem AKI {e:Ex} {w:Int} (n:Nat) (hk:¬ (e.kids.length:Int)=bU e.kind):aH C0 195 [.i (.iref e.cells), .int w, .int n] []=some (.bool false,[]):=by
 rw[aD rfl Tryz.func195 rfl rfl,Ex.aA];simp[Ex.aY,hk]
theorem AM9 {e:Ex} {w:Int} (hk:(e.kids.length:Int)=bU e.kind) (hz:0<bU e.kind):aH C0 195 [.i (.iref e.cells), .int w, .int 0] []=some (.bool false,[]):=by
 rw[aD rfl Tryz.func195 rfl rfl,Ex.aA];simp[Ex.aY,hk,hz]
theorem ACY {e:Ex} {w:Int} (n:Nat) (hk:(e.kids.length:Int)=bU e.kind) (hz:0<bU e.kind→n≠0) (hh:e.headOk w=false) :
 aH C0 195 [.i (.iref e.cells), .int w, .int n] []=some (.bool false,[]):=by
 rw[aD rfl Tryz.func195 rfl rfl,Ex.aA];unfold Ex.headOk at hh;by_cases h1:e.kind=1
 ·rw[h1]at hz hk;simp[h1,bU]at hh hk;by_cases h2:0≤e.col
  ·by_cases h3:e.col<w
   ·cases h4:e.val.null with
    | true=>simp[Ex.aY,hk,h1,xE.2 h2,zC6.2 h3,h4,bU]
    | false=>simp[Ex.aY,hk,h1,xE.2 h2,zC6.2 h3,h4,hh h2 h3 h4,bU]
   ·simp[Ex.aY,hk,h1,xE.2 h2,xE.1 h3,bU]
  ·simp[Ex.aY,hk,h1,zC6.1 h2,bU]
 ·by_cases h2:e.kind=2
  ·rw[h2]at hz hk;simp[h2,bU]at hh hk;by_cases h3:e.col=0
   ·have h4:Val.ok ⟨e.val.null,e.val.n⟩=false:=hh h3;simp[Ex.aY,hk,h2,h3,h4,bU]
   ·simp[Ex.aY,hk,h2,h3,bU]
  ·simp[h1,h2]at hh;by_cases h0:0<bU e.kind
   ·have hn:=hz h0;by_cases h3:e.col=0
    ·cases h4:e.val.null with
     | true=>simp[Ex.aY,hk,h1,h2,h3,h4,h0,hn,hz h0]
     | false=>simp[Ex.aY,hk,h1,h2,h3,h4,hh h3 h4,h0,hn,hz h0]
    ·simp[Ex.aY,hk,h1,h2,h3,h0,hn,hz h0]
   ·by_cases h3:e.col=0
    ·cases h4:e.val.null with
     | true=>simp[Ex.aY,hk,h1,h2,h3,h4,h0]
     | false=>simp[Ex.aY,hk,h1,h2,h3,h4,hh h3 h4,h0]
    ·simp[Ex.aY,hk,h1,h2,h3,h0]
def VX (e:Ex) (w n:Int) (i:Nat):AS :=
 { env:=[(0, .i (.iref [.int e.kind, .int 0, .bool false, .int 0, .isl (Ex.aB e.kids)])),(1, .int w),(2, .int n),(6, .bool false),(7, .int (bU e.kind)),(8,jk i (.int (i-1))),(28, .bool (n == 0)),(62, .bool false),(90, .bool false),(95, .int (bU e.kind)),(96, .int i),(97,jk i (.bool true)),(109,jk i (.bool false))],st:=[] }
theorem AQR {e:Ex} {w:Int} (n:Nat) (hn:n≤8) (hk:(e.kids.length:Int)=bU e.kind) (hz:0<bU e.kind→n≠0) (hh:e.headOk w=true) (ih:∀ k∈e.kids,0<bU e.kind→aH C0 195 [.i (.iref k.cells), .int w, .int ((n:Int)-1)] []=some (.bool (Ex.vB w (n-1) k),[])) :
 aH C0 195 [.i (.iref e.cells), .int w, .int n] []=some (.bool (e.kids.all (Ex.vB w (n-1))),[]):=by
 rw[aD rfl Tryz.func195 rfl rfl,Ex.aA]
 rcases Ex.ABA w e with h|⟨-,⟨hA,hB,hC,hD,hE,hF⟩|⟨hA,hB,hC,hD,hE,hF⟩|⟨hA,hB,hC,hD,hE,hF⟩⟩
 ·simp[h]at hh
 ·have h2:e.kids=[]:=by rw[hF]at hk;simpa using hk
  simp[h2,Ex.aB,hA,hD,hE,xE.2 hB,zC6.2 hC,bU];rw[aF];simp
 ·have h2:e.kids=[]:=by rw[hF]at hk;simpa using hk
  simp[h2,Ex.aB,hA,hB,hC,bU];rw[aF];simp
 ·by_cases h0:0<bU e.kind
  ·have hn:=hz h0;simp[Ex.aY,hk,hA,hB,hC,hD,hE,h0,hn,hz h0];obtain⟨j,h1,h2⟩:=gB (Ex.vB w (n-1)) e.kids;have w1:IntKind.i64.wrap ((n:Int)-1)=n-1:=wrO
   have rd:∀ (i:Nat) (k:Ex),e.kids[i]?=some k→k∈e.kids→i<e.kids.length∧gF (Ex.aB e.kids) i=some k.cells∧aH C0 195 [.i (.iref k.cells), .int w, .int ((n:Int)-1)] []=some (.bool (Ex.vB w (n-1) k),[]) :=
    fun i k a b=>⟨(zZ.1 a).1,Ex.aO a,ih k b h0⟩
   have hlen:e.kids.length≤2:=by have:bU e.kind≤2:=by
                                  unfold bU;split;· omega
                                  split;· omega
                                  split<;>omega
                                 omega
   rw[aQ (VX e w n) j (by simp[VX])]
   ·rw[aF]
    rcases h2 with ⟨hj,ha⟩|⟨k,h3,h4,h5,ha⟩
    ·have l1:¬ ((j:Int)<bU e.kind):=by omega
     simp[VX,l1,ha]
    ·obtain⟨r1,r2,r3⟩:=rd j k h3 h4;have l1:(j:Int)<bU e.kind:=by omega
     rw[Ex.aA]at r2 r3;simp[VX,l1,r1,ha,r2,r3,w1,h5]
   ·intro i hi;obtain⟨k,h3,h4,h5⟩:=h1 i hi;obtain⟨r1,r2,r3⟩:=rd i k h3 h4;have l1:(i:Int)<bU e.kind:=by omega
    have w2:IntKind.i64.wrap ((i:Int)+1)=i+1:=wrO;rw[Ex.aA]at r2 r3;simp[VX,l1,r1,r2,r3,w1,w2,h5]
  ·have h2:e.kids=[]:=by cases h:e.kids with
    | nil=>rfl
    | cons a l=>rw[h]at hk;simp at hk;omega
   rw[h2]at hk;simp at hk;simp[h2,Ex.aB,hA,hB,hC,hD,hE,← hk];rw[aF];simp
@[simp] theorem wN {w:Int}:∀ (n:Nat) (e:Ex),n≤8→aH C0 195 [.i (.iref e.cells), .int w, .int n] []=some (.bool (Ex.vB w n e),[])
  | 0,e,hn=>by
   by_cases hk:(e.kids.length:Int)=bU e.kind
   ·by_cases hz:0<bU e.kind
    ·rw[show((0:Nat):Int)=0 from rfl,AM9 hk hz];simp[Ex.vB,zC6.2 hz]
    ·cases hh:e.headOk w with
     | false=>rw[ACY 0 hk (fun h=>absurd h hz) hh];simp[Ex.vB,hh]
     | true =>
      rw[AQR 0 hn hk (fun h=>absurd h hz) hh (fun k _ h=>absurd h hz)]
      have:e.kids=[]:=by cases h:e.kids with
       | nil=>rfl
       | cons a l=>rw[h]at hk;simp at hk;omega
      have h3:bU e.kind=0:=by rw[this]at hk;simpa using hk.symm
      simp[Ex.vB,hh,h3,this]
   ·rw[AKI 0 hk];simp[Ex.vB,hk]
  | n+1,e,hn=>by
   by_cases hk:(e.kids.length:Int)=bU e.kind
   ·cases hh:e.headOk w with
    | false=>rw[ACY (n+1) hk (fun _=>by omega) hh];simp[Ex.vB,hh]
    | true =>
     rw[AQR (n+1) hn hk (fun _=>by omega) hh (fun k _ _=>by
      have:=wN (w:=w) n k (by omega);rw[show(((n+1:Nat):Int)-1)=(n:Int)by omega]
      exact this)]
     simp[Ex.vB,hh,hk]
   ·rw[AKI (n+1) hk];simp[Ex.vB,hk]
theorem AKH {e:Ex} {w:Int} (n:Nat) (hk:¬ (e.kids.length:Int)=bU e.kind):aH C0 171 [.i (.agg e.cells), .int w, .int n] []=some (.bool false,[]):=by
 rw[aD rfl Tryz.func171 rfl rfl,Ex.aA];simp[hk]
theorem AM8 {e:Ex} {w:Int} (hk:(e.kids.length:Int)=bU e.kind) (hz:0<bU e.kind):aH C0 171 [.i (.agg e.cells), .int w, .int 0] []=some (.bool false,[]):=by
 rw[aD rfl Tryz.func171 rfl rfl,Ex.aA];simp[hk,hz]
def EX (e:Ex) (w n:Int) (v:AV) (i:Nat):AS :=
 { env:=[(0, .i (.agg [.int e.kind, .int e.col, .bool e.val.null, .int e.val.n, .isl (Ex.aB e.kids)])),(1, .int w),(2, .int n),(3, .own 0 0),(6, .bool false),(7, .int i),(24,v),(29,jk i (.bool true)),(41,jk i (.bool false)),(43, .junk),(44, .junk),(57, .junk)],
   st:=[some (.box [.int e.kind, .int e.col, .bool e.val.null, .int e.val.n, .i (.isl (Ex.aB e.kids))])] }
theorem AQQ {e:Ex} {w:Int} (n:Nat) (hn:n≤8) (hk:(e.kids.length:Int)=bU e.kind) (hz:0<bU e.kind→n≠0)  (hw:1≤w∧w≤6)
 (ih:∀ k∈e.kids,0<bU e.kind→aH C0 171 [.i (.agg k.cells), .int w, .int ((n:Int)-1)] []=some (.bool (Ex.vB w (n-1) k),[])) :
  aH C0 171 [.i (.agg e.cells), .int w, .int n] []=some (.bool (e.kids.all (Ex.vB w (n-1)) && e.headOk w),[]):=by
 rw[aD rfl Tryz.func171 rfl rfl,Ex.aA];have w0:IntKind.i64.wrap (w-1)=w-1:=wrO;by_cases h0:0<bU e.kind
 ·have hn:=hz h0;simp[hk,h0,hn];obtain⟨j,h1,h2⟩:=gB (Ex.vB w (n-1)) e.kids;have w1:IntKind.i64.wrap ((n:Int)-1)=n-1:=wrO
  have rd:∀ (i:Nat) (k:Ex),e.kids[i]?=some k→k∈e.kids→i<e.kids.length∧gF (Ex.aB e.kids) i=some k.cells∧aH C0 171 [.i (.agg k.cells), .int w, .int ((n:Int)-1)] []=some (.bool (Ex.vB w (n-1) k),[]) :=
   fun i k a b=>⟨(zZ.1 a).1,Ex.aO a,ih k b h0⟩
  have hlen:e.kids.length≤2:=by have:bU e.kind≤2:=by
                                 unfold bU;split;· omega
                                 split;· omega
                                 split<;>omega
                                omega
  have hk1:e.kind≠1:=fun h=>by rw[h]at h0;simp[bU]at h0
  have hk2:e.kind≠2:=fun h=>by rw[h]at h0;simp[bU]at h0
  rw[aQ (EX e w n (.bool ((n:Int) == 0)) ) j (by simp[EX])]
  ·rw[aF]
   rcases h2 with ⟨hj,ha⟩|⟨k,h3,h4,h5,ha⟩
   ·have l1:¬ ((j:Int)<bU e.kind):=by omega
    by_cases h6:e.col=0
    ·cases h7:e.val.null with
     | true=>simp[EX,l1,hk,ha,Ex.headOk,hk1,hk2,h6,h7]
     | false=>simp[EX,l1,hk,ha,Ex.headOk,hk1,hk2,h6,h7]
    ·simp[EX,l1,hk,ha,Ex.headOk,hk1,hk2,h6]
   ·obtain⟨r1,r2,r3⟩:=rd j k h3 h4;have l1:(j:Int)<bU e.kind:=by omega
    rw[Ex.aA]at r2 r3;simp[EX,l1,r1,hk,ha,r2,r3,w1,h5]
  ·intro i hi;obtain⟨k,h3,h4,h5⟩:=h1 i hi;obtain⟨r1,r2,r3⟩:=rd i k h3 h4;have l1:(i:Int)<bU e.kind:=by omega
   have w2:IntKind.i64.wrap ((i:Int)+1)=i+1:=wrO;rw[Ex.aA]at r2 r3;simp[EX,l1,r1,hk,r2,r3,w1,w2,h5]
 ·have h2:e.kids=[]:=by cases h:e.kids with
   | nil=>rfl
   | cons a l=>rw[h]at hk;simp at hk;omega
  rw[h2]at hk;simp at hk;simp[h2,Ex.aB,← hk];rw[aF];by_cases h1:e.kind=1
  ·by_cases h4:0≤e.col
   ·by_cases h5:e.col<w
    ·cases h7:e.val.null with
     | true=>simp[h1,w0,Ex.headOk,h4,h5,h7,show e.col≤w-1 by omega]
     | false=>simp[h1,w0,Ex.headOk,h4,h5,h7,show e.col≤w-1 by omega]
    ·simp[h1,w0,Ex.headOk,h4,h5,show ¬ e.col≤w-1 by omega]
   ·simp[h1,w0,Ex.headOk,h4]
  ·by_cases h3:e.kind=2
   ·by_cases h4:e.col=0
    ·simp[h3,Ex.headOk,h4]
    ·simp[h3,Ex.headOk,h4]
   ·by_cases h4:e.col=0
    ·cases h7:e.val.null with
     | true=>simp[h1,h3,Ex.headOk,h4,h7]
     | false=>simp[h1,h3,Ex.headOk,h4,h7]
    ·simp[h1,h3,Ex.headOk,h4]
theorem CK {w:Int} (hw:1≤w∧w≤6):∀ (n:Nat) (e:Ex),n≤8→aH C0 171 [.i (.agg e.cells), .int w, .int n] []=some (.bool (Ex.vB w n e),[])
 | 0,e,hn=>by
  by_cases hk:(e.kids.length:Int)=bU e.kind
  ·by_cases hz:0<bU e.kind
   ·rw[show((0:Nat):Int)=0 from rfl,AM8 hk hz];simp[Ex.vB,zC6.2 hz]
   ·rw[AQQ 0 hn hk (fun h=>absurd h hz) hw (fun k _ h=>absurd h hz)]
    have:e.kids=[]:=by cases h:e.kids with
     | nil=>rfl
     | cons a l=>rw[h]at hk;simp at hk;omega
    have h3:bU e.kind=0:=by rw[this]at hk;simpa using hk.symm
    simp[Ex.vB,h3,this]
  ·rw[AKH 0 hk];simp[Ex.vB,hk]
 | n+1,e,hn=>by
  by_cases hk:(e.kids.length:Int)=bU e.kind
  ·rw[AQQ (n+1) hn hk (fun _=>by omega) hw (fun k _ _=>by
      have:=CK (w:=w) hw n k (by omega);rw[show(((n+1:Nat):Int)-1)=(n:Int)by omega]
      exact this)]
   simp[Ex.vB,hk,Bool.and_comm]
  ·rw[AKH (n+1) hk];simp[Ex.vB,hk]
theorem ok_eq (w:Int) (e:Ex):aH C0 175 [.i (.agg e.cells), .int w] []=some (.bool (e.ok w),[]):=by
 rw[aD rfl Tryz.func175 rfl rfl];have h:=wN (w:=w) 8 e (by omega);rw[Ex.aA]at h ⊢;have e8:((8:Nat):Int)=8:=rfl;rw[e8]at h
 cases hw:bE w with
 | false=>simp[hw,Ex.ok]
 | true=>simp[hw,Ex.ok,h]
theorem QK (w:Int) (e:Ex):aH C0 140 [.i (.agg e.cells), .int w] []=some (.bool (e.ok w),[]):=by
 rw[aD rfl Tryz.func140 rfl rfl];by_cases hw:1≤w∧w≤6
 ·have h:=CK hw 8 e (by omega);rw[Ex.aA]at h ⊢;have e8:((8:Nat):Int)=8:=rfl;rw[e8]at h;simp[hw,Ex.ok,bE,h]
 ·rw[Ex.aA];simp[hw,Ex.ok,bE]
theorem AJK {a b:Ex} (ih:aH C0 67 [.i (.isl (Ex.aB a.kids)), .i (.isl (Ex.aB b.kids))] []=some (.bool (Ex.oI a.kids b.kids),[])) :
 aH C0 107 [.i (.agg a.cells), .i (.agg b.cells)] []=some (.bool (a.eqb b),[]):=by
 rw[aD rfl Tryz.func107 rfl rfl,Ex.aA,Ex.aA,Ex.WK];by_cases h1:a.kind=b.kind
 ·by_cases h2:a.col=b.col
  ·cases h3:(a.val.null == b.val.null && a.val.n == b.val.n)with
   | true=>simp[h1,h2,h3,ih]
   | false=>simp[h1,h2,h3]
  ·simp[h1,h2]
 ·simp[h1]
def LX (l m:List Ex) (i:Nat):AS :=
 { env:=[(0, .i (.isl (Ex.aB l))),(1, .i (.isl (Ex.aB m))),(4, .bool false),(5, .int i),(10, .bool false),(14,jk i (.bool true)),(26,jk i (.bool false))],st:=[] }
theorem YM {l m:List Ex} (hl:l.length<1000000000) (ih:∀ a∈l,∀ b,aH C0 107 [.i (.agg a.cells), .i (.agg b.cells)] []=some (.bool (a.eqb b),[])) :
 aH C0 67 [.i (.isl (Ex.aB l)), .i (.isl (Ex.aB m))] []=some (.bool (Ex.oI l m),[]):=by
 rw[aD rfl Tryz.func67 rfl rfl];by_cases hlm:l.length=m.length
 ·simp[hlm];obtain⟨j,h1,h2⟩:=Ex.sW l m hlm;rw[aQ (LX l m) j (by simp[LX])]
  ·rw[aF]
   rcases h2 with ⟨hj,ha⟩|⟨a,b,k1,k2,k3,k4,ha⟩
   ·simp[LX,hj,hlm,ha]
   ·have r1:=(zZ.1 k1).1;have r2:=(zZ.1 k2).1;have s1:=Ex.aO k1;have s2:=Ex.aO k2;have hc:=ih a k3 b;rw[Ex.aA]at s1 s2;rw[Ex.aA,Ex.aA]at hc;simp[LX,r1,r2,s1,s2,ha,hc,k4]
  ·intro i hi;obtain⟨a,b,k1,k2,k3,k4⟩:=h1 i hi;have r1:=(zZ.1 k1).1;have r2:=(zZ.1 k2).1;have s1:=Ex.aO k1;have s2:=Ex.aO k2;have hc:=ih a k3 b;have w2:IntKind.i64.wrap ((i:Int)+1)=i+1:=wrO;rw[Ex.aA]at s1 s2;rw[Ex.aA,Ex.aA]at hc;simp[LX,r1,r2,s1,s2,hc,k4,w2]
 ·simp[show ¬ (l.length:Int)=m.length by omega,Ex.AJ l m hlm]
theorem OD:∀ (a:Ex),a.thin→∀ b:Ex,aH C0 107 [.i (.agg a.cells), .i (.agg b.cells)] []=some (.bool (a.eqb b),[]):=by
 intro a
 induction a using Ex.ind with
 | h k c v ks ih =>
  intro ht b;have ht':=(Ex.bL _).1 ht;exact AJK (YM ht'.1 fun a ha b=>ih a ha (ht'.2 a ha) b)
theorem bN:IntKind.i64.wrap 1=1:=wrO
def CX (e:Ex) (i:Nat):AS :=
 { env:=[(0, .i (.agg [.int e.kind, .int e.col, .bool e.val.null, .int e.val.n, .isl (Ex.aB e.kids)])),(1, .own 0 0),(2, .own 1 0),(3, .own 2 0),(4, .int i),(16,jk i (.bool true))],
   st:=some (.box [.int e.kind, .int e.col, .bool e.val.null, .int e.val.n, .i (.isl (Ex.aB e.kids))])::some (.box [.int 0, .int 0, .bool false, .int 0, .nils]) ::
    some (.box [.int e.kind, .int e.col, .bool e.val.null, .int e.val.n,gro 3 5 i])::TG 5 (Ex.aB (e.kids.take i)) i }
theorem AOV {e:Ex} (hl:e.kids.length<1000000000) (ih:∀ a∈e.kids,aH C0 98 [.i (.agg a.cells)] []=some (.i (.agg a.cells),[])) :
 aH C0 98 [.i (.agg e.cells)] []=some (.i (.agg e.cells),[]):=by
 rw[aD rfl Tryz.func98 rfl rfl,Ex.aA];simp;rw[aQ (CX e) e.kids.length (by simp[CX])]
 ·rw[aF]
  cases hn:e.kids.length with
  | zero =>
   have:e.kids=[]:=zW.1 hn;simp[CX,this,Ex.aB]
  | succ n =>
   have:e.kids.take (n+1)=e.kids:=zY (by omega);simp[CX,hn,this]
 ·intro i hi;have h3:=zX hi;have hc:=ih _ (zV h3);have r2:=Ex.aO h3;generalize e.kids[i]=a at h3 hc r2;have w2:IntKind.i64.wrap ((i:Int)+1)=i+1:=wrO;by_cases h0:i=0
  ·subst h0;simp[CX,hi,r2,hc,bN,aL h3,Ex.aB]
  ·simp[CX,aM h0,aJ h0,bH h0,hi,r2,hc,w2,aL h3,Ex.aZ,show min i e.kids.length=i by omega,show(i+1)*56≤140737488355328 by omega,zN]
theorem vW:∀ (e:Ex),e.thin→aH C0 98 [.i (.agg e.cells)] []=some (.i (.agg e.cells),[]):=by
 intro e
 induction e using Ex.ind with
 | h k c v ks ih =>
  intro ht;have ht':=(Ex.bL _).1 ht;exact AOV ht'.1 fun a ha=>ih a ha (ht'.2 a ha)
def SX (e:Ex) (l:List Ex) (f:Ex→Ex) (i:Nat):AS :=
 { env:=[(0, .i (.agg [.int e.kind, .int e.col, .bool e.val.null, .int e.val.n, .isl (Ex.aB e.kids)])),(1, .i (.isl (Ex.aB l))),(2, .own 0 0),(4, .own 1 0),(5, .own 2 0),(6, .int i),(9, .bool false),(27,jk i (.bool true))],
   st:=some (.box [.int e.kind, .int e.col, .bool e.val.null, .int e.val.n, .i (.isl (Ex.aB e.kids))])::some (.box [.int 0, .int 0, .bool false, .int 0, .nils]) ::
    some (.box [.int e.kind, .int e.col, .bool e.val.null, .int e.val.n,gro 3 5 i])::TG 5 (Ex.aB ((e.kids.take i).map f)) i }
theorem vF {e b:Ex} {l:List Ex} (h1:e.kind=1) (h0:0≤e.col) (hb:l[e.col.toNat]?=some b) (ht:b.thin) :
 aH C0 138 [.i (.agg e.cells), .i (.isl (Ex.aB l))] []=some (.i (.agg b.cells),[]):=by
 rw[aD rfl Tryz.func138 rfl rfl,Ex.aA];have hc:=vW b ht;have r2:=Ex.aO hb;have r1:=(zZ.1 hb).1;rw[Ex.aA]at hc r2 ⊢;simp[h1,h0,r2,hc,show e.col<l.length by omega]
theorem AHZ {e:Ex} {l:List Ex} {f:Ex→Ex} (h1:e.kind≠1) (hl:e.kids.length<1000000000) (ih:∀ a∈e.kids,aH C0 138 [.i (.agg a.cells), .i (.isl (Ex.aB l))] []=some (.i (.agg (f a).cells),[])) :
 aH C0 138 [.i (.agg e.cells), .i (.isl (Ex.aB l))] []=some (.i (.agg (Ex.mk e.kind e.col e.val (e.kids.map f)).cells),[]):=by
 rw[aD rfl Tryz.func138 rfl rfl,Ex.aA];simp[h1];rw[aQ (SX e l f) e.kids.length (by simp[SX,h1])]
 ·rw[aF]
  cases hn:e.kids.length with
  | zero =>
   have:e.kids=[]:=zW.1 hn;simp[SX,this,Ex.aB,Ex.cells]
  | succ n =>
   have:e.kids.take (n+1)=e.kids:=zY (by omega);simp[SX,hn,this,Ex.cells,← List.map_take]
 ·intro i hi;have h3:=zX hi;have hc:=ih _ (zV h3);have r2:=Ex.aO h3;generalize e.kids[i]=a at h3 hc r2;have w2:IntKind.i64.wrap ((i:Int)+1)=i+1:=wrO;by_cases h0:i=0
  ·subst h0;simp[SX,hi,r2,hc,bN,aL h3,Ex.aB]
  ·simp[SX,aM h0,aJ h0,bH h0,hi,r2,hc,w2,aL h3,Ex.aZ,show min i e.kids.length=i by omega,show(i+1)*56≤140737488355328 by omega,← List.map_take,zN]
theorem lN (l:List Ex) (hlt:∀ b∈l,b.thin):∀ (e:Ex),e.thin→e.WQ l.length→aH C0 138 [.i (.agg e.cells), .i (.isl (Ex.aB l))] []=some (.i (.agg (e.sub l).cells),[]):=by
 intro e
 induction e using Ex.ind with
 | h k c v ks ih =>
  intro ht hc;have ht':=(Ex.bL _).1 ht;have hc':=(Ex.U0 _ _).1 hc;by_cases hk:k=1
  ·obtain⟨h0,h1⟩:=hc'.1 hk;have hi:c.toNat<l.length:=by simp[Ex.col]at h0 h1;omega
   have hb:=zX hi;rw[Ex.vF l (e:=.mk k c v ks) hk hb];exact vF hk h0 hb (hlt _ (xZ hi))
  ·rw[Ex.vD l (e:=.mk k c v ks) hk];exact AHZ hk ht'.1 fun a ha=>ih a ha (ht'.2 a ha) (hc'.2 hk a ha)
def HX (e:Ex) (i:Nat):AS :=
 { env:=[(0, .i (.iref [.int e.kind, .int e.col, .bool e.val.null, .int e.val.n, .isl (Ex.aB e.kids)])),(2, .int 0),(3, .int (Ex.htL (e.kids.take i):Nat)),(4,jk i (.int (i-1))),(9, .int e.kids.length),(10, .int i),(11,jk i (.bool true))],st:=[] }
theorem WA {e:Ex} (hs:e.size<1000000000) (ih:∀ k∈e.kids,aH C0 179 [.i (.iref k.cells)] []=some (.int (k.ht:Nat),[])) :
 aH C0 179 [.i (.iref e.cells)] []=some (.int (e.ht:Nat),[]):=by
 rw[aD rfl Tryz.func179 rfl rfl,Ex.aA];simp;have hl:=Ex.dC e.kids;rw[Ex.size_eq]at hs;rw[aQ (HX e) e.kids.length (by simp[HX,Ex.htL])]
 ·rw[aF];simp[HX,Ex.AJA e]
 ·intro i hi;have h3:=zX hi;have hm:=zV h3;have hc:=ih _ hm;have r2:=Ex.aO h3;have hz:=Ex.jU hm;generalize e.kids[i]=a at h3 hc r2 hz;have ha:=Ex.AFI a;have w2:IntKind.i64.wrap ((i:Int)+1)=i+1:=wrO;have w1:IntKind.i64.wrap (1+(a.ht:Int))=1+a.ht:=wrO;rw[Ex.aA]at hc r2;have hmax:Ex.htL (e.kids.take (i+1))=max (Ex.htL (e.kids.take i)) (1+a.ht):=by rw[aL h3,Ex.YB]
  by_cases hg:1+a.ht > Ex.htL (e.kids.take i)
  ·simp[HX,hi,r2,hc,w1,w2,hmax,show max (Ex.htL (e.kids.take i)) (1+a.ht)=1+a.ht by omega,show(Ex.htL (e.kids.take i):Int)<1+a.ht by omega]
  ·simp[HX,hi,r2,hc,w1,w2,hmax,show max (Ex.htL (e.kids.take i)) (1+a.ht)=Ex.htL (e.kids.take i)by omega,show ¬ (Ex.htL (e.kids.take i):Int)<1+a.ht by omega]
theorem AFN:∀ (e:Ex),e.size<1000000000→aH C0 179 [.i (.iref e.cells)] []=some (.int (e.ht:Nat),[]):=by
 intro e
 induction e using Ex.ind with
 | h k c v ks ih =>
  intro hs;exact WA hs fun a ha=>ih a ha (by have:=Ex.jU ha;simp only[Ex.size,Ex.kids]at hs this;omega)
theorem AJG {e:Ex} {hs:List Nat} {n:Int} (hn:n<0):aH C0 180 [.i (.iref e.cells), .i (.isl (oW hs)), .int n] []=some (.bool false,[]):=by
 rw[aD rfl Tryz.func180 rfl rfl,Ex.aA];simp[hn]
theorem AJH {e:Ex} {hs:List Nat} {n:Int} {h:Nat} (hn:0≤n) (hk:e.kind=1) (hks:e.kids=[]) (h0:0≤e.col) (hh:hs[e.col.toNat]?=some h) :
 aH C0 180 [.i (.iref e.cells), .i (.isl (oW hs)), .int n] []=some (.bool (decide ((h:Int)≤n)),[]):=by
 rw[aD rfl Tryz.func180 rfl rfl,Ex.aA];have r2:=RY hh;have r1:=(zZ.1 hh).1;by_cases hc:n<h
 ·simp[xE.2 hn,hk,h0,r2,hc,show e.col<hs.length by omega]
 ·simp[xE.2 hn,hk,h0,r2,hc,xE.1 hc,show e.col<hs.length by omega,hks,Ex.aB];rw[aF];simp
def FX (e:Ex) (hs:List Nat) (n:Int) (i:Nat):AS :=
 { env:=[(0, .i (.iref [.int e.kind, .int e.col, .bool e.val.null, .int e.val.n, .isl (Ex.aB e.kids)])),(1, .i (.isl (oW hs))),(2, .int n),(6, .bool false),(7,jk i (.int (i-1))),(27, .bool false),(32, .int e.kids.length),(33, .int i),(34,jk i (.bool true)),(46,jk i (.bool false))],st:=[] }
theorem AFS {e:Ex} {hs:List Nat} {n:Int} (hn:0≤n) (hn8:n≤8) (hl:e.kids.length<1000000000) (hk:e.kind≠1)
 (ih:∀ k∈e.kids,aH C0 180 [.i (.iref k.cells), .i (.isl (oW hs)), .int (n-1)] []=some (.bool (decide ((k.htS hs:Int)≤n-1)),[])) :
  aH C0 180 [.i (.iref e.cells), .i (.isl (oW hs)), .int n] []=some (.bool (e.kids.all fun k=>decide ((k.htS hs:Int)≤n-1)),[]):=by
 rw[aD rfl Tryz.func180 rfl rfl,Ex.aA];simp[xE.2 hn,hk];obtain⟨j,h1,h2⟩:=gB (fun k:Ex=>decide ((k.htS hs:Int)≤n-1)) e.kids;have w1:IntKind.i64.wrap (n-1)=n-1:=wrO;rw[aQ (FX e hs n) j (by simp[FX])]
 ·rw[aF]
  rcases h2 with ⟨hj,ha⟩|⟨k,h3,h4,h5,ha⟩
  ·simp[FX,hj,ha]
  ·have r1:=(zZ.1 h3).1;have r2:=Ex.aO h3;have r3:=ih k h4;rw[Ex.aA]at r2 r3;rw[h5]at r3;simp[FX,r1,ha,r2,r3,w1]
 ·intro i hi;obtain⟨k,h3,h4,h5⟩:=h1 i hi;have r1:=(zZ.1 h3).1;have r2:=Ex.aO h3;have r3:=ih k h4;have w2:IntKind.i64.wrap ((i:Int)+1)=i+1:=wrO;rw[Ex.aA]at r2 r3;rw[h5]at r3;simp[FX,r1,r2,r3,w1,w2]
theorem AOL {m:Int} {hs:List Nat} (hm:m=hs.length):∀ (e:Ex),e.wf m=true→e.size<1000000000→∀ n:Int,n≤8→aH C0 180 [.i (.iref e.cells), .i (.isl (oW hs)), .int n] []=some (.bool (decide ((e.htS hs:Int)≤n)),[]):=by
 intro e
 induction e using Ex.ind with
 | h k c v ks ih =>
  intro hw hs' n hn;by_cases h0:n<0
  ·rw[AJG h0,show decide ((Ex.htS hs (.mk k c v ks):Int)≤n)=false by simp;omega]
  ·by_cases hk:k=1
   ·obtain⟨c0,c1,ck⟩:=Ex.lI hw hk;have hi:c.toNat<hs.length:=by simp[Ex.col]at c0 c1;omega
    have hb:=zX hi;rw[Ex.AFK hs (e:=.mk k c v ks) (h:=hs[c.toNat]) hk hb];exact AJH (by omega) hk ck c0 hb
   ·have hl:=Ex.dC ks;have hsz:Ex.bG ks<1000000000:=by simp[Ex.size]at hs';omega
    have hn0:=xE.1 h0;rw[AFS (e:=.mk k c v ks) (n:=n) hn0 hn (by simp only[Ex.kids];omega) hk fun x hx=>ih x hx (Ex.gM hw hx) (by have:=Ex.jU hx;simp only[Ex.kids]at this;omega) (n-1) (by omega)];rw[Ex.AFJ hs (e:=.mk k c v ks) hk]
    suffices hsf:(ks.all fun x=>decide ((x.htS hs:Int)≤n-1))=decide ((Ex.AHD hs ks:Int)≤n)by simp only[Ex.kids];rw[hsf];rfl
    rw[zA1];have:=Ex.AFL hs (n:=n.toNat) ks;simp only[zS,zP];constructor
    ·intro h;have h2:=this.2 fun x hx=>by have:=h x hx;omega
     omega
    ·intro h x hx;have h2:=this.1 (by omega) x hx;omega
@[simp] theorem TU {e:Ex} (h:e.size<1000000000):aH C0 92 [.i (.iref e.cells)] []=some (.i (.agg e.cells),[]):=by
  rw[aP (p:=J6) rfl];exact YV h
theorem AI1 {e b:Ex} {l:List Ex} (hk:e.kind=1) (h0:0≤e.col) (hb:l[e.col.toNat]?=some b) (hs:b.size<1000000000) :
 aH C0 181 [.i (.iref e.cells), .own 0 0] [some (.box [.i (.isl (Ex.aB l))])]=some (.i (.agg b.cells),[some (.box [.i (.isl (Ex.aB l))])]):=by
 rw[aD rfl Tryz.func181 rfl rfl];have hc:=TU hs;have r2:=Ex.aO hb;have r1:=(zZ.1 hb).1;rw[Ex.aA]at hc r2 ⊢;rw[Ex.aA];simp[hk,h0,r2,hc,show e.col<l.length by omega]
theorem AI0 {e:Ex} {l:List Ex} (hk:e.kind≠1) (hs:e.size<1000000000) :
 aH C0 181 [.i (.iref e.cells), .own 0 0] [some (.box [.i (.isl (Ex.aB l))])]=some (.i (.agg e.cells),[some (.box [.i (.isl (Ex.aB l))])]):=by
 rw[aD rfl Tryz.func181 rfl rfl];have hc:=TU hs;rw[Ex.aA]at hc ⊢;simp[hk,hc]
def APL:List IV:=[.int 0, .int 0, .bool false, .int 0, .isl []]
def RX (e:Ex) (l:List Ex) (f:Ex→Ex) (i:Nat):AS :=
 { env:=[(0, .i (.iref [.int e.kind, .int e.col, .bool e.val.null, .int e.val.n, .isl (Ex.aB e.kids)])),(1, .fn (.func 181) [.own 0 0]),(4, .own 1 0),(5, .own 2 0),(6,jk i (.int (i-1))),(12, .bool ((e.kids.length:Int) == 0)),(39, .int e.kids.length),(40, .int i),(41,jk i (.bool true))],
   st:=[some (.box [.i (.isl (Ex.aB l))]),some (.box [.int 0, .int 0, .bool false, .int 0, .nils]),some (.box [.int e.kind, .int e.col, .bool e.val.null, .int e.val.n, .osl 3 5 0 e.kids.length]),some (.arr 5 (Ex.aB ((e.kids.map f).take i)++List.replicate (e.kids.length-i) APL))] }
theorem AIL {e:Ex} {l:List Ex} {f:Ex→Ex} (hk:e.kids≠[]) (hl:e.kids.length<1000000000) (ih:∀ a∈e.kids,aH C0 176 [.i (.iref a.cells), .fn (.func 181) [.own 0 0]] [some (.box [.i (.isl (Ex.aB l))])]=some (.i (.agg (f a).cells),[some (.box [.i (.isl (Ex.aB l))])])) :
 aH C0 176 [.i (.iref e.cells), .fn (.func 181) [.own 0 0]] [some (.box [.i (.isl (Ex.aB l))])]=some (.i (.agg (Ex.mk e.kind e.col e.val (e.kids.map f)).cells),[some (.box [.i (.isl (Ex.aB l))])]):=by
 rw[aD rfl Tryz.func176 rfl rfl,Ex.aA];have hb:56*(e.kids.length:Int)≤281474976710656:=by omega
 simp[hk,hb];rw[aQ (RX e l f) e.kids.length (by simp[RX,Ex.aB,APL])]
 ·rw[aF];have ht:(e.kids.map f).take e.kids.length=e.kids.map f:=zY (by simp);simp[RX,Ex.cells,ht]
 ·intro i hi;have h3:=zX hi;have hm:=zV h3;have hc:=ih _ hm;have r2:=Ex.aO h3;generalize e.kids[i]=a at h3 hc r2;have w2:IntKind.i64.wrap ((i:Int)+1)=i+1:=wrO;rw[Ex.aA]at hc r2;have hD:(Ex.aB ((e.kids.map f).take i)).length=i:=by simp;omega
  have hS:Ex.aB ((e.kids.map f).take i)++[(f a).cells]=Ex.aB ((e.kids.map f).take (i+1)):=by rw[aL (a:=f a) (by simp[h3]),Ex.aZ]
  have g1:=EO (n:=e.kids.length) (z:=APL) hD hi;have g2:=EN (n:=e.kids.length) (z:=APL) (x:=(f a).cells) hD hi;have g3:splice APL 0 (f a).cells=some (f a).cells:=u7 (by simp[APL]);rw[hS]at g2;simp[RX,hi,r2,hc,w2,g1,g2,g3]
theorem XV {e x:Ex} {l:List Ex} (hk:e.kids=[]) (h:aH C0 181 [.i (.iref e.cells), .own 0 0] [some (.box [.i (.isl (Ex.aB l))])]=some (.i (.agg x.cells),[some (.box [.i (.isl (Ex.aB l))])])) :
 aH C0 176 [.i (.iref e.cells), .fn (.func 181) [.own 0 0]] [some (.box [.i (.isl (Ex.aB l))])]=some (.i (.agg x.cells),[some (.box [.i (.isl (Ex.aB l))])]):=by
 rw[aD rfl Tryz.func176 rfl rfl];rw[Ex.aA e]at h ⊢;rw[Ex.aA x]at h ⊢;simp[hk,Ex.aB]at h ⊢;simp[h]
theorem R3 {m:Int} (l:List Ex) (hm:m=l.length) (hl:∀ b∈l,b.size<1000000000):∀ (e:Ex),e.wf m=true→e.size<1000000000 →
 aH C0 176 [.i (.iref e.cells), .fn (.func 181) [.own 0 0]] [some (.box [.i (.isl (Ex.aB l))])]=some (.i (.agg (e.sub l).cells),[some (.box [.i (.isl (Ex.aB l))])]):=by
 intro e
 induction e using Ex.ind with
 | h k c v ks ih =>
  intro hw hs;have hsz:=hs;rw[Ex.size_eq]at hsz;have hkl:=Ex.dC ks;by_cases hk:k=1
  ·obtain⟨c0,c1,ck⟩:=Ex.lI hw hk;have hi:c.toNat<l.length:=by simp[Ex.col]at c0 c1;omega
   have hb:=zX hi;rw[Ex.vF l (e:=.mk k c v ks) hk hb];exact XV ck (AI1 (e:=.mk k c v ks) hk c0 hb (hl _ (xZ hi)))
  ·cases ks with
   | nil =>
    have hn:=AI0 (e:=.mk k c v []) (l:=l) hk hs;rw[Ex.vD l (e:=.mk k c v []) hk];exact XV (e:=.mk k c v []) rfl hn
   | cons a ks =>
    rw[Ex.vD l (e:=.mk k c v (a::ks)) hk];refine AIL (e:=.mk k c v (a::ks)) (by simp[Ex.kids]) (by simp only[Ex.kids]at hsz ⊢;omega) fun x hx=>ih x hx (Ex.gM hw hx) ?_
    have:=Ex.jU hx;omega
end Go.Proofs.YtjdfjgmebalaaaaGreat
namespace Go.Av
def Ex.subst (e:Ex) (l:List Ex) (w:Int):Option Ex:=if e.ok l.length && (l.all (Ex.ok w) && (e.sub l).ok w)then some (e.sub l)else none
def ANA:Option Ex→AV
 | some e=>.tup [.i (.agg e.cells), .bool true]
 | none=>.tup [.i (.agg Ex.zero.cells), .bool false]
theorem aU:Ex.zero.cells=[.int 0, .int 0, .bool false, .int 0, .isl []]:=by simp[Ex.zero,Ex.cells,Ex.aB,Val.zero]
end Go.Av
namespace Go.Proofs.YtjdfjgmebalaaaaGreat
open Go Go.Av
set_option maxRecDepth 4000
theorem ANZ {e:Ex} {l:List Ex} {w:Int} (h:e.ok l.length=false):aH C0 158 [.i (.agg e.cells), .i (.isl (Ex.aB l)), .int w] []=some (ANA (e.subst l w),[]):=by
 rw[aD rfl Tryz.func158 rfl rfl];have hc:=ok_eq l.length e;rw[h]at hc;rw[Ex.aA e]at hc ⊢;simp[hc,Ex.subst,h,ANA,aU]
theorem L8:∀ (hs:List Nat) (h:Nat),oW hs++[[.int h]]=oW (hs++[h])
 | [],_=>rfl
 | _::hs,h=>by simp[oW,L8 hs h]
def IX (e:Ex) (l:List Ex) (w:Int) (i:Nat):AS :=
 { env:=[(0, .i (.agg [.int e.kind, .int e.col, .bool e.val.null, .int e.val.n, .isl (Ex.aB e.kids)])),(1, .i (.isl (Ex.aB l))),(2, .int w),(3, .own 0 0),(4, .own 1 0),(6, .own 2 0),(7, .bool false),(8, .osl 3 1 0 l.length),(9,jk i (.int (i-1))),(14, .bool false),(20, .int l.length),(21, .int i),(22,jk i (.bool true)),(30,jk i (.bool false)),(42, .junk)],
   st:=[some (.box [.int e.kind, .int e.col, .bool e.val.null, .int e.val.n, .i (.isl (Ex.aB e.kids))]),some (.box [.i (.isl (Ex.aB l))]),some (.box [.int 0, .int 0, .bool false, .int 0, .nils]),some (.arr 1 (oW ((l.map Ex.ht).take i)++List.replicate (l.length-i) [.int 0]))] }
theorem AO0 {e:Ex} {l:List Ex} {w:Int} (h:e.ok l.length=true):aH C0 158 [.i (.agg e.cells), .i (.isl (Ex.aB l)), .int w] []=some (ANA (e.subst l w),[]):=by
 rw[aD rfl Tryz.func158 rfl rfl];have hc:=ok_eq l.length e;rw[h]at hc;have hw:1≤(l.length:Int)∧(l.length:Int)≤6:=by simp[Ex.ok,bE]at h;omega
 have hwf:e.wf l.length=true:=by simp[Ex.ok,Ex.Q4]at h;exact h.2.1
 have hsz:=Ex.iT h;rw[Ex.aA e]at hc ⊢;have hb:8*(l.length:Int)≤281474976710656:=by omega
 simp[hc,hb];obtain⟨j,h1,h2⟩:=gB (Ex.ok w) l;rw[aQ (IX e l w) j (by simp[IX,oW])]
 ·rw[aF]
  rcases h2 with ⟨hj,ha⟩|⟨k,h3,h4,h5,ha⟩
  ·have ht:(l.map Ex.ht).take l.length=l.map Ex.ht:=zY (by simp);have ht2:(oW (l.map Ex.ht)).take l.length=oW (l.map Ex.ht):=zY (by simp);have hf:=AOL (m:=l.length) (hs:=l.map Ex.ht) (by simp) e hwf (by omega) 8 (by omega);have hr:=R3 (m:=l.length) l rfl (fun b hb=>by have:=Ex.iT (zS.1 ha b hb);omega) e hwf (by omega)
   have hwl:∀ b∈l,b.wf w=true:=fun b hb=>by
    have:=zS.1 ha b hb;simp[Ex.ok,Ex.Q4]at this;exact this.2.1
   have hww:bE w=true:=by
    cases l with
    | nil=>simp at hw
    | cons b l=>simp[Ex.ok]at ha;exact ha.1.1
   have hq:(e.sub l).ok w=decide ((e.htS (l.map Ex.ht):Int)≤8):=by
    simp only[Ex.ok,Ex.Q4,Ex.AQP (m:=l.length) l rfl hwl e hwf,Ex.ASM (w:=l.length) l rfl e hwf,hww,Bool.true_and];rw[zA1];simp;omega
   rw[Ex.aA e]at hf hr;rw[← hq]at hf
   cases hq':(e.sub l).ok w with
   | true=>rw[hq']at hf;simp[IX,hj,ht,ht2,hf,hr,Ex.subst,h,ha,hq',ANA]
   | false=>rw[hq']at hf;simp[IX,hj,ht,ht2,hf,Ex.subst,h,ha,hq',ANA,aU]
  ·have r1:=(zZ.1 h3).1;have r2:=Ex.aO h3;have r3:=ok_eq w k;rw[h5]at r3;simp[IX,r1,r2,r3,Ex.subst,h,ha,ANA,aU]
 ·intro i hi;obtain⟨k,h3,h4,h5⟩:=h1 i hi;have r1:=(zZ.1 h3).1;have r2:=Ex.aO h3;have r3:=ok_eq w k;have w2:IntKind.i64.wrap ((i:Int)+1)=i+1:=wrO;have hh:=AFN k (by have:=Ex.iT h5;omega);rw[h5]at r3;have hD:(oW ((l.map Ex.ht).take i)).length=i:=by simp;omega
  have g1:=EO (n:=l.length) (z:=[IV.int 0]) hD r1;have g2:=EN (n:=l.length) (z:=[IV.int 0]) (x:=[IV.int k.ht]) hD r1;rw[L8,← aL (a:=k.ht) (by simp[h3])]at g2;simp[IX,r1,r2,r3,w2,hh,g1,g2]
end Go.Proofs.YtjdfjgmebalaaaaGreat
namespace Go.Av
@[simp] theorem OW:∀ l:List UInt8,fP 1 (dY l)=true
  | []=>rfl
  | _::l=>by have:=OW l;simp only[fP]at this;simp[dY,fP,this]
@[simp] theorem WU:∀ (n:Nat) (l:List UInt8),(dY l).take n=dY (l.take n)
  | 0,l=>by simp[dY]
  | n+1,[]=>by simp[dY]
  | n+1,b::l=>by simp[dY,WU n l]
end Go.Av
namespace Go.Proofs.YtjdfjgmebalaaaaGreat
open Go Go.Av
set_option maxRecDepth 4000
theorem RU (l:List UInt8):∃ l':List UInt8,l'.length≤2000∧aH C0 88 [.i (.isl (dY l))] []=some (.own 0 0,[Rd l' 0]):=by
 by_cases h:(l.length:Int) > 2000
 ·refine⟨l.take 2000,by simp;omega,?_⟩;rw[aD rfl Tryz.func88 rfl rfl];simp[eQ,h,show(2000:Int)≤l.length by omega]
 ·refine⟨l,by omega,?_⟩;rw[aD rfl Tryz.func88 rfl rfl];simp[eQ,h]
theorem nV (l:List UInt8) (p:Int) (h0:0≤p) (h1:p<1000000000) (hl:l.length≤2000) (es:List (List IV)) (hn:0<es.length) (hes:es.length≤100) (hi:∀ r∈es,∃ x,r=[.int x]) :
 ∃ x:Int,aH C0 128 [.own 0 0, .osl 1 1 0 es.length] [Rd l p,some (.arr 1 es)]=some (.int x,[Rd l (p+1),some (.arr 1 es)])∧[.int x]∈es:=by
 obtain⟨v,hv,hv1,hv2⟩:=bC l p es.length h0 h1 hl;obtain⟨v0,v1⟩:=hv1 (by omega);have hlt:v.toNat<es.length:=by omega
 have hm:=xZ hlt;obtain⟨x,hx⟩:=hi _ hm;refine⟨x,?_,hx ▸ hm⟩;have hnth:gF es v.toNat=some [.int x]:=by rw[iU,zX hlt,hx]
 have hw:fP 1 es=true:=by
  rw[fP,zS];intro r hr;obtain⟨y,rfl⟩:=hi r hr;rfl
 rw[aD rfl Tryz.func128 rfl rfl];simp[hv,v0,v1,hnth,hw]
theorem uT (l:List UInt8) (p:Int) (h0:0≤p) (h1:p<900000000) (hl:l.length≤2000) :
 ∃ (v:Val) (p':Int),aH C0 187 [.own 0 0] [Rd l p]=some (.i (.agg [.bool v.null, .int v.n]),[Rd l p'])∧p≤p'∧p'≤p+2:=by
 obtain⟨v,hv,hv1,hv2⟩:=bC l p 5 h0 (by omega) hl;by_cases h:v=0
 ·refine⟨⟨true,0⟩,p+1,?_,by omega,by omega⟩;rw[aD rfl Tryz.func187 rfl rfl];simp[hv,h]
 ·obtain⟨x,hx,_⟩:=nV l (p+1) (by omega) (by omega) hl [[.int 0],[.int 1],[.int 2],[.int 3],[.int (-1)]] (by simp) (by simp) (by simp);refine⟨⟨false,x⟩,p+1+1,?_,by omega,by omega⟩;rw[aD rfl Tryz.func187 rfl rfl];simp at hx;simp[hv,h,hx]
theorem X4 (l:List UInt8) (p:Int) (h0:0≤p) (h1:p<900000000) (hl:l.length≤2000) :
 ∃ (v:Val) (p':Int),aH C0 185 [.own 0 0] [Rd l p]=some (.i (.agg [.bool v.null, .int v.n]),[Rd l p'])∧p≤p'∧p'≤p+4:=by
 obtain⟨v,p1,hv,q1,q2⟩:=uT l p h0 (by omega) hl;obtain⟨k,hk,hk1,hk2⟩:=bC l p1 14 (by omega) (by omega) hl;by_cases g0:k=0
 ·refine⟨⟨true,1⟩,p1+1,?_,by omega,by omega⟩;rw[aD rfl Tryz.func185 rfl rfl];simp[hv,hk,g0]
 ·by_cases g1:k=1
  ·obtain⟨x,hx,_⟩:=nV l (p1+1) (by omega) (by omega) hl [[.int 10000],[.int (-10000)],[.int 9999],[.int (-9999)]] (by simp) (by simp) (by simp);refine⟨⟨false,x⟩,p1+1+1,?_,by omega,by omega⟩;rw[aD rfl Tryz.func185 rfl rfl];simp at hx;simp[hv,hk,g1,hx]
  ·refine⟨v,p1+1,?_,by omega,by omega⟩;rw[aD rfl Tryz.func185 rfl rfl];simp[hv,hk,g0,g1]
set_option maxHeartbeats 1000000
theorem AE7 {l:List UInt8} (hl:l.length≤2000) {w:Int} {n:Nat} {p k:Int} (h0:0≤p) (h1:p<800000000) (hk:aH C0 127 [.own 0 0, .int 13] [Rd l p]=some (.int k,[Rd l (p+1)])) (hc:n=0∨k > 10) :
 ∃ (e:Ex) (p':Int),aH C0 184 [.own 0 0, .int w, .int n] [Rd l p]=some (.i (.agg e.cells),[Rd l p'])∧p≤p'∧p'≤p+4∧e.size=1:=by
 obtain⟨t,ht,ht1,ht2⟩:=bC l (p+1) 3 (by omega) (by omega) hl;by_cases g:t > 0
 ·obtain⟨c,hc',-,-⟩:=bC l (p+1+1) w (by omega) (by omega) hl;refine⟨.mk 1 c Val.zero [],p+1+1+1,?_,by omega,by omega,by simp[Ex.size,Ex.bG]⟩;rw[aD rfl Tryz.func184 rfl rfl];by_cases hn:n=0
  ·simp[hk,hn,ht,g,hc',Ex.cells,Ex.aB,Val.zero]
  ·have hk10:k > 10:=by omega
   simp[hk,hn,hk10,ht,g,hc',Ex.cells,Ex.aB,Val.zero]
 ·obtain⟨v,p2,hv,q1,q2⟩:=uT l (p+1+1) (by omega) (by omega) hl;refine⟨.mk 2 0 v [],p2,?_,by omega,by omega,by simp[Ex.size,Ex.bG]⟩;rw[aD rfl Tryz.func184 rfl rfl];by_cases hn:n=0
  ·simp[hk,hn,ht,g,hv]
  ·have hk10:k > 10:=by omega
   simp[hk,hn,hk10,ht,g,hv]
theorem ANE {l:List UInt8} (hl:l.length≤2000) {w:Int} {n c:Nat} {p k:Int} (h0:0≤p) (h1:p<800000000) (hk:aH C0 127 [.own 0 0, .int 13] [Rd l p]=some (.int k,[Rd l (p+1)])) (hk0:0≤k) (hk1:k≤10) (hn:n<10) (hc:c<100) (hpc:p+(2*c+1)<700000000) (ih:∀ p:Int,0≤p→p+c<700000000→∃ (e:Ex) (p':Int),aH C0 184 [.own 0 0, .int w, .int n] [Rd l p]=some (.i (.agg e.cells),[Rd l p'])∧p≤p'∧p'≤p+c∧e.size≤c) :
 ∃ (e:Ex) (p':Int),aH C0 184 [.own 0 0, .int w, .int ((n+1:Nat):Int)] [Rd l p]=some (.i (.agg e.cells),[Rd l p'])∧p≤p'∧p'≤p+(2*c+1:Nat)∧e.size≤2*c+1:=by
 obtain⟨e1,p1,he1,a1,a2,a3⟩:=ih (p+1) (by omega) (by omega);obtain⟨e2,p2,he2,b1,b2,b3⟩:=ih p1 (by omega) (by omega);have t1:0≤k.tmod 9:=Int.tmod_nonneg _ hk0;have t2:k.tmod 9<9:=xX _ (by omega);have w1:IntKind.i64.wrap (3+k.tmod 9)=3+k.tmod 9:=wrO;have w2:IntKind.i64.wrap (n:Int)=n:=wrO;have w3:IntKind.i64.wrap 2=2:=wrO;have hn1:¬ ((n:Int)+1=0):=by omega
 have wn:((n:Int)+1 == 0)=false:=by simp[hn1]
 have hkk:¬ (10<k):=by omega
 have hK:bU (3+k.tmod 9)=1∨bU (3+k.tmod 9)=2:=by
  unfold bU;split;· omega
  split;· exact .inl rfl
  split;· exact .inr rfl
  ·omega
 rcases hK with hK|hK
 ·refine⟨.mk (3+k.tmod 9) 0 Val.zero [e1],p1,?_,by omega,by omega,by simp[Ex.size,Ex.bG];omega⟩;rw[aD rfl Tryz.func184 rfl rfl];simp[hk,hn1,wn,hkk,w1];rw[aF];simp[hK,w2,he1,bN];rw[aF];simp[hK,Ex.cells,Ex.aB,Val.zero]
 ·refine⟨.mk (3+k.tmod 9) 0 Val.zero [e1,e2],p2,?_,by omega,by omega,by simp[Ex.size,Ex.bG];omega⟩;rw[aD rfl Tryz.func184 rfl rfl];simp[hk,hn1,wn,hkk,w1];rw[aF];simp[hK,w2,he1,bN];rw[aF];simp[hK,w2,he2,w3];rw[aF];simp[hK,Ex.cells,Ex.aB,Val.zero]
def jR:Nat→Nat
 | 0=>4
 | n+1=>2*jR n+1
theorem YT:∀ n,4≤jR n
 | 0=>by simp[jR]
 | n+1=>by have:=YT n;simp only[jR];omega
theorem rE (l:List UInt8) (hl:l.length≤2000) (w:Int):∀ n:Nat,jR n<200→n<10→∀ p:Int,0≤p→p+jR n<700000000→∃ (e:Ex) (p':Int),aH C0 184 [.own 0 0, .int w, .int n] [Rd l p]=some (.i (.agg e.cells),[Rd l p'])∧p≤p'∧p'≤p+jR n∧e.size≤jR n
 | 0,hc,hn,p,h0,h1=>by
  obtain⟨k,hk,-,-⟩:=bC l p 13 h0 (by omega) hl;obtain⟨e,p',a1,a2,a3,a4⟩:=AE7 hl (n:=0) (w:=w) h0 (by omega) hk (.inl rfl);exact⟨e,p',a1,a2,by simp[jR];omega,by simp[jR];omega⟩
 | n+1,hc,hn,p,h0,h1=>by
  obtain⟨k,hk,hk1,-⟩:=bC l p 13 h0 (by omega) hl;obtain⟨k0,k1⟩:=hk1 (by omega);have hc':jR (n+1)=2*jR n+1:=rfl;by_cases hg:k > 10
  ·obtain⟨e,p',a1,a2,a3,a4⟩:=AE7 hl (n:=n+1) (w:=w) h0 (by omega) hk (.inr hg);have h4:=YT n;exact⟨e,p',a1,a2,by omega,by omega⟩
  ·rw[hc'];exact ANE hl h0 (by omega) hk k0 (by omega) (by omega) (by omega) (by omega) fun q q0 q1=>rE l hl w n (by omega) (by omega) q q0 q1
theorem VH (l:List UInt8) (hl:l.length≤2000) (w p:Int) (h0:0≤p) (h1:p<600000000):∃ (e:Ex) (p':Int),aH C0 184 [.own 0 0, .int w, .int 3] [Rd l p]=some (.i (.agg e.cells),[Rd l p'])∧p≤p'∧p'≤p+39∧e.size≤39:=rE l hl w 3 (by decide) (by omega) p h0 (by simp only[jR];omega)
theorem G6 (l:List UInt8) (hl:l.length≤2000) (w p:Int) (h0:0≤p) (h1:p<600000000):∃ (e:Ex) (p':Int),aH C0 184 [.own 0 0, .int w, .int 2] [Rd l p]=some (.i (.agg e.cells),[Rd l p'])∧p≤p'∧p'≤p+19∧e.size≤19:=rE l hl w 2 (by decide) (by omega) p h0 (by simp only[jR];omega)
end Go.Proofs.YtjdfjgmebalaaaaGreat
namespace Go.Av
end Go.Av
namespace Go.Proofs.YtjdfjgmebalaaaaGreat
open Go Go.Av
set_option maxRecDepth 4000
set_option maxHeartbeats 1000000
theorem AC8 (l:List UInt8) (hl:l.length≤2000) (w p:Int) (h0:0≤p) (h1:p<500000000):∃ (e:Ex) (p':Int),aH C0 160 [.own 0 0, .int w] [Rd l p]=some (.i (.agg e.cells),[Rd l p'])∧p≤p'∧p'≤p+50∧e.size≤39:=by
 obtain⟨e,p1,he,a1,a2,a3⟩:=VH l hl w p h0 (by omega);obtain⟨k,hk,-,-⟩:=bC l p1 18 (by omega) (by omega) hl;rw[Ex.aA]at he;by_cases g0:k=0
 ·obtain⟨x,hx,-⟩:=nV l (p1+1) (by omega) (by omega) hl [[.int 0],[.int 12],[.int 3],[.int 10]] (by simp) (by simp) (by simp);refine⟨.mk x e.col e.val e.kids,p1+1+1,?_,by omega,by omega,by rw[Ex.size_eq]at a3 ⊢;simpa [Ex.kids]using a3⟩;rw[aD rfl Tryz.func160 rfl rfl];simp at hx;simp[he,hk,g0,hx,Ex.cells]
 ·by_cases g1:k=1
  ·obtain⟨x,hx,-⟩:=nV l (p1+1) (by omega) (by omega) hl [[.int (-1)],[.int 6],[.int w]] (by simp) (by simp) (by simp);refine⟨.mk e.kind x e.val e.kids,p1+1+1,?_,by omega,by omega,by rw[Ex.size_eq]at a3 ⊢;simpa [Ex.kids]using a3⟩;rw[aD rfl Tryz.func160 rfl rfl];simp at hx;simp[he,hk,g1,hx,Ex.cells]
  ·by_cases g2:k=2
   ·obtain⟨v,p2,hv,q1,q2⟩:=X4 l (p1+1) (by omega) (by omega) hl;refine⟨.mk e.kind e.col v e.kids,p2,?_,by omega,by omega,by rw[Ex.size_eq]at a3 ⊢;simpa [Ex.kids]using a3⟩;rw[aD rfl Tryz.func160 rfl rfl];simp[he,hk,g2,hv,Ex.cells]
   ·refine⟨e,p1+1,?_,by omega,by omega,by omega⟩;rw[aD rfl Tryz.func160 rfl rfl];simp[he,hk,g0,g1,g2,Ex.aA e]
end Go.Proofs.YtjdfjgmebalaaaaGreat
namespace Go.Av
def AiS (i:Nat):Ex:=.mk 1 i Val.zero []
def AWW (n:Nat):List Ex:=(List.range n).map AiS
def AJC (o:Option Ex):Ex:=o.getD Ex.zero
theorem AN9 (o:Option Ex):ANA o=.tup [.i (.agg (AJC o).cells), .bool o.isSome]:=by cases o<;>rfl
end Go.Av
namespace Go.Proofs.YtjdfjgmebalaaaaGreat
open Go Go.Av
set_option maxRecDepth 4000
set_option maxHeartbeats 1000000
theorem AF9 (e:Ex) (l:List Ex) (w:Int):aH C0 158 [.i (.agg e.cells), .i (.isl (Ex.aB l)), .int w] []=some (.tup [.i (.agg (AJC (e.subst l w)).cells), .bool (e.subst l w).isSome],[]):=by
 rw[← AN9]
 cases h:e.ok l.length with
 | true=>exact AO0 h
 | false=>exact ANZ h
def WX (code:List UInt8) (e:Ex) (l:List Ex) (w:Int) (i:Nat):AS :=
 { env:=[(0, .i (.isl (dY code))),(2, .bool false),(3, .own 0 0),(4, .i (.isl (Ex.aB l))),(5, .int w),(6, .own 1 0),(7, .bool (e.subst l w).isSome),(8, .own 2 0),(9, .bool (e.subst l w).isSome),(10, .osl 3 5 0 i),(11, .int i),(12, .junk),(13, .junk),(16, .bool false),(52, .bool false),(65,jk i (.bool true))],
   st:=[some (.box (l5 e.cells)),some (.box (l5 (AJC (e.subst l w)).cells)),some (.box (l5 (AJC (e.subst l w)).cells)),some (.arr 5 (Ex.aB (AWW i)))] }
theorem AQO:IntKind.i64.wrap 0=0:=wrO
@[simp] theorem ZQ (b:Bool) (n:Int):aH C0 194 [.i (.agg [.bool b, .int n])] []=some (.int (Val.tr ⟨b,n⟩),[]):=by
  rw[aD rfl Tryz.func194 rfl rfl]
  cases b
  ·by_cases h:n=0<;>simp[Val.tr,h]
  ·simp[Val.tr]
@[simp] theorem AVG:aH C0 212 [] []=some (.i (.agg [.bool true, .int 0]),[]):=by
  rw[aD rfl Tryz.func212 rfl rfl];simp
@[simp] theorem number_eq (n:Int):aH C0 211 [.int n] []=some (.i (.agg [.bool false, .int n]),[]):=by
  rw[aD rfl Tryz.func211 rfl rfl];simp
@[simp] theorem AEP (n:Int):aH C0 214 [.int n] []=some (.i (.agg [.bool (AQ2 n).null, .int (AQ2 n).n]),[]):=by
  rw[aD rfl Tryz.func214 rfl rfl];by_cases h:-9999≤n∧n≤9999<;>simp[AQ2,Val.ok,h]
@[simp] theorem AVU (b:Bool):aH C0 215 [.bool b] []=some (.i (.agg [.bool (WE b).null, .int (WE b).n]),[]):=by
  rw[aD rfl Tryz.func215 rfl rfl]
  cases b<;>simp[WE]
@[simp] theorem AQS (t:Int):aH C0 213 [.int t] []=some (.i (.agg [.bool (trV t).null, .int (trV t).n]),[]):=by
  rw[aD rfl Tryz.func213 rfl rfl];by_cases h:t=1
  ·simp[trV,h]
  ·by_cases h2:t=2<;>simp[trV,WE,h,h2]
theorem qM (k:Int) (a b:Val) (ha:a.ok=true) (hb:b.ok=true):aH C0 208 [.int k, .i (.agg [.bool a.null, .int a.n]), .i (.agg [.bool b.null, .int b.n])] []=some (.i (.agg [.bool (Val.cmb k a b).null, .int (Val.cmb k a b).n]),[]):=by
 rw[aD rfl Tryz.func208 rfl rfl];obtain⟨an,a⟩:=a;obtain⟨bn,b⟩:=b;have ba:-9999≤a∧a≤9999:=by cases an<;>simp[Val.ok]at ha<;>omega
 have bb:-9999≤b∧b≤9999:=by cases bn<;>simp[Val.ok]at hb<;>omega
 have w1:IntKind.i64.wrap (a+b)=a+b:=wrO;have w2:IntKind.i64.wrap (a-b)=a-b:=wrO
 have w3:IntKind.i64.wrap (a*b)=a*b:=by
  have h1:a*b≤9999*9999:=by
   have:=Int.mul_le_mul_of_natAbs_le (x:=a) (y:=b) (s:=9999) (t:=9999) (by omega) (by omega);omega
  have h2:-(9999*9999)≤a*b:=by
   have:=Int.mul_le_mul_of_natAbs_le (x:=-a) (y:=b) (s:=9999) (t:=9999) (by omega) (by omega);rw[Int.neg_mul]at this;omega
  exact wrO
 by_cases k8:k=8
 ·by_cases hm:Val.tr ⟨bn,b⟩<Val.tr ⟨an,a⟩<;>simp[Val.cmb,k8,hm]
 by_cases k9:k=9
 ·by_cases hm:Val.tr ⟨an,a⟩<Val.tr ⟨bn,b⟩<;>simp[Val.cmb,k9,hm]
 cases an
 ·cases bn
  ·by_cases k3:k=3
   ·simp[Val.cmb,k3,w1]
   by_cases k4:k=4
   ·simp[Val.cmb,k4,w2]
   by_cases k5:k=5
   ·simp[Val.cmb,k5,w3]
   by_cases k6:k=6
   ·simp[Val.cmb,k6]
   ·simp[Val.cmb,k8,k9,k3,k4,k5,k6]
  ·simp[Val.cmb,k8,k9]
 ·simp[Val.cmb,k8,k9]
end Go.Proofs.YtjdfjgmebalaaaaGreat
namespace Go.Av
end Go.Av
namespace Go.Proofs.YtjdfjgmebalaaaaGreat
open Go Go.Av
set_option maxRecDepth 4000
set_option maxHeartbeats 1000000
end Go.Proofs.YtjdfjgmebalaaaaGreat
namespace Go.Av
def gT (v:Val):Ex:=.mk 2 0 v []
theorem bQ (v:Val):(gT v).cells=[.int 2, .int 0, .bool v.null, .int v.n, .isl []]:=by simp[gT,Ex.cells,Ex.aB]
end Go.Av
namespace Go.Proofs.YtjdfjgmebalaaaaGreat
open Go Go.Av
set_option maxRecDepth 4000
set_option maxHeartbeats 1000000
def SB (e:Ex) (w:Int) (vs:List Val) (i:Nat):AS :=
 { env:=[(0, .i (.agg [.int e.kind, .int e.col, .bool e.val.null, .int e.val.n, .isl (Ex.aB e.kids)])),(1, .int w),(2, .i (.isl (eB vs))),(3, .own 0 0),(6, .own 1 0),(7, .bool false),(8, .int i),(9, .junk),(10, .junk),(14,jk i (.bool true)),(22,jk i (.bool false)),(34, .junk),(41, .junk)],
   st:=[some (.box [.int e.kind, .int e.col, .bool e.val.null, .int e.val.n, .i (.isl (Ex.aB e.kids))]),some (.box [.int 0, .int 0, .bool false, .int 0, .nils])] }
end Go.Proofs.YtjdfjgmebalaaaaGreat
namespace Go.Av
mutual
def Ex.ext (w:Int) (vs:List Val):Ex→Ex×List Val
 | .mk k c v ks=>if k=2 then(.mk 1 (w+vs.length) Val.zero [],vs++[v])else((.mk k c Val.zero (Ex.AUL w vs ks).1),(Ex.AUL w vs ks).2)
def Ex.AUL (w:Int) (vs:List Val):List Ex→List Ex×List Val
 | []=>([],vs)
 | e::es=>(((Ex.ext w vs e).1::(Ex.AUL w (Ex.ext w vs e).2 es).1),(Ex.AUL w (Ex.ext w vs e).2 es).2)
end
end Go.Av
namespace Go.Proofs.YtjdfjgmebalaaaaGreat
open Go Go.Av
set_option maxRecDepth 4000
set_option maxHeartbeats 2000000
def xv (a b:Nat):AV:=if b=a then .osl 0 2 0 a else .osl 1 2 0 b
def wi (n:Nat):Nat:=if n=0 then 1 else 2
end Go.Proofs.YtjdfjgmebalaaaaGreat
namespace Go.Av
end Go.Av
namespace Go.Proofs.YtjdfjgmebalaaaaGreat
open Go Go.Av
set_option maxRecDepth 4000
set_option maxHeartbeats 2000000
end Go.Proofs.YtjdfjgmebalaaaaGreat
namespace Go.Av
end Go.Av
namespace Go.Proofs.YtjdfjgmebalaaaaGreat
open Go Go.Av
set_option maxRecDepth 4000
set_option maxHeartbeats 2000000
set_option maxHeartbeats 4000000
def p9 (c:Int):Ex:=.mk 1 c Val.zero []
def two (k:Int) (a b:Ex):Ex:=.mk k 0 Val.zero [a,b]
theorem dD (c:Int):(p9 c).cells=[.int 1, .int c, .bool false, .int 0, .isl []]:=by simp[p9,Ex.cells,Ex.aB,Val.zero]
theorem dQ (k:Int) (a b:Ex):(two k a b).cells=[.int k, .int 0, .bool false, .int 0, .isl [a.cells,b.cells]]:=by simp[two,Ex.cells,Ex.aB,Val.zero]
def AJO:Nat→Nat
 | 0=>40
 | n+1=>AJO n+40
theorem TW (l:List UInt8) (hl:l.length≤2000) (w:Int) (n c:Nat) (hn:n≤3) (p:Int) (h0:0≤p) (h1:p+10*n<500000000)
 (ih:n=0∨∀ p:Int,0≤p→p+10*((n:Int)-1)<500000000→∃ (e:Ex) (p':Int),aH C0 198 [.own 0 0, .int w, .int ((n:Int)-1)] [Rd l p]=some (.i (.agg e.cells),[Rd l p'])∧p≤p'∧p'≤p+c∧e.size≤c) :
 ∃ (e:Ex) (p':Int),aH C0 198 [.own 0 0, .int w, .int n] [Rd l p]=some (.i (.agg e.cells),[Rd l p'])∧p≤p'∧p'≤p+(c+40:Nat)∧e.size≤c+40:=by
 obtain⟨c1,hc1,-,-⟩:=bC l p w h0 (by omega) hl;obtain⟨x,hx,-,-⟩:=bC l (p+1) 4 (by omega) (by omega) hl;obtain⟨t,ht,-,-⟩:=bC l (p+1+1) 3 (by omega) (by omega) hl;obtain⟨c2,hc2,-,-⟩:=bC l (p+1+1+1) w (by omega) (by omega) hl;have hcon:=WN ⟨false,x⟩;rw[show(Ex.mk 2 0 ⟨false,x⟩ []).cells=(gT ⟨false,x⟩).cells from rfl]at hcon;simp at hcon;have wn:IntKind.i64.wrap ((n:Int)-1)=n-1:=wrO;by_cases g:t=0
 ·obtain⟨k,hk,-,-⟩:=bC l (p+1+1+1+1) 8 (by omega) (by omega) hl;by_cases k0:k=0
  ·obtain⟨e,p',he,a1,a2,a3⟩:=G6 l hl w (p+1+1+1+1+1) (by omega) (by omega);refine⟨e,p',?_,by omega,by omega,by omega⟩;rw[aD rfl Tryz.func198 rfl rfl];simp[hc1,hx,ht,hk,hcon,g,hc2,dD,bQ,dQ,Ex.aB,k0,he]
  by_cases k1:k=1
  ·refine⟨.mk 10 0 Val.zero [.mk 11 0 Val.zero [p9 c1]],p+1+1+1+1+1,?_,by omega,by omega,by simp[p9,Ex.size,Ex.bG]⟩;rw[aD rfl Tryz.func198 rfl rfl];simp[hc1,hx,ht,hk,hcon,g,hc2,dD,bQ,dQ,Ex.aB,k1,Ex.cells,Val.zero]
  by_cases k2:k=2
  ·rcases ih with rfl|ih
   ·refine⟨two 7 (p9 c1) (p9 c2),p+1+1+1+1+1,?_,by omega,by omega,by simp[two,p9,gT,Ex.size,Ex.bG]⟩;rw[aD rfl Tryz.func198 rfl rfl];simp[hc1,hx,ht,hk,hcon,g,hc2,dD,bQ,dQ,Ex.aB,k2]
   ·by_cases n0:n=0
    ·refine⟨two 7 (p9 c1) (p9 c2),p+1+1+1+1+1,?_,by omega,by omega,by simp[two,p9,gT,Ex.size,Ex.bG]⟩;rw[aD rfl Tryz.func198 rfl rfl];simp[hc1,hx,ht,hk,hcon,g,hc2,dD,bQ,dQ,Ex.aB,k2,n0]
    ·obtain⟨e,p',he,a1,a2,a3⟩:=ih (p+1+1+1+1+1) (by omega) (by omega);refine⟨two 8 e (two 6 (p9 c1) (p9 c2)),p',?_,by omega,by omega,by simp[two,p9,gT,Ex.size,Ex.bG];omega⟩;rw[aD rfl Tryz.func198 rfl rfl];simp[hc1,hx,ht,hk,hcon,g,hc2,dD,bQ,dQ,Ex.aB,k2,n0,wn,he]
  by_cases k3:k=3
  ·refine⟨two 7 (p9 c2) (p9 c1),p+1+1+1+1+1,?_,by omega,by omega,by simp[two,p9,gT,Ex.size,Ex.bG]⟩;rw[aD rfl Tryz.func198 rfl rfl];simp[hc1,hx,ht,hk,hcon,g,hc2,dD,bQ,dQ,Ex.aB,k3]
  by_cases k4:k=4
  ·refine⟨two 7 (p9 c2) (p9 c1),p+1+1+1+1+1,?_,by omega,by omega,by simp[two,p9,gT,Ex.size,Ex.bG]⟩;rw[aD rfl Tryz.func198 rfl rfl];simp[hc1,hx,ht,hk,hcon,g,hc2,dD,bQ,dQ,Ex.aB,k4]
  by_cases k5:k=5
  ·refine⟨two 7 (p9 c1) (p9 c2),p+1+1+1+1+1,?_,by omega,by omega,by simp[two,p9,gT,Ex.size,Ex.bG]⟩;rw[aD rfl Tryz.func198 rfl rfl];simp[hc1,hx,ht,hk,hcon,g,hc2,dD,bQ,dQ,Ex.aB,k5]
  refine⟨two 6 (p9 c1) (p9 c2),p+1+1+1+1+1,?_,by omega,by omega,by simp[two,p9,gT,Ex.size,Ex.bG]⟩;rw[aD rfl Tryz.func198 rfl rfl];simp[hc1,hx,ht,hk,hcon,g,hc2,dD,bQ,dQ,Ex.aB,k0,k1,k2,k3,k4,k5]
 ·obtain⟨k,hk,-,-⟩:=bC l (p+1+1+1) 8 (by omega) (by omega) hl;by_cases k0:k=0
  ·obtain⟨e,p',he,a1,a2,a3⟩:=G6 l hl w (p+1+1+1+1) (by omega) (by omega);refine⟨e,p',?_,by omega,by omega,by omega⟩;rw[aD rfl Tryz.func198 rfl rfl];simp[hc1,hx,ht,hk,hcon,g,dD,bQ,dQ,Ex.aB,k0,he]
  by_cases k1:k=1
  ·refine⟨.mk 10 0 Val.zero [.mk 11 0 Val.zero [p9 c1]],p+1+1+1+1,?_,by omega,by omega,by simp[p9,Ex.size,Ex.bG]⟩;rw[aD rfl Tryz.func198 rfl rfl];simp[hc1,hx,ht,hk,hcon,g,dD,bQ,dQ,Ex.aB,k1,Ex.cells,Val.zero]
  by_cases k2:k=2
  ·rcases ih with rfl|ih
   ·refine⟨two 7 (p9 c1) (gT ⟨false,x⟩),p+1+1+1+1,?_,by omega,by omega,by simp[two,p9,gT,Ex.size,Ex.bG]⟩;rw[aD rfl Tryz.func198 rfl rfl];simp[hc1,hx,ht,hk,hcon,g,dD,bQ,dQ,Ex.aB,k2]
   ·by_cases n0:n=0
    ·refine⟨two 7 (p9 c1) (gT ⟨false,x⟩),p+1+1+1+1,?_,by omega,by omega,by simp[two,p9,gT,Ex.size,Ex.bG]⟩;rw[aD rfl Tryz.func198 rfl rfl];simp[hc1,hx,ht,hk,hcon,g,dD,bQ,dQ,Ex.aB,k2,n0]
    ·obtain⟨e,p',he,a1,a2,a3⟩:=ih (p+1+1+1+1) (by omega) (by omega);refine⟨two 8 e (two 6 (p9 c1) (gT ⟨false,x⟩)),p',?_,by omega,by omega,by simp[two,p9,gT,Ex.size,Ex.bG];omega⟩;rw[aD rfl Tryz.func198 rfl rfl];simp[hc1,hx,ht,hk,hcon,g,dD,bQ,dQ,Ex.aB,k2,n0,wn,he]
  by_cases k3:k=3
  ·refine⟨two 7 (gT ⟨false,x⟩) (p9 c1),p+1+1+1+1,?_,by omega,by omega,by simp[two,p9,gT,Ex.size,Ex.bG]⟩;rw[aD rfl Tryz.func198 rfl rfl];simp[hc1,hx,ht,hk,hcon,g,dD,bQ,dQ,Ex.aB,k3]
  by_cases k4:k=4
  ·refine⟨two 7 (gT ⟨false,x⟩) (p9 c1),p+1+1+1+1,?_,by omega,by omega,by simp[two,p9,gT,Ex.size,Ex.bG]⟩;rw[aD rfl Tryz.func198 rfl rfl];simp[hc1,hx,ht,hk,hcon,g,dD,bQ,dQ,Ex.aB,k4]
  by_cases k5:k=5
  ·refine⟨two 7 (p9 c1) (gT ⟨false,x⟩),p+1+1+1+1,?_,by omega,by omega,by simp[two,p9,gT,Ex.size,Ex.bG]⟩;rw[aD rfl Tryz.func198 rfl rfl];simp[hc1,hx,ht,hk,hcon,g,dD,bQ,dQ,Ex.aB,k5]
  refine⟨two 6 (p9 c1) (gT ⟨false,x⟩),p+1+1+1+1,?_,by omega,by omega,by simp[two,p9,gT,Ex.size,Ex.bG]⟩;rw[aD rfl Tryz.func198 rfl rfl];simp[hc1,hx,ht,hk,hcon,g,dD,bQ,dQ,Ex.aB,k0,k1,k2,k3,k4,k5]
theorem AG4 (l:List UInt8) (hl:l.length≤2000) (w:Int):∀ (n:Nat),n≤3→∀ p:Int,0≤p→p+10*n<500000000→∃ (e:Ex) (p':Int),aH C0 198 [.own 0 0, .int w, .int n] [Rd l p]=some (.i (.agg e.cells),[Rd l p'])∧p≤p'∧p'≤p+AJO n∧e.size≤AJO n
 | 0,hn,p,h0,h1=>TW l hl w 0 0 hn p h0 h1 (.inl rfl)
 | n+1,hn,p,h0,h1=>by
  refine TW l hl w (n+1) (AJO n) hn p h0 h1 (.inr fun q q0 q1=>?_);rw[show((n+1:Nat):Int)-1=n by omega]at q1 ⊢;exact AG4 l hl w n (by omega) q q0 q1
end Go.Proofs.YtjdfjgmebalaaaaGreat
namespace Go.Av
end Go.Av
namespace Go.Proofs.YtjdfjgmebalaaaaGreat
open Go Go.Av
set_option maxRecDepth 4000
set_option maxHeartbeats 2000000
theorem aN (l:List UInt8) (hl:l.length≤2000) (w p:Int) (h0:0≤p) (h1:p<400000000):∃ (e:Ex) (p':Int),aH C0 183 [.own 0 0, .int w] [Rd l p]=some (.i (.agg e.cells),[Rd l p'])∧p≤p'∧p'≤p+120∧e.size≤120:=by
 obtain⟨e,p',he,a1,a2,a3⟩:=AG4 l hl w 2 (by omega) p h0 (by omega);refine⟨e,p',?_,a1,a2,a3⟩;rw[aD rfl Tryz.func183 rfl rfl];rw[show((2:Nat):Int)=2 from rfl,Ex.aA]at he;rw[Ex.aA];simp[he]
end Go.Proofs.YtjdfjgmebalaaaaGreat
namespace Go.Proofs.YtjdfjgmebalaaaaGreat.P
open Go Go.Av
set_option maxRecDepth 4000
theorem sI (n:Int):n=1∨n=2∨n=3∨n=4∨n=5∨n=6∨n=7∨n=8∨(n≠1∧n≠2∧n≠3∧n≠4∧n≠5∧n≠6∧n≠7∧n≠8):=by omega
@[simp] theorem AH7 (n:Int):aH C0 146 [.int n] []=some (.tup [.int (eU n), .int (jE n)],[]):=by
  rw[aD rfl Tryz.func146 rfl rfl]
  rcases sI n with rfl|rfl|rfl|rfl|rfl|rfl|rfl|rfl|⟨h1,h2,h3,h4,h5,h6,h7,h8⟩
  all_goals first
   | (simp[eU,jE];done)
   | (have e1:eU n=0:=by unfold eU;rw[if_neg (by omega)]
      have e2:jE n=-1:=by unfold jE;rw[if_neg (by omega),if_neg (by omega),if_neg (by omega)]
      simp[e1,e2,h1,h2,h3,h4,h5,h6,h7,h8])
def pv (cs:List Int) (i:Nat):Int:=((-1)::cs)[i]?.getD 0
theorem AE8 {cs:List Int} {i:Nat} {c:Int} (h:cs[i]?=some c):pv cs (i+1)=c:=by simp[pv,h]
theorem AP {cs:List Int} {i:Nat} {x:Int×Int} (h:(cs.zip (-1::cs))[i]?=some x):cs[i]?=some x.1∧pv cs i=x.2:=by
 rw[List.getElem?_zip_eq_some]at h;exact⟨h.1,by simp[pv,h.2]⟩
theorem YY (cs:List Int):(cs.zip (-1::cs)).length=cs.length:=by simp
def GX (cs:List Int) (w:Int) (i:Nat):AS :=
 { env:=[(0, .i (.isl (aG cs))),(1, .int w),(4, .bool false),(5, .int (pv cs i)),(7,jk i (.int (pv cs i))),(10, .bool false),(11, .i (.isl (aG cs))),(12, .int cs.length),(13, .int i),(14,jk i (.bool true)),(24,jk i (.bool false))],st:=[] }
theorem uL (cs:List Int) (w:Int):aH C0 174 [.i (.isl (aG cs)), .int w] []=some (.bool (decide (cs.length<6) && rG w cs),[]):=by
 rw[aD rfl Tryz.func174 rfl rfl];by_cases h6:cs.length<6
 case neg=>simp[h6,show(6:Int)≤cs.length by omega]
 simp[h6,show ¬ (6:Int)≤cs.length by omega];obtain⟨j,h1,h2⟩:=gB (fun x:Int×Int=>decide (x.2<x.1∧x.1<w)) (cs.zip (-1::cs));rw[aQ (GX cs w) j (by simp[GX,pv])]
 ·rw[aF]
  rcases h2 with ⟨hj,ha⟩|⟨x,h3,_,h4,ha⟩
  ·rw[YY]at hj;have ha:rG w cs=true:=ha;simp[GX,hj,ha]
  ·obtain⟨c1,c2⟩:=AP h3;have r1:=(zZ.1 c1).1;have r2:=aT c1;have hb:¬ (x.2<x.1∧x.1<w):=by simpa using h4
   have ha:rG w cs=false:=ha;by_cases hx:x.1≤x.2
   ·simp[GX,r1,r2,c2,hx,ha]
   ·simp[GX,r1,r2,c2,hx,ha,show w≤x.1 by omega]
 ·intro i hi;obtain⟨x,h3,_,h4⟩:=h1 i hi;obtain⟨c1,c2⟩:=AP h3;have r1:=(zZ.1 c1).1;have r2:=aT c1;have c3:=AE8 c1;have hb:x.2<x.1∧x.1<w:=by simpa using h4
  have w2:IntKind.i64.wrap ((i:Int)+1)=i+1:=wrO;simp[GX,r1,r2,c2,c3,w2,show ¬ x.1≤x.2 by omega,show ¬ w≤x.1 by omega]
def WX (p:Pn) (a b y:Int) (x14:Bool) (n21 n22:Nat) (x22:Bool) (n26 n27:Nat) (x27:Bool) (i:Nat):AS :=
 { env:=[(0, .i (.iref [.int p.kind, .int p.table, .isl (Ex.aB p.exprs), .isl (aG p.cols), .isl (Pn.aB p.kids)])),(1, .int a),(2, .int b),(6, .int 0),(7, .int y),(8,jk i (.int (i-1))),(13, .int p.kind),(14, .bool x14),(21,jk n21 (.bool false)),(22,jk n22 (.bool x22)),(26,jk n26 (.bool false)),(27,jk n27 (.bool x27)),(35, .junk),(46, .int p.exprs.length),(47, .int i),(48,jk i (.bool true)),(59,jk i (.bool false)),(65, .junk)],st:=[] }
theorem gV (p:Pn) (a b:Int) (ha:0≤a∧a≤6) (hb:0≤b∧b≤6) (hd:p.headOk=true):aH C0 147 [.i (.iref p.cells), .int a, .int b] []=some (.int (dB p.kind p.exprs p.cols a b),[]):=by
 rw[aD rfl Tryz.func147 rfl rfl];have he:=Pn.sO hd;rw[Pn.aA];have hg:=uL p.cols a;have w1:IntKind.i64.wrap (a+b)=a+b:=wrO;by_cases h6:p.kind=6
 ·have h8:p.kind≠8:=by omega
  have h4:p.kind≠5:=by omega
  have hz:p.exprs=[]:=by
   simp only[Pn.headOk,zU,zP,h6]at hd;have:=hd.2.1;simp[eU]at this;exact this
  by_cases hab:a=b
  ·subst hab;simp[h6];rw[aF];simp[hz,h6,dB]
  ·simp[h6,hab,dB]
 by_cases h8:p.kind=8
 ·by_cases h9:p.cols.length<6
  ·have w3:IntKind.i64.wrap ((p.cols.length:Int)+1)=p.cols.length+1:=wrO
   cases hc:rG a p.cols<;>simp[h8,hg,h9,hc,dB,w3]
  ·simp[h8,hg,h9,dB]
 by_cases h45:p.kind=4∨p.kind=5
 ·by_cases hs:a+b≤6
  case neg=>rcases h45 with h4|h4<;>simp[h4,w1,show 6<a+b by omega,dB,hs]
  have h4:True:=trivial
  rcases h45 with h45|h45
  ·simp[h45,w1,show ¬ 6<a+b by omega];obtain⟨j,h1,h2⟩:=gB (Ex.ok (a+b)) p.exprs;rw[aQ (WX p a b (a+b) true 1 0 false 0 0 false) j (by simp[WX,h45])]
   ·rw[aF]
    rcases h2 with ⟨hj,hall⟩|⟨x,h3,_,h5,hall⟩
    ·simp[WX,hj,hall,dB,h45,hs]
    ·have r1:=(zZ.1 h3).1;have r2:=Ex.aO h3;have r3:=ok_eq (a+b) x;rw[h5]at r3;rw[Ex.aA]at r2 r3;simp[WX,r1,r2,r3,hall,dB,h45,hs]
   ·intro i hi;obtain⟨x,h3,_,h5⟩:=h1 i hi;have r1:=(zZ.1 h3).1;have r2:=Ex.aO h3;have r3:=ok_eq (a+b) x;rw[h5]at r3;rw[Ex.aA]at r2 r3;have w2:IntKind.i64.wrap ((i:Int)+1)=i+1:=wrO;simp[WX,r1,r2,r3,w2,h45]
  ·simp[h45,w1,show ¬ 6<a+b by omega];obtain⟨j,h1,h2⟩:=gB (Ex.ok (a+b)) p.exprs;rw[aQ (WX p a b (a+b) true 1 0 false 0 0 false) j (by simp[WX,h45])]
   ·rw[aF]
    rcases h2 with ⟨hj,hall⟩|⟨x,h3,_,h5,hall⟩
    ·simp[WX,hj,hall,dB,h45,hs]
    ·have r1:=(zZ.1 h3).1;have r2:=Ex.aO h3;have r3:=ok_eq (a+b) x;rw[h5]at r3;rw[Ex.aA]at r2 r3;simp[WX,r1,r2,r3,hall,dB,h45,hs]
   ·intro i hi;obtain⟨x,h3,_,h5⟩:=h1 i hi;have r1:=(zZ.1 h3).1;have r2:=Ex.aO h3;have r3:=ok_eq (a+b) x;rw[h5]at r3;rw[Ex.aA]at r2 r3;have w2:IntKind.i64.wrap ((i:Int)+1)=i+1:=wrO;simp[WX,r1,r2,r3,w2,h45]
 have h4:p.kind≠4:=by omega
 have h5':p.kind≠5:=by omega
 simp[h6,h8,h4,h5'];obtain⟨j,h1,h2⟩:=gB (Ex.ok (a)) p.exprs;rw[aQ (WX p a b a false 0 1 false 0 1 false) j (by simp[WX,h6,h8,h5'])]
 ·rw[aF]
  rcases h2 with ⟨hj,hall⟩|⟨x,h3,_,h5,hall⟩
  ·by_cases h3':p.kind=3
   ·simp[WX,hj,hall,dB,h3']
   ·simp[WX,hj,hall,dB,h6,h8,h4,h5',h3']
  ·have r1:=(zZ.1 h3).1;have r2:=Ex.aO h3;have r3:=ok_eq (a) x;rw[h5]at r3;rw[Ex.aA]at r2 r3;by_cases h3':p.kind=3
   ·simp[WX,r1,r2,r3,hall,dB,h3']
   ·simp[WX,r1,r2,r3,hall,dB,h6,h8,h4,h5',h3']
 ·intro i hi;obtain⟨x,h3,_,h5⟩:=h1 i hi;have r1:=(zZ.1 h3).1;have r2:=Ex.aO h3;have r3:=ok_eq (a) x;rw[h5]at r3;rw[Ex.aA]at r2 r3;have w2:IntKind.i64.wrap ((i:Int)+1)=i+1:=wrO;simp[WX,r1,r2,r3,w2]
set_option maxHeartbeats 2000000
@[simp] theorem AVO:jE 1=0:=by decide
@[simp] theorem AUC:eU 1=0:=by decide
@[simp] theorem AVN:jE 2=1:=by decide
@[simp] theorem AUB:eU 2=1:=by decide
@[simp] theorem AVM:jE 3=1:=by decide
@[simp] theorem AUA:eU 3=1:=by decide
@[simp] theorem AVL:jE 4=2:=by decide
@[simp] theorem AU9:eU 4=1:=by decide
@[simp] theorem AVK:jE 5=2:=by decide
@[simp] theorem AU8:eU 5=1:=by decide
@[simp] theorem AVJ:jE 6=2:=by decide
@[simp] theorem AU7:eU 6=0:=by decide
@[simp] theorem AVI:jE 7=1:=by decide
@[simp] theorem AU6:eU 7=0:=by decide
@[simp] theorem AVH:jE 8=1:=by decide
@[simp] theorem AU5:eU 8=0:=by decide
theorem Y1 {k:Int} (h:k≠1∧k≠2∧k≠3∧k≠4∧k≠5∧k≠6∧k≠7∧k≠8):jE k=-1:=by
 unfold jE;rw[if_neg (by omega),if_neg (by omega),if_neg (by omega)]
theorem WW {ws:List Int} {t:Int} {es:List Ex} {cs:List Int} {ks:List Pn} {lv:Nat} {k:Int} (h:k≠1∧k≠2∧k≠3∧k≠4∧k≠5∧k≠6∧k≠7∧k≠8):aH C0 109 [.i (.iref [.int k, .int t, .isl (Ex.aB es), .isl (aG cs), .isl (Pn.aB ks)]), .i (.isl (aG ws)), .int lv] []=some (.int 0,[]):=by
 rw[aD rfl Tryz.func109 rfl rfl];have c1:¬ (ks.length:Int)=-1:=by omega
 have hn:=Y1 h;simp[h.2.2.1,hn,c1]
theorem AGN {ws:List Int} {t:Int} {es:List Ex} {cs:List Int} {ks:List Pn} {lv:Nat} (h:¬ ((ks.length:Int)=0∧(es.length:Int)=0∧True∧cs=[])):aH C0 109 [.i (.iref [.int 1, .int t, .isl (Ex.aB es), .isl (aG cs), .isl (Pn.aB ks)]), .i (.isl (aG ws)), .int lv] []=some (.int 0,[]):=by
 rw[aD rfl Tryz.func109 rfl rfl];by_cases c1:(ks.length:Int)=0
 case neg=>simp at c1;simp[c1]
 by_cases c2:(es.length:Int)=0
 case neg=>simp at c2;simp[c1,c2]
 by_cases c5:cs=[]
 case neg=>simp[c1,c2,c5]
 exact absurd (by simp[c1,c2,c5]) h
theorem AGM {ws:List Int} {t:Int} {es:List Ex} {cs:List Int} {ks:List Pn} {lv:Nat} (h:¬ ((ks.length:Int)=1∧(es.length:Int)=1∧lv≠0∧t=0∧cs=[])):aH C0 109 [.i (.iref [.int 2, .int t, .isl (Ex.aB es), .isl (aG cs), .isl (Pn.aB ks)]), .i (.isl (aG ws)), .int lv] []=some (.int 0,[]):=by
 rw[aD rfl Tryz.func109 rfl rfl];by_cases c1:(ks.length:Int)=1
 case neg=>simp[c1]
 by_cases c2:(es.length:Int)=1
 case neg=>simp[c1,c2]
 by_cases c3:lv=0
 case pos=>subst c3;simp[c1,c2]
 have c3':¬ (lv:Int)=0:=by omega
 by_cases c4:t=0
 case neg=>simp[c1,c2,c3,c3',c4]
 by_cases c5:cs=[]
 case neg=>simp[c1,c2,c3,c3',c4,c5]
 exact absurd (by simp[c1,c2,c3,c3',c4,c5]) h
theorem AGL {ws:List Int} {t:Int} {es:List Ex} {cs:List Int} {ks:List Pn} {lv:Nat} (h:¬ ((ks.length:Int)=1∧(es.length:Int)=(if bE es.length=true then(es.length:Int)else 1)∧lv≠0∧t=0∧cs=[])):aH C0 109 [.i (.iref [.int 3, .int t, .isl (Ex.aB es), .isl (aG cs), .isl (Pn.aB ks)]), .i (.isl (aG ws)), .int lv] []=some (.int 0,[]):=by
 rw[aD rfl Tryz.func109 rfl rfl]
 cases hv:bE es.length
 ·have hq:(es.length:Int)≠1:=fun hq=>by rw[hq]at hv;simp[bE]at hv
  by_cases c1:(ks.length:Int)=1
  case neg=>simp[hv,c1]
  simp[hv,c1,hq]
 by_cases c1:(ks.length:Int)=1
 case neg=>simp[hv,c1]
 by_cases c3:lv=0
 case pos=>subst c3;simp[hv,c1]
 have c3':¬ (lv:Int)=0:=by omega
 by_cases c4:t=0
 case neg=>simp[hv,c1,c3,c3',c4]
 by_cases c5:cs=[]
 case neg=>simp[hv,c1,c3,c3',c4,c5]
 exact absurd (by simp[hv,c1,c3,c4,c5]) h
theorem AGK {ws:List Int} {t:Int} {es:List Ex} {cs:List Int} {ks:List Pn} {lv:Nat} (h:¬ ((ks.length:Int)=2∧(es.length:Int)=1∧lv≠0∧t=0∧cs=[])):aH C0 109 [.i (.iref [.int 4, .int t, .isl (Ex.aB es), .isl (aG cs), .isl (Pn.aB ks)]), .i (.isl (aG ws)), .int lv] []=some (.int 0,[]):=by
 rw[aD rfl Tryz.func109 rfl rfl];by_cases c1:(ks.length:Int)=2
 case neg=>simp[c1]
 by_cases c2:(es.length:Int)=1
 case neg=>simp[c1,c2]
 by_cases c3:lv=0
 case pos=>subst c3;simp[c1,c2]
 have c3':¬ (lv:Int)=0:=by omega
 by_cases c4:t=0
 case neg=>simp[c1,c2,c3,c3',c4]
 by_cases c5:cs=[]
 case neg=>simp[c1,c2,c3,c3',c4,c5]
 exact absurd (by simp[c1,c2,c3,c3',c4,c5]) h
theorem AGJ {ws:List Int} {t:Int} {es:List Ex} {cs:List Int} {ks:List Pn} {lv:Nat} (h:¬ ((ks.length:Int)=2∧(es.length:Int)=1∧lv≠0∧t=0∧cs=[])):aH C0 109 [.i (.iref [.int 5, .int t, .isl (Ex.aB es), .isl (aG cs), .isl (Pn.aB ks)]), .i (.isl (aG ws)), .int lv] []=some (.int 0,[]):=by
 rw[aD rfl Tryz.func109 rfl rfl];by_cases c1:(ks.length:Int)=2
 case neg=>simp[c1]
 by_cases c2:(es.length:Int)=1
 case neg=>simp[c1,c2]
 by_cases c3:lv=0
 case pos=>subst c3;simp[c1,c2]
 have c3':¬ (lv:Int)=0:=by omega
 by_cases c4:t=0
 case neg=>simp[c1,c2,c3,c3',c4]
 by_cases c5:cs=[]
 case neg=>simp[c1,c2,c3,c3',c4,c5]
 exact absurd (by simp[c1,c2,c3,c3',c4,c5]) h
theorem AGI {ws:List Int} {t:Int} {es:List Ex} {cs:List Int} {ks:List Pn} {lv:Nat} (h:¬ ((ks.length:Int)=2∧(es.length:Int)=0∧lv≠0∧t=0∧cs=[])):aH C0 109 [.i (.iref [.int 6, .int t, .isl (Ex.aB es), .isl (aG cs), .isl (Pn.aB ks)]), .i (.isl (aG ws)), .int lv] []=some (.int 0,[]):=by
 rw[aD rfl Tryz.func109 rfl rfl];by_cases c1:(ks.length:Int)=2
 case neg=>simp[c1]
 by_cases c2:(es.length:Int)=0
 case neg=>simp at c2;simp[c1,c2]
 by_cases c3:lv=0
 case pos=>subst c3;simp[c1,c2]
 have c3':¬ (lv:Int)=0:=by omega
 by_cases c4:t=0
 case neg=>simp[c1,c2,c3,c3',c4]
 by_cases c5:cs=[]
 case neg=>simp[c1,c2,c3,c3',c4,c5]
 exact absurd (by simp[c1,c2,c3,c3',c4,c5]) h
theorem AGH {ws:List Int} {t:Int} {es:List Ex} {cs:List Int} {ks:List Pn} {lv:Nat} (h:¬ ((ks.length:Int)=1∧(es.length:Int)=0∧lv≠0∧t=0∧cs=[])):aH C0 109 [.i (.iref [.int 7, .int t, .isl (Ex.aB es), .isl (aG cs), .isl (Pn.aB ks)]), .i (.isl (aG ws)), .int lv] []=some (.int 0,[]):=by
 rw[aD rfl Tryz.func109 rfl rfl];by_cases c1:(ks.length:Int)=1
 case neg=>simp[c1]
 by_cases c2:(es.length:Int)=0
 case neg=>simp at c2;simp[c1,c2]
 by_cases c3:lv=0
 case pos=>subst c3;simp[c1,c2]
 have c3':¬ (lv:Int)=0:=by omega
 by_cases c4:t=0
 case neg=>simp[c1,c2,c3,c3',c4]
 by_cases c5:cs=[]
 case neg=>simp[c1,c2,c3,c3',c4,c5]
 exact absurd (by simp[c1,c2,c3,c3',c4,c5]) h
theorem AGG {ws:List Int} {t:Int} {es:List Ex} {cs:List Int} {ks:List Pn} {lv:Nat} (h:¬ ((ks.length:Int)=1∧(es.length:Int)=0∧lv≠0∧t=0)):aH C0 109 [.i (.iref [.int 8, .int t, .isl (Ex.aB es), .isl (aG cs), .isl (Pn.aB ks)]), .i (.isl (aG ws)), .int lv] []=some (.int 0,[]):=by
 rw[aD rfl Tryz.func109 rfl rfl];by_cases c1:(ks.length:Int)=1
 case neg=>simp[c1]
 by_cases c2:(es.length:Int)=0
 case neg=>simp at c2;simp[c1,c2]
 by_cases c3:lv=0
 case pos=>subst c3;simp[c1,c2]
 have c3':¬ (lv:Int)=0:=by omega
 by_cases c4:t=0
 case neg=>simp[c1,c2,c3,c3',c4]
 exact absurd (by simp[c1,c2,c3,c3',c4]) h
theorem AC3 {ws:List Int} {t:Int} {lv:Nat}:aH C0 109 [.i (.iref [.int 1, .int t, .isl (Ex.aB []), .isl (aG []), .isl (Pn.aB [])]), .i (.isl (aG ws)), .int lv] []=some (.int (if 0≤t then(ws[t.toNat]?).getD 0 else 0),[]):=by
 rw[aD rfl Tryz.func109 rfl rfl];by_cases h0:0≤t
 case neg=>simp[Ex.aB,Pn.aB,aG,h0,show t<0 by omega]
 cases hx:ws[t.toNat]? with
 | none =>
  have:=xD.1 hx;simp[Ex.aB,Pn.aB,aG,h0,show ¬ t<0 by omega,show(ws.length:Int)≤t by omega]
 | some x =>
  have r1:=(zZ.1 hx).1;have r2:=aT hx;simp[Ex.aB,Pn.aB,aG,h0,show ¬ t<0 by omega,show ¬ (ws.length:Int)≤t by omega,r2,show t<ws.length by omega]
theorem AC2 {ws:List Int} {es:List Ex} {a:Pn} {lv:Nat} {va:Int} (hl:lv≠0) (hl8:lv≤8) (hd:Pn.headOk (Pn.mk 2 0 es [] [a])=true) (ha:aH C0 109 [.i (.iref a.cells), .i (.isl (aG ws)), .int (lv-1:Nat)] []=some (.int va,[])) (ra:0≤va∧va≤6):aH C0 109 [.i (.iref [.int 2, .int 0, .isl (Ex.aB es), .isl (aG []), .isl (Pn.aB [a])]), .i (.isl (aG ws)), .int lv] []=some (.int (if va=0 then 0 else dB 2 es [] va 0),[]):=by
 rw[aD rfl Tryz.func109 rfl rfl];have c3':¬ (lv:Int)=0:=by omega
 have w1:IntKind.i64.wrap ((lv:Int)-1)=(lv-1:Nat):=by rw[wrO];omega
 have r0:gF [a.cells] 0=some a.cells:=rfl;have hov:=gV (Pn.mk 2 0 es [] [a]) va 0 ra (by omega) hd;rw[Pn.aW]at hov;simp only[Pn.fJ,Pn.dF,Pn.fV,Pn.aB,aG,Ex.aB]at hov;rw[Pn.aA a]at ha hov r0
 have c2:(es.length:Int)=1:=by
  simp only[Pn.headOk,zU,zP,Pn.dF,Pn.fJ]at hd;simpa using hd.2.1
 simp[c2,hl,c3',Pn.aB,aG,Ex.aB];rw[Pn.aA a];rw[aF];by_cases z1:va=0
 case pos=>simp[w1,ha,r0,z1]
 simp[w1,ha,r0,z1,bN];rw[aF];simp[hov,z1]
theorem AC1 {ws:List Int} {es:List Ex} {a:Pn} {lv:Nat} {va:Int} (hl:lv≠0) (hl8:lv≤8) (hd:Pn.headOk (Pn.mk 3 0 es [] [a])=true) (ha:aH C0 109 [.i (.iref a.cells), .i (.isl (aG ws)), .int (lv-1:Nat)] []=some (.int va,[])) (ra:0≤va∧va≤6):aH C0 109 [.i (.iref [.int 3, .int 0, .isl (Ex.aB es), .isl (aG []), .isl (Pn.aB [a])]), .i (.isl (aG ws)), .int lv] []=some (.int (if va=0 then 0 else dB 3 es [] va 0),[]):=by
 rw[aD rfl Tryz.func109 rfl rfl];have c3':¬ (lv:Int)=0:=by omega
 have w1:IntKind.i64.wrap ((lv:Int)-1)=(lv-1:Nat):=by rw[wrO];omega
 have r0:gF [a.cells] 0=some a.cells:=rfl;have hov:=gV (Pn.mk 3 0 es [] [a]) va 0 ra (by omega) hd;rw[Pn.aW]at hov;simp only[Pn.fJ,Pn.dF,Pn.fV,Pn.aB,aG,Ex.aB]at hov;rw[Pn.aA a]at ha hov r0
 have hv:bE es.length=true∨(es.length:Int)=1:=by
  simp only[Pn.headOk,zU,zP,Pn.dF,Pn.fJ]at hd;have:=hd.2.1;split at this
  ·rename_i h;exact .inl h.2
  ·exact .inr (by simpa using this)
 have hv:bE es.length=true:=by
  rcases hv with h|h
  ·exact h
  ·rw[h];decide
 simp[hv,hl,c3',Pn.aB,aG,Ex.aB];rw[Pn.aA a];rw[aF];by_cases z1:va=0
 case pos=>simp[w1,ha,r0,z1]
 simp[w1,ha,r0,z1,bN];rw[aF];simp[hov,z1]
theorem AC0 {ws:List Int} {es:List Ex} {a b:Pn} {lv:Nat} {va vb:Int} (hl:lv≠0) (hl8:lv≤8) (hd:Pn.headOk (Pn.mk 4 0 es [] [a,b])=true) (ha:aH C0 109 [.i (.iref a.cells), .i (.isl (aG ws)), .int (lv-1:Nat)] []=some (.int va,[])) (ra:0≤va∧va≤6) (hb:aH C0 109 [.i (.iref b.cells), .i (.isl (aG ws)), .int (lv-1:Nat)] []=some (.int vb,[])) (rb:0≤vb∧vb≤6):aH C0 109 [.i (.iref [.int 4, .int 0, .isl (Ex.aB es), .isl (aG []), .isl (Pn.aB [a,b])]), .i (.isl (aG ws)), .int lv] []=some (.int (if va=0∨vb=0 then 0 else dB 4 es [] va vb),[]):=by
 rw[aD rfl Tryz.func109 rfl rfl];have c3':¬ (lv:Int)=0:=by omega
 have w1:IntKind.i64.wrap ((lv:Int)-1)=(lv-1:Nat):=by rw[wrO];omega
 have r0:gF [a.cells,b.cells] 0=some a.cells:=rfl;have r1:gF [a.cells,b.cells] 1=some b.cells:=rfl;have hov:=gV (Pn.mk 4 0 es [] [a,b]) va vb ra rb hd;rw[Pn.aW]at hov;simp only[Pn.fJ,Pn.dF,Pn.fV,Pn.aB,aG,Ex.aB]at hov;rw[Pn.aA a]at ha hov r0 r1;rw[Pn.aA b]at hb hov r0 r1
 have c2:(es.length:Int)=1:=by
  simp only[Pn.headOk,zU,zP,Pn.dF,Pn.fJ]at hd;simpa using hd.2.1
 simp[c2,hl,c3',Pn.aB,aG,Ex.aB];rw[Pn.aA a,Pn.aA b];rw[aF];by_cases z1:va=0
 case pos=>simp[w1,ha,r0,z1]
 simp[w1,ha,r0,z1,bN];rw[aF];by_cases z2:vb=0
 case pos=>simp[w1,hb,r1,z2]
 simp[w1,hb,r1,z1,z2,wrap64 (x:=2) (by omega) (by omega)];rw[aF];simp[hov,z1,z2]
theorem ABZ {ws:List Int} {es:List Ex} {a b:Pn} {lv:Nat} {va vb:Int} (hl:lv≠0) (hl8:lv≤8) (hd:Pn.headOk (Pn.mk 5 0 es [] [a,b])=true) (ha:aH C0 109 [.i (.iref a.cells), .i (.isl (aG ws)), .int (lv-1:Nat)] []=some (.int va,[])) (ra:0≤va∧va≤6) (hb:aH C0 109 [.i (.iref b.cells), .i (.isl (aG ws)), .int (lv-1:Nat)] []=some (.int vb,[])) (rb:0≤vb∧vb≤6):aH C0 109 [.i (.iref [.int 5, .int 0, .isl (Ex.aB es), .isl (aG []), .isl (Pn.aB [a,b])]), .i (.isl (aG ws)), .int lv] []=some (.int (if va=0∨vb=0 then 0 else dB 5 es [] va vb),[]):=by
 rw[aD rfl Tryz.func109 rfl rfl];have c3':¬ (lv:Int)=0:=by omega
 have w1:IntKind.i64.wrap ((lv:Int)-1)=(lv-1:Nat):=by rw[wrO];omega
 have r0:gF [a.cells,b.cells] 0=some a.cells:=rfl;have r1:gF [a.cells,b.cells] 1=some b.cells:=rfl;have hov:=gV (Pn.mk 5 0 es [] [a,b]) va vb ra rb hd;rw[Pn.aW]at hov;simp only[Pn.fJ,Pn.dF,Pn.fV,Pn.aB,aG,Ex.aB]at hov;rw[Pn.aA a]at ha hov r0 r1;rw[Pn.aA b]at hb hov r0 r1
 have c2:(es.length:Int)=1:=by
  simp only[Pn.headOk,zU,zP,Pn.dF,Pn.fJ]at hd;simpa using hd.2.1
 simp[c2,hl,c3',Pn.aB,aG,Ex.aB];rw[Pn.aA a,Pn.aA b];rw[aF];by_cases z1:va=0
 case pos=>simp[w1,ha,r0,z1]
 simp[w1,ha,r0,z1,bN];rw[aF];by_cases z2:vb=0
 case pos=>simp[w1,hb,r1,z2]
 simp[w1,hb,r1,z1,z2,wrap64 (x:=2) (by omega) (by omega)];rw[aF];simp[hov,z1,z2]
theorem ABY {ws:List Int} {a b:Pn} {lv:Nat} {va vb:Int} (hl:lv≠0) (hl8:lv≤8) (hd:Pn.headOk (Pn.mk 6 0 [] [] [a,b])=true) (ha:aH C0 109 [.i (.iref a.cells), .i (.isl (aG ws)), .int (lv-1:Nat)] []=some (.int va,[])) (ra:0≤va∧va≤6) (hb:aH C0 109 [.i (.iref b.cells), .i (.isl (aG ws)), .int (lv-1:Nat)] []=some (.int vb,[])) (rb:0≤vb∧vb≤6):aH C0 109 [.i (.iref [.int 6, .int 0, .isl (Ex.aB []), .isl (aG []), .isl (Pn.aB [a,b])]), .i (.isl (aG ws)), .int lv] []=some (.int (if va=0∨vb=0 then 0 else dB 6 [] [] va vb),[]):=by
 rw[aD rfl Tryz.func109 rfl rfl];have c3':¬ (lv:Int)=0:=by omega
 have w1:IntKind.i64.wrap ((lv:Int)-1)=(lv-1:Nat):=by rw[wrO];omega
 have r0:gF [a.cells,b.cells] 0=some a.cells:=rfl;have r1:gF [a.cells,b.cells] 1=some b.cells:=rfl;have hov:=gV (Pn.mk 6 0 [] [] [a,b]) va vb ra rb hd;rw[Pn.aW]at hov;simp only[Pn.fJ,Pn.dF,Pn.fV,Pn.aB,aG,Ex.aB]at hov;rw[Pn.aA a]at ha hov r0 r1;rw[Pn.aA b]at hb hov r0 r1;simp[hl,c3',Pn.aB,aG,Ex.aB];rw[Pn.aA a,Pn.aA b];rw[aF];by_cases z1:va=0
 case pos=>simp[w1,ha,r0,z1]
 simp[w1,ha,r0,z1,bN];rw[aF];by_cases z2:vb=0
 case pos=>simp[w1,hb,r1,z2]
 simp[w1,hb,r1,z1,z2,wrap64 (x:=2) (by omega) (by omega)];rw[aF];simp[hov,z1,z2]
theorem ABX {ws:List Int} {a:Pn} {lv:Nat} {va:Int} (hl:lv≠0) (hl8:lv≤8) (hd:Pn.headOk (Pn.mk 7 0 [] [] [a])=true) (ha:aH C0 109 [.i (.iref a.cells), .i (.isl (aG ws)), .int (lv-1:Nat)] []=some (.int va,[])) (ra:0≤va∧va≤6):aH C0 109 [.i (.iref [.int 7, .int 0, .isl (Ex.aB []), .isl (aG []), .isl (Pn.aB [a])]), .i (.isl (aG ws)), .int lv] []=some (.int (if va=0 then 0 else dB 7 [] [] va 0),[]):=by
 rw[aD rfl Tryz.func109 rfl rfl];have c3':¬ (lv:Int)=0:=by omega
 have w1:IntKind.i64.wrap ((lv:Int)-1)=(lv-1:Nat):=by rw[wrO];omega
 have r0:gF [a.cells] 0=some a.cells:=rfl;have hov:=gV (Pn.mk 7 0 [] [] [a]) va 0 ra (by omega) hd;rw[Pn.aW]at hov;simp only[Pn.fJ,Pn.dF,Pn.fV,Pn.aB,aG,Ex.aB]at hov;rw[Pn.aA a]at ha hov r0;simp[hl,c3',Pn.aB,aG,Ex.aB];rw[Pn.aA a];rw[aF];by_cases z1:va=0
 case pos=>simp[w1,ha,r0,z1]
 simp[w1,ha,r0,z1,bN];rw[aF];simp[hov,z1]
theorem ABW {ws:List Int} {cs:List Int} {a:Pn} {lv:Nat} {va:Int} (hl:lv≠0) (hl8:lv≤8) (hd:Pn.headOk (Pn.mk 8 0 [] cs [a])=true) (ha:aH C0 109 [.i (.iref a.cells), .i (.isl (aG ws)), .int (lv-1:Nat)] []=some (.int va,[])) (ra:0≤va∧va≤6):aH C0 109 [.i (.iref [.int 8, .int 0, .isl (Ex.aB []), .isl (aG cs), .isl (Pn.aB [a])]), .i (.isl (aG ws)), .int lv] []=some (.int (if va=0 then 0 else dB 8 [] cs va 0),[]):=by
 rw[aD rfl Tryz.func109 rfl rfl];have c3':¬ (lv:Int)=0:=by omega
 have w1:IntKind.i64.wrap ((lv:Int)-1)=(lv-1:Nat):=by rw[wrO];omega
 have r0:gF [a.cells] 0=some a.cells:=rfl;have hov:=gV (Pn.mk 8 0 [] cs [a]) va 0 ra (by omega) hd;rw[Pn.aW]at hov;simp only[Pn.fJ,Pn.dF,Pn.fV,Pn.aB,aG,Ex.aB]at hov;rw[Pn.aA a]at ha hov r0;simp[hl,c3',Pn.aB,aG,Ex.aB];rw[Pn.aA a];rw[aF];by_cases z1:va=0
 case pos=>simp[w1,ha,r0,z1]
 simp[w1,ha,r0,z1,bN];rw[aF];simp[hov,z1]
theorem mH (k t:Int) (es:List Ex) (cs:List Int) (ks:List Pn):Pn.headOk (.mk k t es cs ks)=true↔((ks.length:Int)=jE k∧(es.length:Int)=(if k=3∧bE es.length=true then(es.length:Int)else eU k)∧(k=1∨t=0)∧(k=8∨cs=[])):=by
 unfold Pn.headOk;simp only[zU,zC5,zP];exact Iff.rfl
theorem lG {α:Type} {l:List α} (h:(l.length:Int)=1):∃ a,l=[a]:=List.length_eq_one_iff.1 (by omega)
theorem BL {α:Type} {l:List α} (h:(l.length:Int)=2):∃ a b,l=[a,b]:=by
 match l,h with
 | [a,b],_=>exact⟨a,b,rfl⟩
 | [],h=>simp at h
 | [_],h=>simp at h
 | _::_::_::_,h=>simp at h;omega
theorem gQ {α:Type} {l:List α} (h:(l.length:Int)=0):l=[]:=zW.1 (by omega)
theorem wH {ws:List Int} (hw:∀ w∈ws,0≤w∧w≤6):∀ (p:Pn) (lv:Nat),lv≤8→aH C0 109 [.i (.iref p.cells), .i (.isl (aG ws)), .int lv] []=some (.int (p.wd ws lv),[]):=by
 intro p
 induction p using Pn.ind with
 | h k t es cs ks ih =>
  intro lv hlv;rw[Pn.aW];by_cases hh:Pn.headOk (.mk k t es cs ks)=true∧(ks=[]∨lv≠0)
  case neg =>
   rw[Pn.ZK hh];rw[mH]at hh
   rcases sI k with rfl|rfl|rfl|rfl|rfl|rfl|rfl|rfl|h
   ·refine AGN fun h=>hh ?_
    have:=gQ h.1;simp[h.2.1,h.2.2.2,this]
   ·exact AGM fun h=>hh (by simp[h.1,h.2.1,h.2.2.1,h.2.2.2.1,h.2.2.2.2])
   ·exact AGL fun h=>hh (by refine⟨⟨by simp[h.1],by simpa using h.2.1,by simp[h.2.2.2.1],by simp[h.2.2.2.2]⟩, .inr h.2.2.1⟩)
   ·exact AGK fun h=>hh (by simp[h.1,h.2.1,h.2.2.1,h.2.2.2.1,h.2.2.2.2])
   ·exact AGJ fun h=>hh (by simp[h.1,h.2.1,h.2.2.1,h.2.2.2.1,h.2.2.2.2])
   ·exact AGI fun h=>hh (by simp[h.1,gQ h.2.1,h.2.2.1,h.2.2.2.1,h.2.2.2.2])
   ·exact AGH fun h=>hh (by simp[h.1,gQ h.2.1,h.2.2.1,h.2.2.2.1,h.2.2.2.2])
   ·exact AGG fun h=>hh (by simp[h.1,gQ h.2.1,h.2.2.1,h.2.2.2])
   ·exact WW h
  have hd:=hh.1;have hx:=Pn.uZ ws lv (.mk k t es cs ks);rw[if_pos (by simpa using hh)]at hx;simp only[Pn.fJ,Pn.kS,Pn.dF,Pn.fV,Pn.iW]at hx;rw[hx];rw[mH]at hh;obtain⟨⟨h1,h2,h3,h4⟩,h5⟩:=hh;have hr:=fun a=>Pn.iD hw a (lv-1)
  rcases sI k with rfl|rfl|rfl|rfl|rfl|rfl|rfl|rfl|h
  ·obtain rfl:=gQ (by simpa using h1);obtain rfl:es=[]:=gQ (by simpa using h2);obtain rfl:cs=[]:=by simpa using h4
   exact AC3
  ·obtain⟨a,rfl⟩:=lG (by simpa using h1);obtain rfl:cs=[]:=by simpa using h4
   obtain rfl:t=0:=by simpa using h3
   have hl:lv≠0:=by simpa using h5
   rw[AC2 hl hlv hd (ih a (by simp) (lv-1) (by omega)) (hr a)];by_cases z:a.wd ws (lv-1)=0<;>simp[z]
  ·obtain⟨a,rfl⟩:=lG (by simpa using h1);obtain rfl:cs=[]:=by simpa using h4
   obtain rfl:t=0:=by simpa using h3
   have hl:lv≠0:=by simpa using h5
   rw[AC1 hl hlv hd (ih a (by simp) (lv-1) (by omega)) (hr a)];by_cases z:a.wd ws (lv-1)=0<;>simp[z]
  ·obtain⟨a,b,rfl⟩:=BL (by simpa using h1);obtain rfl:cs=[]:=by simpa using h4
   obtain rfl:t=0:=by simpa using h3
   have hl:lv≠0:=by simpa using h5
   rw[AC0 hl hlv hd (ih a (by simp) (lv-1) (by omega)) (hr a) (ih b (by simp) (lv-1) (by omega)) (hr b)];by_cases z:a.wd ws (lv-1)=0<;>by_cases z2:b.wd ws (lv-1)=0<;>simp[z,z2]
  ·obtain⟨a,b,rfl⟩:=BL (by simpa using h1);obtain rfl:cs=[]:=by simpa using h4
   obtain rfl:t=0:=by simpa using h3
   have hl:lv≠0:=by simpa using h5
   rw[ABZ hl hlv hd (ih a (by simp) (lv-1) (by omega)) (hr a) (ih b (by simp) (lv-1) (by omega)) (hr b)];by_cases z:a.wd ws (lv-1)=0<;>by_cases z2:b.wd ws (lv-1)=0<;>simp[z,z2]
  ·obtain⟨a,b,rfl⟩:=BL (by simpa using h1);obtain rfl:es=[]:=gQ (by simpa using h2);obtain rfl:cs=[]:=by simpa using h4
   obtain rfl:t=0:=by simpa using h3
   have hl:lv≠0:=by simpa using h5
   rw[ABY hl hlv hd (ih a (by simp) (lv-1) (by omega)) (hr a) (ih b (by simp) (lv-1) (by omega)) (hr b)];by_cases z:a.wd ws (lv-1)=0<;>by_cases z2:b.wd ws (lv-1)=0<;>simp[z,z2]
  ·obtain⟨a,rfl⟩:=lG (by simpa using h1);obtain rfl:es=[]:=gQ (by simpa using h2);obtain rfl:cs=[]:=by simpa using h4
   obtain rfl:t=0:=by simpa using h3
   have hl:lv≠0:=by simpa using h5
   rw[ABX hl hlv hd (ih a (by simp) (lv-1) (by omega)) (hr a)];by_cases z:a.wd ws (lv-1)=0<;>simp[z]
  ·obtain⟨a,rfl⟩:=lG (by simpa using h1);obtain rfl:es=[]:=gQ (by simpa using h2);obtain rfl:t=0:=by simpa using h3
   have hl:lv≠0:=by simpa using h5
   rw[ABW hl hlv hd (ih a (by simp) (lv-1) (by omega)) (hr a)];by_cases z:a.wd ws (lv-1)=0<;>simp[z]
  ·exact absurd h1 (by rw[Y1 h];omega)
def VX (ws:List Int) (i:Nat):AS :=
 { env:=[(0, .i (.isl (aG ws))),(2, .bool false),(4,jk i (.int (ws[i-1]?.getD 0))),(12, .bool false),(13, .i (.isl (aG ws))),(14, .int ws.length),(15, .int i),(16,jk i (.bool true)),(21,jk i (.bool false))],st:=[] }
theorem JI (ws:List Int):aH C0 108 [.i (.isl (aG ws))] []=some (.bool (jS ws),[]):=by
 rw[aD rfl Tryz.func108 rfl rfl];by_cases h1:ws.length=0
 ·have:=zW.1 h1;subst this;simp[aG,jS]
 by_cases h4:ws.length≤4
 case neg=>simp[jS,h4,show ¬ (ws.length:Int)<1 by omega,show 4<(ws.length:Int)by omega]
 simp[show ¬ (ws.length:Int)<1 by omega,show ¬ 4<(ws.length:Int)by omega];obtain⟨j,h1',h2⟩:=gB bE ws;rw[aQ (VX ws) j (by simp[VX])]
 ·rw[aF]
  rcases h2 with ⟨hj,ha⟩|⟨x,h3,_,h5,ha⟩
  ·simp[VX,hj,jS,h4,ha,show 1≤ws.length by omega]
  ·have r1:=(zZ.1 h3).1;have r2:=aT h3;simp[VX,r1,r2,h5,jS,ha]
 ·intro i hi;obtain⟨x,h3,_,h5⟩:=h1' i hi;have r1:=(zZ.1 h3).1;have r2:=aT h3;have w2:IntKind.i64.wrap ((i:Int)+1)=i+1:=wrO;have h3':ws[i]=x:=(zZ.1 h3).2;simp[VX,r1,r2,h5,w2,h3']
theorem kJ {ws:List Int} (h:jS ws=true):∀ w∈ws,0≤w∧w≤6:=by
 intro w hw;simp only[jS,zU]at h;have:=zS.1 h.2 w hw;simp[bE]at this;omega
theorem nT (p:Pn) (ws:List Int):aH C0 68 [.i (.agg p.cells), .i (.isl (aG ws))] []=some (.int (p.width ws),[]):=by
 rw[aD rfl Tryz.func68 rfl rfl];have hv:=JI ws
 cases h:jS ws with
 | false=>rw[h]at hv;rw[Pn.aA];simp[hv,Pn.width,h]
 | true =>
  rw[h]at hv;have hb:=wH (kJ h) p 8 (by omega);rw[show((8:Nat):Int)=8 from rfl]at hb;rw[Pn.aA]at hb ⊢;simp[hv,Pn.width,h,hb]
def only (k t:Int) (es:List Ex) (cs:List Int) (ks:List Pn):Bool:=decide (1≤k∧k≤8) && (decide ((ks.length:Int)=jE k) && (decide ((es.length:Int)=if k=3 then(es.length:Int)else eU k) && ((decide (t=0) || decide (k=1)) && (decide (cs=[]) || decide (k=8)))))
theorem eG (k t:Int) (es:List Ex) (cs:List Int) (ks:List Pn):aH C0 139 [.i (.agg [.int k, .int t, .isl (Ex.aB es), .isl (aG cs), .isl (Pn.aB ks)])] []=some (.bool (only k t es cs ks),[]):=by
 rw[aD rfl Tryz.func139 rfl rfl]
 rcases sI k with rfl|rfl|rfl|rfl|rfl|rfl|rfl|rfl|h
 case inr.inr.inr.inr.inr.inr.inr.inr =>
  have h1:¬ (1≤k∧k≤8):=by omega
  simp[h.1,h.2.1,h.2.2.1,h.2.2.2.1,h.2.2.2.2.1,h.2.2.2.2.2.1,h1,only]
 case inr.inr.inl =>
  by_cases c1:(ks.length:Int)=1
  case neg=>simp[c1,only]
  by_cases c3:t=0
  case neg=>simp[c1,c3,only]
  by_cases c5:cs=[]<;>simp[c1,c3,c5,only,aG]
 case inl =>
  by_cases c1:ks=[]
  case neg=>simp[c1,only]
  by_cases c2:es=[]
  case neg=>simp[c1,c2,only]
  by_cases c3:t=0<;>by_cases c5:cs=[]<;>simp[c1,c2,c3,c5,only,aG,Ex.aB,Pn.aB]
 case inr.inl =>
  by_cases c1:(ks.length:Int)=1
  case neg=>simp[c1,only]
  by_cases c2:(es.length:Int)=1
  case neg=>simp[c1,c2,only]
  by_cases c3:t=0
  case neg=>simp[c1,c2,c3,only]
  by_cases c5:cs=[]<;>simp[c1,c2,c3,c5,only,aG]
 case inr.inr.inr.inl =>
  by_cases c1:(ks.length:Int)=2
  case neg=>simp[c1,only]
  by_cases c2:(es.length:Int)=1
  case neg=>simp[c1,c2,only]
  by_cases c3:t=0
  case neg=>simp[c1,c2,c3,only]
  by_cases c5:cs=[]<;>simp[c1,c2,c3,c5,only,aG]
 case inr.inr.inr.inr.inl =>
  by_cases c1:(ks.length:Int)=2
  case neg=>simp[c1,only]
  by_cases c2:(es.length:Int)=1
  case neg=>simp[c1,c2,only]
  by_cases c3:t=0
  case neg=>simp[c1,c2,c3,only]
  by_cases c5:cs=[]<;>simp[c1,c2,c3,c5,only,aG]
 case inr.inr.inr.inr.inr.inl =>
  by_cases c1:(ks.length:Int)=2
  case neg=>simp[c1,only]
  by_cases c2:es=[]
  case neg=>simp[c1,c2,only]
  by_cases c3:t=0
  case neg=>simp[c1,c2,c3,only]
  by_cases c5:cs=[]<;>simp[c1,c2,c3,c5,only,aG,Ex.aB]
 case inr.inr.inr.inr.inr.inr.inl =>
  by_cases c1:(ks.length:Int)=1
  case neg=>simp[c1,only]
  by_cases c2:es=[]
  case neg=>simp[c1,c2,only]
  by_cases c3:t=0
  case neg=>simp[c1,c2,c3,only]
  by_cases c5:cs=[]<;>simp[c1,c2,c3,c5,only,aG,Ex.aB]
 case inr.inr.inr.inr.inr.inr.inr.inl =>
  by_cases c1:(ks.length:Int)=1
  case neg=>simp[c1,only]
  by_cases c2:es=[]
  case neg=>simp[c1,c2,only]
  by_cases c3:t=0
  case neg=>simp[c1,c2,c3,only]
  by_cases c5:cs=[]<;>simp[c1,c2,c3,c5,only,aG,Ex.aB]
theorem ANF {cs:List Int} {w:Int}:∀ {i:Nat},(∀ k,k<i→∃ x,(cs.zip (-1::cs))[k]?=some x∧x∈cs.zip (-1::cs)∧decide (x.2<x.1∧x.1<w)=true)→-1≤pv cs i∧(i≠0→0≤pv cs i)
 | 0,_=>by simp[pv]
 | i+1,h=>by
  obtain⟨x,h3,_,h4⟩:=h i (by omega);obtain⟨c1,c2⟩:=AP h3;rw[AE8 c1];have hb:x.2<x.1∧x.1<w:=by simpa using h4
  have:=ANF (i:=i) fun k hk=>h k (by omega)
  omega
def CX (cs:List Int) (w:Int) (i:Nat):AS :=
 { env:=[(0, .i (.isl (aG cs))),(1, .int w),(4, .bool false),(5, .int i),(9,jk i (.bool true)),(35,jk i (.bool false))],st:=[] }
theorem Q3 (cs:List Int) (w:Int) (hl:cs.length<9223372036854775808) (hw:0≤w∧w≤6):aH C0 142 [.i (.isl (aG cs)), .int w] []=some (.bool (rG w cs),[]):=by
 rw[aD rfl Tryz.func142 rfl rfl];have w1:IntKind.i64.wrap (w-1)=w-1:=wrO;simp;obtain⟨j,h1,h2⟩:=gB (fun x:Int×Int=>decide (x.2<x.1∧x.1<w)) (cs.zip (-1::cs));rw[aQ (CX cs w) j (by simp[CX])]
 ·rw[aF]
  rcases h2 with ⟨hj,ha⟩|⟨x,h3,_,h4,ha⟩
  ·rw[YY]at hj;have ha:rG w cs=true:=ha;simp[CX,hj,ha]
  ·obtain⟨c1,c2⟩:=AP h3;have r1:=(zZ.1 c1).1;have r2:=aT c1;have hb:¬ (x.2<x.1∧x.1<w):=by simpa using h4
   have ha:rG w cs=false:=ha;have hp:=ANF (i:=j) h1;by_cases hin:0≤x.1∧x.1≤w-1
   ·have hj:j≠0:=fun h=>by subst h;simp[pv]at c2;omega
    obtain⟨j,rfl⟩:∃ i,j=i+1:=⟨j-1,by omega⟩
    have q1:cs[j]?=some x.2:=by
     have:pv cs (j+1)=x.2:=c2;simp only[pv,yB]at this;rw[zX (by omega)]at this ⊢;simpa using this
    have q2:=aT q1;have w4:IntKind.i64.wrap ((j:Int)+1-1)=j:=by rw[wrO];omega
    have w5:IntKind.i64.wrap ((j:Int))=j:=by rw[wrO]
    simp[CX,r1,r2,w1,hin,ha,q2,w4,w5,show(0:Int)<j+1 by omega,show x.1≤x.2 by omega,show(0:Int)≤(j:Int)+1 by omega,show j<cs.length by omega,show((j:Int)+1<cs.length)by omega]
   ·simp[CX,r1,r2,w1,hin,ha]
 ·intro i hi;obtain⟨x,h3,_,h4⟩:=h1 i hi;obtain⟨c1,c2⟩:=AP h3;have r1:=(zZ.1 c1).1;have r2:=aT c1;have hb:x.2<x.1∧x.1<w:=by simpa using h4
  have hp:=ANF (i:=i) fun k hk=>h1 k (by omega)
  have hin:0≤x.1∧x.1≤w-1:=by omega
  have w2:IntKind.i64.wrap ((i:Int)+1)=i+1:=wrO;by_cases h0:i=0
  ·subst h0;simp[CX,r1,r2,w1,hin,bN]
  ·obtain⟨i,rfl⟩:∃ j,i=j+1:=⟨i-1,by omega⟩
   have q1:cs[i]?=some x.2:=by
    have:pv cs (i+1)=x.2:=c2;simp only[pv,yB]at this;rw[zX (by omega)]at this ⊢;simpa using this
   have q2:=aT q1;have w5:IntKind.i64.wrap ((i:Int))=i:=by rw[wrO]
   have w2':IntKind.i64.wrap ((i:Int)+1+1)=i+1+1:=wrO;simp[CX,r1,r2,w1,hin,q2,w5,w2',show(0:Int)<i+1 by omega,show ¬ x.1≤x.2 by omega,show(0:Int)≤(i:Int)+1 by omega,show i<cs.length by omega,show((i:Int)+1<cs.length)by omega]
def pW (es:List Ex) (w:Int):Int:=if es.all (Ex.ok w)=true∧es.length≤6 then(es.length:Int)else 0
def QX (es:List Ex) (w:Int) (i:Nat):AS :=
 { env:=[(0, .i (.isl (Ex.aB es))),(1, .int w),(4, .int 0),(5, .int i),(9,jk i (.bool true)),(18,jk i (.bool false)),(21, .junk)],st:=[] }
theorem G7 (es:List Ex) (w:Int) (hl:es.length<9223372036854775808):aH C0 141 [.i (.isl (Ex.aB es)), .int w] []=some (.int (pW es w),[]):=by
 rw[aD rfl Tryz.func141 rfl rfl];simp;obtain⟨j,h1,h2⟩:=gB (Ex.ok w) es;rw[aQ (QX es w) j (by simp[QX])]
 ·rw[aF]
  rcases h2 with ⟨hj,hall⟩|⟨x,h3,_,h5,hall⟩
  ·by_cases h6:es.length≤6
   ·have hq:pW es w=es.length:=if_pos ⟨hall,h6⟩;simp[QX,hj,hq,show ¬ (6:Int)<es.length by omega]
   ·have hq:pW es w=0:=if_neg fun h=>h6 h.2
    simp[QX,hj,hq,show(6:Int)<es.length by omega]
  ·have r1:=(zZ.1 h3).1;have r2:=Ex.aO h3;have r3:=QK w x;rw[h5]at r3;rw[Ex.aA]at r2 r3;have hq:pW es w=0:=if_neg fun h=>by rw[hall]at h;simp at h
   simp[QX,r1,r2,r3,hq]
 ·intro i hi;obtain⟨x,h3,_,h5⟩:=h1 i hi;have r1:=(zZ.1 h3).1;have r2:=Ex.aO h3;have r3:=QK w x;rw[h5]at r3;rw[Ex.aA]at r2 r3;have w2:IntKind.i64.wrap ((i:Int)+1)=i+1:=wrO;simp[QX,r1,r2,r3,w2]
def UX (ws:List Int) (i:Nat):AS :=
 { env:=[(0, .i (.isl (aG ws))),(2, .bool false),(3, .int i),(7,jk i (.bool true)),(15,jk i (.bool false))],st:=[] }
theorem FC (ws:List Int) (hl:ws.length<9223372036854775808):aH C0 121 [.i (.isl (aG ws))] []=some (.bool (jS ws),[]):=by
 rw[aD rfl Tryz.func121 rfl rfl];simp;obtain⟨j,h1',h2⟩:=gB bE ws;rw[aQ (UX ws) j (by simp[UX])]
 ·rw[aF]
  rcases h2 with ⟨hj,ha⟩|⟨x,h3,_,h5,ha⟩
  ·by_cases h4:1≤ws.length∧ws.length≤4
   ·simp[UX,hj,jS,h4,ha,show(1:Int)≤ws.length∧(ws.length:Int)≤4 by omega]
   ·simp[UX,hj,jS,h4,ha,show ¬ ((1:Int)≤ws.length∧(ws.length:Int)≤4)by omega]
  ·have r1:=(zZ.1 h3).1;have r2:=aT h3;have h5:¬ (1≤x∧x≤6):=by simpa [bE]using h5
   simp[UX,r1,r2,h5,jS,ha]
 ·intro i hi;obtain⟨x,h3,_,h5⟩:=h1' i hi;have r1:=(zZ.1 h3).1;have r2:=aT h3;have h5:1≤x∧x≤6:=by simpa [bE]using h5
  have w2:IntKind.i64.wrap ((i:Int)+1)=i+1:=wrO;simp[UX,r1,r2,h5,w2]
theorem AI9 {ws:List Int} {k t:Int} {es:List Ex} {cs:List Int} {ks:List Pn} {lv:Nat} (h:¬ (only k t es cs ks=true∧(ks=[]∨lv≠0))):aH C0 104 [.i (.agg [.int k, .int t, .isl (Ex.aB es), .isl (aG cs), .isl (Pn.aB ks)]), .i (.isl (aG ws)), .int lv] []=some (.int 0,[]):=by
 rw[aD rfl Tryz.func104 rfl rfl];have ho:=eG k t es cs ks
 cases hq:only k t es cs ks with
 | false=>rw[hq]at ho;simp[ho]
 | true =>
  rw[hq]at ho;by_cases hk:ks=[]
  ·exact absurd ⟨hq, .inl hk⟩ h
  by_cases hl:lv=0
  ·have:0<ks.length:=zB1.2 hk;subst hl;simp[ho,hk,this]
  ·exact absurd ⟨hq, .inr hl⟩ h
theorem AAC {ws:List Int} {lv:Nat} {t:Int} (ho:only 1 t [] [] []=true) (hw:ws.length<1000000000):aH C0 104 [.i (.agg [.int 1, .int t, .isl (Ex.aB []), .isl (aG []), .isl (Pn.aB [])]), .i (.isl (aG ws)), .int lv] []=some (.int (if 0≤t then(ws[t.toNat]?).getD 0 else 0),[]):=by
 rw[aD rfl Tryz.func104 rfl rfl];have hf:=eG 1 t [] [] [];rw[ho]at hf;have w1:IntKind.i64.wrap ((ws.length:Int)-1)=ws.length-1:=wrO;simp only[Ex.aB,Pn.aB,aG]at hf ⊢;simp[hf,w1];rw[aF];by_cases h0:0≤t
 case neg=>simp[h0,w1]
 cases hx:ws[t.toNat]? with
 | none =>
  have:=xD.1 hx;simp[h0,w1,show ¬ t≤ws.length-1 by omega]
 | some x =>
  have r1:=(zZ.1 hx).1;have r2:=aT hx;simp[h0,w1,show t≤ws.length-1 by omega,show t<ws.length by omega,r2]
theorem AAB {ws:List Int} {lv:Nat} {a:Pn} {va:Int} {e:Ex} (ho:only 2 0 [e] [] [a]=true) (hl:lv≠0) (hl8:lv≤8) (ha:aH C0 104 [.i (.agg a.cells), .i (.isl (aG ws)), .int (lv-1:Nat)] []=some (.int va,[])) (ra:0≤va∧va≤6):aH C0 104 [.i (.agg [.int 2, .int 0, .isl (Ex.aB [e]), .isl (aG []), .isl (Pn.aB [a])]), .i (.isl (aG ws)), .int lv] []=some (.int (if va=0 then 0 else if e.ok va=true then va else 0),[]):=by
 rw[aD rfl Tryz.func104 rfl rfl];have hf:=eG 2 0 [e] [] [a];rw[ho]at hf;have c3':¬ (lv:Int)=0:=by omega
 have w1:IntKind.i64.wrap ((lv:Int)-1)=(lv-1:Nat):=by rw[wrO];omega
 have w2:IntKind.i64.wrap (1:Int)=1:=bN;have w3:IntKind.i64.wrap (2:Int)=2:=wrO;have r0:gF [a.cells] 0=some a.cells:=rfl;simp only[Pn.aB,aG,Ex.aB]at hf ⊢;have q0:gF [e.cells] 0=some e.cells:=rfl;have qe:=QK (va) e;rw[Ex.aA e]at q0 qe hf ⊢;rw[Pn.aA a]at ha r0 hf ⊢;simp[hf,hl,c3'];rw[aF];by_cases z1:va=0
 case pos=>simp[w1,ha,r0,z1]
 simp[w1,w2,ha,r0,z1];rw[aF]
 cases hv:e.ok va<;>rw[hv]at qe<;>simp[z1,q0,qe]
theorem KJ {ws:List Int} {lv:Nat} {a:Pn} {va:Int} {es:List Ex} (ho:only 3 0 es [] [a]=true) (hl:lv≠0) (hl8:lv≤8) (ha:aH C0 104 [.i (.agg a.cells), .i (.isl (aG ws)), .int (lv-1:Nat)] []=some (.int va,[])) (ra:0≤va∧va≤6) (he:es.length<9223372036854775808):aH C0 104 [.i (.agg [.int 3, .int 0, .isl (Ex.aB es), .isl (aG []), .isl (Pn.aB [a])]), .i (.isl (aG ws)), .int lv] []=some (.int (if va=0 then 0 else pW es va),[]):=by
 rw[aD rfl Tryz.func104 rfl rfl];have hf:=eG 3 0 es [] [a];rw[ho]at hf;have c3':¬ (lv:Int)=0:=by omega
 have w1:IntKind.i64.wrap ((lv:Int)-1)=(lv-1:Nat):=by rw[wrO];omega
 have w2:IntKind.i64.wrap (1:Int)=1:=bN;have w3:IntKind.i64.wrap (2:Int)=2:=wrO;have r0:gF [a.cells] 0=some a.cells:=rfl;simp only[Pn.aB,aG,Ex.aB]at hf ⊢;rw[Pn.aA a]at ha r0 hf ⊢;simp[hf,hl,c3'];rw[aF];by_cases z1:va=0
 case pos=>simp[w1,ha,r0,z1]
 simp[w1,w2,ha,r0,z1];rw[aF];have hp:=G7 es va he;simp[z1,hp]
theorem AAA {ws:List Int} {lv:Nat} {a:Pn} {va:Int} {b:Pn} {vb:Int} {e:Ex} (ho:only 4 0 [e] [] [a,b]=true) (hl:lv≠0) (hl8:lv≤8) (ha:aH C0 104 [.i (.agg a.cells), .i (.isl (aG ws)), .int (lv-1:Nat)] []=some (.int va,[])) (ra:0≤va∧va≤6) (hb:aH C0 104 [.i (.agg b.cells), .i (.isl (aG ws)), .int (lv-1:Nat)] []=some (.int vb,[])) (rb:0≤vb∧vb≤6):aH C0 104 [.i (.agg [.int 4, .int 0, .isl (Ex.aB [e]), .isl (aG []), .isl (Pn.aB [a,b])]), .i (.isl (aG ws)), .int lv] []=some (.int (if va=0∨vb=0 then 0 else if va+vb≤6∧e.ok (va+vb)=true then va+vb else 0),[]):=by
 rw[aD rfl Tryz.func104 rfl rfl];have hf:=eG 4 0 [e] [] [a,b];rw[ho]at hf;have c3':¬ (lv:Int)=0:=by omega
 have w1:IntKind.i64.wrap ((lv:Int)-1)=(lv-1:Nat):=by rw[wrO];omega
 have w2:IntKind.i64.wrap (1:Int)=1:=bN;have w3:IntKind.i64.wrap (2:Int)=2:=wrO;have r0:gF [a.cells,b.cells] 0=some a.cells:=rfl;have r1:gF [a.cells,b.cells] 1=some b.cells:=rfl;simp only[Pn.aB,aG,Ex.aB]at hf ⊢;have q0:gF [e.cells] 0=some e.cells:=rfl;have qe:=QK (va+vb) e;rw[Ex.aA e]at q0 qe hf ⊢;rw[Pn.aA a]at ha r0 hf ⊢;rw[Pn.aA a]at r1;rw[Pn.aA b]at hb r0 r1 hf ⊢;simp[hf,hl,c3'];rw[aF];by_cases z1:va=0
 case pos=>simp[w1,ha,r0,z1]
 simp[w1,w2,ha,r0,z1];rw[aF];by_cases z2:vb=0
 case pos=>simp[w1,hb,r1,z2]
 simp[w1,hb,r1,z1,z2,w2,w3];rw[aF];have w4:IntKind.i64.wrap (va+vb)=va+vb:=wrO;by_cases h6:va+vb≤6
 ·cases hv:e.ok (va+vb)<;>rw[hv]at qe<;>simp[z1,z2,q0,qe,w4,h6]
 ·simp[z1,z2,w4,h6]
theorem AA9 {ws:List Int} {lv:Nat} {a:Pn} {va:Int} {b:Pn} {vb:Int} {e:Ex} (ho:only 5 0 [e] [] [a,b]=true) (hl:lv≠0) (hl8:lv≤8) (ha:aH C0 104 [.i (.agg a.cells), .i (.isl (aG ws)), .int (lv-1:Nat)] []=some (.int va,[])) (ra:0≤va∧va≤6) (hb:aH C0 104 [.i (.agg b.cells), .i (.isl (aG ws)), .int (lv-1:Nat)] []=some (.int vb,[])) (rb:0≤vb∧vb≤6):aH C0 104 [.i (.agg [.int 5, .int 0, .isl (Ex.aB [e]), .isl (aG []), .isl (Pn.aB [a,b])]), .i (.isl (aG ws)), .int lv] []=some (.int (if va=0∨vb=0 then 0 else if va+vb≤6∧e.ok (va+vb)=true then va+vb else 0),[]):=by
 rw[aD rfl Tryz.func104 rfl rfl];have hf:=eG 5 0 [e] [] [a,b];rw[ho]at hf;have c3':¬ (lv:Int)=0:=by omega
 have w1:IntKind.i64.wrap ((lv:Int)-1)=(lv-1:Nat):=by rw[wrO];omega
 have w2:IntKind.i64.wrap (1:Int)=1:=bN;have w3:IntKind.i64.wrap (2:Int)=2:=wrO;have r0:gF [a.cells,b.cells] 0=some a.cells:=rfl;have r1:gF [a.cells,b.cells] 1=some b.cells:=rfl;simp only[Pn.aB,aG,Ex.aB]at hf ⊢;have q0:gF [e.cells] 0=some e.cells:=rfl;have qe:=QK (va+vb) e;rw[Ex.aA e]at q0 qe hf ⊢;rw[Pn.aA a]at ha r0 hf ⊢;rw[Pn.aA a]at r1;rw[Pn.aA b]at hb r0 r1 hf ⊢;simp[hf,hl,c3'];rw[aF];by_cases z1:va=0
 case pos=>simp[w1,ha,r0,z1]
 simp[w1,w2,ha,r0,z1];rw[aF];by_cases z2:vb=0
 case pos=>simp[w1,hb,r1,z2]
 simp[w1,hb,r1,z1,z2,w2,w3];rw[aF];have w4:IntKind.i64.wrap (va+vb)=va+vb:=wrO;by_cases h6:va+vb≤6
 ·cases hv:e.ok (va+vb)<;>rw[hv]at qe<;>simp[z1,z2,q0,qe,w4,h6]
 ·simp[z1,z2,w4,h6]
theorem AA8 {ws:List Int} {lv:Nat} {a:Pn} {va:Int} {b:Pn} {vb:Int} (ho:only 6 0 [] [] [a,b]=true) (hl:lv≠0) (hl8:lv≤8) (ha:aH C0 104 [.i (.agg a.cells), .i (.isl (aG ws)), .int (lv-1:Nat)] []=some (.int va,[])) (ra:0≤va∧va≤6) (hb:aH C0 104 [.i (.agg b.cells), .i (.isl (aG ws)), .int (lv-1:Nat)] []=some (.int vb,[])) (rb:0≤vb∧vb≤6):aH C0 104 [.i (.agg [.int 6, .int 0, .isl (Ex.aB []), .isl (aG []), .isl (Pn.aB [a,b])]), .i (.isl (aG ws)), .int lv] []=some (.int (if va=0∨vb=0 then 0 else if va=vb then va else 0),[]):=by
 rw[aD rfl Tryz.func104 rfl rfl];have hf:=eG 6 0 [] [] [a,b];rw[ho]at hf;have c3':¬ (lv:Int)=0:=by omega
 have w1:IntKind.i64.wrap ((lv:Int)-1)=(lv-1:Nat):=by rw[wrO];omega
 have w2:IntKind.i64.wrap (1:Int)=1:=bN;have w3:IntKind.i64.wrap (2:Int)=2:=wrO;have r0:gF [a.cells,b.cells] 0=some a.cells:=rfl;have r1:gF [a.cells,b.cells] 1=some b.cells:=rfl;simp only[Pn.aB,aG,Ex.aB]at hf ⊢;rw[Pn.aA a]at ha r0 hf ⊢;rw[Pn.aA a]at r1;rw[Pn.aA b]at hb r0 r1 hf ⊢;simp[hf,hl,c3'];rw[aF];by_cases z1:va=0
 case pos=>simp[w1,ha,r0,z1]
 simp[w1,w2,ha,r0,z1];rw[aF];by_cases z2:vb=0
 case pos=>simp[w1,hb,r1,z2]
 simp[w1,hb,r1,z1,z2,w2,w3];rw[aF];by_cases h6:va=vb<;>simp[z1,z2,h6]
theorem AA7 {ws:List Int} {lv:Nat} {a:Pn} {va:Int} (ho:only 7 0 [] [] [a]=true) (hl:lv≠0) (hl8:lv≤8) (ha:aH C0 104 [.i (.agg a.cells), .i (.isl (aG ws)), .int (lv-1:Nat)] []=some (.int va,[])) (ra:0≤va∧va≤6):aH C0 104 [.i (.agg [.int 7, .int 0, .isl (Ex.aB []), .isl (aG []), .isl (Pn.aB [a])]), .i (.isl (aG ws)), .int lv] []=some (.int (if va=0 then 0 else va),[]):=by
 rw[aD rfl Tryz.func104 rfl rfl];have hf:=eG 7 0 [] [] [a];rw[ho]at hf;have c3':¬ (lv:Int)=0:=by omega
 have w1:IntKind.i64.wrap ((lv:Int)-1)=(lv-1:Nat):=by rw[wrO];omega
 have w2:IntKind.i64.wrap (1:Int)=1:=bN;have w3:IntKind.i64.wrap (2:Int)=2:=wrO;have r0:gF [a.cells] 0=some a.cells:=rfl;simp only[Pn.aB,aG,Ex.aB]at hf ⊢;rw[Pn.aA a]at ha r0 hf ⊢;simp[hf,hl,c3'];rw[aF];by_cases z1:va=0
 case pos=>simp[w1,ha,r0,z1]
 simp[w1,w2,ha,r0,z1];rw[aF];simp[z1]
theorem AA6 {ws:List Int} {lv:Nat} {a:Pn} {va:Int} {cs:List Int} (ho:only 8 0 [] cs [a]=true) (hl:lv≠0) (hl8:lv≤8) (ha:aH C0 104 [.i (.agg a.cells), .i (.isl (aG ws)), .int (lv-1:Nat)] []=some (.int va,[])) (ra:0≤va∧va≤6) (hc:cs.length<9223372036854775808):aH C0 104 [.i (.agg [.int 8, .int 0, .isl (Ex.aB []), .isl (aG cs), .isl (Pn.aB [a])]), .i (.isl (aG ws)), .int lv] []=some (.int (if va=0 then 0 else if cs.length<6∧rG va cs=true then(cs.length:Int)+1 else 0),[]):=by
 rw[aD rfl Tryz.func104 rfl rfl];have hf:=eG 8 0 [] cs [a];rw[ho]at hf;have c3':¬ (lv:Int)=0:=by omega
 have w1:IntKind.i64.wrap ((lv:Int)-1)=(lv-1:Nat):=by rw[wrO];omega
 have w2:IntKind.i64.wrap (1:Int)=1:=bN;have w3:IntKind.i64.wrap (2:Int)=2:=wrO;have r0:gF [a.cells] 0=some a.cells:=rfl;simp only[Pn.aB,aG,Ex.aB]at hf ⊢;rw[Pn.aA a]at ha r0 hf ⊢;simp[hf,hl,c3'];rw[aF];by_cases z1:va=0
 case pos=>simp[w1,ha,r0,z1]
 simp[w1,w2,ha,r0,z1];rw[aF];have hp:=Q3 cs va hc ra;by_cases h6:cs.length<6
 ·have w5:IntKind.i64.wrap ((cs.length:Int)+1)=cs.length+1:=wrO
  cases hv:rG va cs<;>rw[hv]at hp<;>simp[z1,hp,h6,show(cs.length:Int)<6 by omega,w5]
 ·cases hv:rG va cs<;>rw[hv]at hp<;>simp[z1,hp,h6,show ¬ (cs.length:Int)<6 by omega]
theorem Y0 (k t:Int) (es:List Ex) (cs:List Int) (ks:List Pn):only k t es cs ks=true↔((1≤k∧k≤8)∧(ks.length:Int)=jE k∧((es.length:Int)=if k=3 then(es.length:Int)else eU k)∧(t=0∨k=1)∧(cs=[]∨k=8)):=by
 unfold only;simp only[zU,zC5,zP]
theorem lQ {ws:List Int} (hw:∀ w∈ws,0≤w∧w≤6) (hwl:ws.length<1000000000):∀ (p:Pn),p.lim→∀ (lv:Nat),lv≤8→aH C0 104 [.i (.agg p.cells), .i (.isl (aG ws)), .int lv] []=some (.int (p.wd ws lv),[]):=by
 intro p
 induction p using Pn.ind with
 | h k t es cs ks ih =>
  intro hp lv hlv;have hp:=(Pn.H7 _).1 hp;simp only[Pn.dF,Pn.fV,Pn.iW]at hp;obtain⟨he,hc,-,hks⟩:=hp;rw[Pn.aW];have hr:=fun a=>Pn.iD hw a (lv-1)
  by_cases ho:only k t es cs ks=true∧(ks=[]∨lv≠0)
  case neg =>
   rw[AI9 ho,Pn.ZK];intro hh;apply ho;refine⟨?_,hh.2⟩;have h:=(mH k t es cs ks).1 hh.1;rw[Y0];refine⟨?_,h.1,?_,h.2.2.1.symm,h.2.2.2.symm⟩
   ·rcases GM k with h1|h1|h1|h1<;>omega
   ·by_cases h3:k=3
    ·rw[if_pos h3]
    ·have:=h.2.1;rw[if_neg fun h=>h3 h.1]at this;rw[if_neg h3];exact this
  have hoo:=ho.1;have hq:=(Y0 k t es cs ks).1 ho.1;obtain⟨h0,h1,h2,h3,h4⟩:=hq;have h5:=ho.2;by_cases hd:Pn.headOk (.mk k t es cs ks)=true
  case neg =>
   rw[Pn.ZK fun h=>hd h.1]
   have hk3:k=3∧¬ bE es.length=true∧(es.length:Int)≠1:=by
    by_cases hk:k=3
    ·refine⟨hk,?_,?_⟩
     ·intro hv;exact hd ((mH k t es cs ks).2 ⟨h1,by rw[if_pos ⟨hk,hv⟩],h3.symm,h4.symm⟩)
     ·intro hv;have:bE es.length=true:=by rw[hv];decide
      exact hd ((mH k t es cs ks).2 ⟨h1,by rw[if_pos ⟨hk,this⟩],h3.symm,h4.symm⟩)
    ·exact absurd ((mH k t es cs ks).2 ⟨h1,by rw[if_neg fun h=>hk h.1];rwa [if_neg hk]at h2,h3.symm,h4.symm⟩) hd
   obtain⟨rfl,hv,hv1⟩:=hk3;obtain⟨a,rfl⟩:=lG (by simpa using h1);obtain rfl:cs=[]:=by simpa using h4
   obtain rfl:t=0:=by simpa using h3
   have hl:lv≠0:=by simpa using h5
   rw[KJ hoo hl hlv (ih a (by simp) (hks a (by simp)) (lv-1) (by omega)) (hr a) he]
   have:pW es (a.wd ws (lv-1))=0:=by
    unfold pW;split
    ·rename_i h;have:¬ (1≤(es.length:Int)∧(es.length:Int)≤6):=by simpa [bE]using hv
     omega
    ·rfl
   simp[this]
  have hx:=Pn.uZ ws lv (.mk k t es cs ks);rw[if_pos (by simpa using (⟨hd,h5⟩:_∧_))]at hx;simp only[Pn.fJ,Pn.kS,Pn.dF,Pn.fV,Pn.iW]at hx;rw[hx]
  rcases sI k with rfl|rfl|rfl|rfl|rfl|rfl|rfl|rfl|h
  ·obtain rfl:=gQ (by simpa using h1);obtain rfl:es=[]:=gQ (by simpa using h2);obtain rfl:cs=[]:=by simpa using h4
   exact AAC hoo hwl
  ·obtain⟨a,rfl⟩:=lG (by simpa using h1);obtain⟨e,rfl⟩:=lG (by simpa using h2);obtain rfl:cs=[]:=by simpa using h4
   obtain rfl:t=0:=by simpa using h3
   have hl:lv≠0:=by simpa using h5
   rw[AAB hoo hl hlv (ih a (by simp) (hks a (by simp)) (lv-1) (by omega)) (hr a)];by_cases z:a.wd ws (lv-1)=0<;>simp[z,dB]
  ·obtain⟨a,rfl⟩:=lG (by simpa using h1);obtain rfl:cs=[]:=by simpa using h4
   obtain rfl:t=0:=by simpa using h3
   have hl:lv≠0:=by simpa using h5
   rw[KJ hoo hl hlv (ih a (by simp) (hks a (by simp)) (lv-1) (by omega)) (hr a) he];have h6:=Pn.sO hd;simp only[Pn.dF]at h6;by_cases z:a.wd ws (lv-1)=0<;>simp[z,dB,pW,h6]
  ·obtain⟨a,b,rfl⟩:=BL (by simpa using h1);obtain⟨e,rfl⟩:=lG (by simpa using h2);obtain rfl:cs=[]:=by simpa using h4
   obtain rfl:t=0:=by simpa using h3
   have hl:lv≠0:=by simpa using h5
   rw[AAA hoo hl hlv (ih a (by simp) (hks a (by simp)) (lv-1) (by omega)) (hr a) (ih b (by simp) (hks b (by simp)) (lv-1) (by omega)) (hr b)];by_cases z:a.wd ws (lv-1)=0<;>by_cases z2:b.wd ws (lv-1)=0<;>simp[z,z2,dB]
  ·obtain⟨a,b,rfl⟩:=BL (by simpa using h1);obtain⟨e,rfl⟩:=lG (by simpa using h2);obtain rfl:cs=[]:=by simpa using h4
   obtain rfl:t=0:=by simpa using h3
   have hl:lv≠0:=by simpa using h5
   rw[AA9 hoo hl hlv (ih a (by simp) (hks a (by simp)) (lv-1) (by omega)) (hr a) (ih b (by simp) (hks b (by simp)) (lv-1) (by omega)) (hr b)];by_cases z:a.wd ws (lv-1)=0<;>by_cases z2:b.wd ws (lv-1)=0<;>simp[z,z2,dB]
  ·obtain⟨a,b,rfl⟩:=BL (by simpa using h1);obtain rfl:es=[]:=gQ (by simpa using h2);obtain rfl:cs=[]:=by simpa using h4
   obtain rfl:t=0:=by simpa using h3
   have hl:lv≠0:=by simpa using h5
   rw[AA8 hoo hl hlv (ih a (by simp) (hks a (by simp)) (lv-1) (by omega)) (hr a) (ih b (by simp) (hks b (by simp)) (lv-1) (by omega)) (hr b)];by_cases z:a.wd ws (lv-1)=0<;>by_cases z2:b.wd ws (lv-1)=0<;>simp[z,z2,dB]
  ·obtain⟨a,rfl⟩:=lG (by simpa using h1);obtain rfl:es=[]:=gQ (by simpa using h2);obtain rfl:cs=[]:=by simpa using h4
   obtain rfl:t=0:=by simpa using h3
   have hl:lv≠0:=by simpa using h5
   rw[AA7 hoo hl hlv (ih a (by simp) (hks a (by simp)) (lv-1) (by omega)) (hr a)];by_cases z:a.wd ws (lv-1)=0<;>simp[z,dB]
  ·obtain⟨a,rfl⟩:=lG (by simpa using h1);obtain rfl:es=[]:=gQ (by simpa using h2);obtain rfl:t=0:=by simpa using h3
   have hl:lv≠0:=by simpa using h5
   rw[AA6 hoo hl hlv (ih a (by simp) (hks a (by simp)) (lv-1) (by omega)) (hr a) hc];by_cases z:a.wd ws (lv-1)=0<;>simp[z,dB]
  ·omega
theorem ZJ (p:Pn) (hp:p.lim) (ws:List Int) (hl:ws.length<9223372036854775808):aH C0 71 [.i (.agg p.cells), .i (.isl (aG ws))] []=some (.int (p.width ws),[]):=by
 rw[aD rfl Tryz.func71 rfl rfl];have hv:=FC ws hl
 cases h:jS ws with
 | false=>rw[h]at hv;rw[Pn.aA];simp[hv,Pn.width,h]
 | true =>
  rw[h]at hv;have h4:ws.length≤4:=by simp[jS]at h;omega
  have hb:=lQ (kJ h) (by omega) p hp 8 (by omega);rw[show((8:Nat):Int)=8 from rfl]at hb;rw[Pn.aA]at hb ⊢;simp[hv,Pn.width,h,hb]
def IX (l m:List Int) (i:Nat):AS :=
 { env:=[(0, .i (.isl (aG l))),(1, .i (.isl (aG m))),(4, .bool false),(5, .int i),(10, .bool false),(14,jk i (.bool true)),(25,jk i (.bool false))],st:=[] }
theorem nY {l m:List Int} (hl:l.length<9223372036854775808):aH C0 25 [.i (.isl (aG l)), .i (.isl (aG m))] []=some (.bool (l == m),[]):=by
 rw[aD rfl Tryz.func25 rfl rfl];by_cases hlm:l.length=m.length
 case neg =>
  have:(l == m)=false:=by simp;intro h;rw[h]at hlm;exact hlm rfl
  simp[show ¬ (l.length:Int)=m.length by omega,this]
 obtain⟨j,h1,h2⟩:=TB l m hlm;simp[hlm];rw[aQ (IX l m) j (by simp[IX])]
 ·rw[aF]
  rcases h2 with ⟨hj,ha⟩|⟨a,b,k1,k2,k3,ha⟩
  ·simp[IX,hj,hlm];exact(beq_iff_eq.1 ha)
  ·have r1:=(zZ.1 k1).1;have s1:=aT k1;have s2:=aT k2;have ha:=beq_eq_false_iff_ne.1 ha;have r3:=(zZ.1 k2).1;simp[IX,r1,r3,s1,s2,k3,ha]
 ·intro i hi;obtain⟨a,k1,k2⟩:=h1 i hi;have r1:=(zZ.1 k1).1;have s1:=aT k1;have s2:=aT k2;have w2:IntKind.i64.wrap ((i:Int)+1)=i+1:=wrO;have r3:=(zZ.1 k2).1;simp[IX,r1,r3,s1,s2,w2]
theorem OC {l m:List Ex} (hl:l.length<1000000000) (ht:∀ a∈l,a.thin):aH C0 67 [.i (.isl (Ex.aB l)), .i (.isl (Ex.aB m))] []=some (.bool (Ex.oI l m),[]) :=
 YM hl fun a ha b=>OD a (ht a ha) b
def PX (p q:Pn) (i:Nat):AS :=
 { env:=[(0, .i (.agg [.int p.kind, .int p.table, .isl (Ex.aB p.exprs), .isl (aG p.cols), .isl (Pn.aB p.kids)])),(1, .i (.agg [.int q.kind, .int q.table, .isl (Ex.aB q.exprs), .isl (aG q.cols), .isl (Pn.aB q.kids)])),(2, .own 0 0),(3, .own 1 0),(4, .bool false),(5, .int i),(42, .bool false),(47,jk i (.bool true)),(61,jk i (.bool false))],
   st:=[some (.box [.int p.kind, .int p.table, .i (.isl (Ex.aB p.exprs)), .i (.isl (aG p.cols)), .i (.isl (Pn.aB p.kids))]),some (.box [.int q.kind, .int q.table, .i (.isl (Ex.aB q.exprs)), .i (.isl (aG q.cols)), .i (.isl (Pn.aB q.kids))])] }
theorem IW {p q:Pn} (hp:p.thin) (ih:∀ a∈p.kids,∀ b,aH C0 24 [.i (.agg a.cells), .i (.agg b.cells)] []=some (.bool (a.eqb b),[])) :
 aH C0 24 [.i (.agg p.cells), .i (.agg q.cells)] []=some (.bool (p.eqb q),[]):=by
 have ht:=(Pn.bL _).1 hp;obtain⟨t1,t2,t3,t4,-⟩:=ht;have q1:=OC (m:=q.exprs) t1 t2;have q2:=nY (l:=p.cols) (m:=q.cols) (by omega);rw[aD rfl Tryz.func24 rfl rfl,Pn.aA,Pn.aA,Pn.WK];by_cases h1:p.kind=q.kind
 case neg=>simp[h1]
 by_cases h2:p.table=q.table
 case neg=>simp[h1,h2]
 cases h3:Ex.oI p.exprs q.exprs with
 | false=>rw[h3]at q1;simp[h1,h2,q1]
 | true =>
 rw[h3]at q1;by_cases h4:p.cols=q.cols
 case neg =>
  have hb:(p.cols == q.cols)=false:=by simpa using h4
  rw[hb]at q2;simp[h1,h2,q1,q2,h4]
 have hb:(p.cols == q.cols)=true:=by simpa using h4
 rw[hb,h4]at q2;by_cases h5:p.kids.length=q.kids.length
 case neg=>simp[h1,h2,q1,q2,h4,show ¬ (p.kids.length:Int)=q.kids.length by omega,Pn.AJ _ _ h5]
 obtain⟨j,u1,u2⟩:=Pn.sW _ _ h5;simp[h1,h2,h4,q1,q2,h5];rw[aQ (PX p q) j (by simp[PX,h1,h2,h4])]
 ·rw[aF]
  rcases u2 with ⟨hj,ha⟩|⟨a,b,k1,k2,k3,k4,ha⟩
  ·simp[PX,hj,h5,ha]
  ·have r1:=(zZ.1 k1).1;have r3:=(zZ.1 k2).1;have s1:=Pn.aO k1;have s2:=Pn.aO k2;have hc:=ih a k3 b;rw[Pn.aA]at s1 s2;rw[Pn.aA,Pn.aA]at hc;simp[PX,r1,r3,s1,s2,ha,hc,k4]
 ·intro i hi;obtain⟨a,b,k1,k2,k3,k4⟩:=u1 i hi;have r1:=(zZ.1 k1).1;have r3:=(zZ.1 k2).1;have s1:=Pn.aO k1;have s2:=Pn.aO k2;have hc:=ih a k3 b;have w2:IntKind.i64.wrap ((i:Int)+1)=i+1:=wrO;rw[Pn.aA]at s1 s2;rw[Pn.aA,Pn.aA]at hc;simp[PX,r1,r3,s1,s2,hc,k4,w2]
theorem qK:∀ (p:Pn),p.thin→∀ q:Pn,aH C0 24 [.i (.agg p.cells), .i (.agg q.cells)] []=some (.bool (p.eqb q),[]):=by
 intro p
 induction p using Pn.ind with
 | h k t es cs ks ih =>
  intro ht q;exact IW ht fun a ha b=>ih a ha (((Pn.bL _).1 ht).2.2.2.2 a ha) b
def SX (l m:List Int) (i:Nat):AS :=
 { env:=[(0, .i (.isl (aG l))),(1, .i (.isl (aG m))),(4, .bool false),(5,jk i (.int (i-1))),(10, .bool false),(12, .int l.length),(13, .int i),(14,jk i (.bool true)),(24,jk i (.bool false))],st:=[] }
def EX (a b:Ex) (i:Nat):AS :=
 { env:=[(0, .i (.iref [.int a.kind, .int a.col, .bool a.val.null, .int a.val.n, .isl (Ex.aB a.kids)])),(1, .i (.iref [.int b.kind, .int b.col, .bool b.val.null, .int b.val.n, .isl (Ex.aB b.kids)])),(4, .bool false),(5,jk i (.int (i-1))),(49, .bool false),(54, .int a.kids.length),(55, .int i),(56,jk i (.bool true)),(71,jk i (.bool false))],st:=[] }
def FX (a b:Ex) (i:Nat):AS :=
 { env:=[(0, .i (.agg [.int a.kind, .int a.col, .bool a.val.null, .int a.val.n, .isl (Ex.aB a.kids)])),(1, .i (.agg [.int b.kind, .int b.col, .bool b.val.null, .int b.val.n, .isl (Ex.aB b.kids)])),(2, .own 0 0),(3, .own 1 0),(4, .bool false),(5, .int i),(33, .bool false),(38,jk i (.bool true)),(52,jk i (.bool false))],
   st:=[some (.box [.int a.kind, .int a.col, .bool a.val.null, .int a.val.n, .i (.isl (Ex.aB a.kids))]),some (.box [.int b.kind, .int b.col, .bool b.val.null, .int b.val.n, .i (.isl (Ex.aB b.kids))])] }
def HX (p q:Pn) (n m:Nat) (i j k:AV) (x51 x65 x70 x83 x88 x102:AV):AS :=
 { env:=[(0, .i (.agg [.int p.kind, .int p.table, .isl (Ex.aB p.exprs), .isl (aG p.cols), .isl (Pn.aB p.kids)])),(1, .i (.agg [.int q.kind, .int q.table, .isl (Ex.aB q.exprs), .isl (aG q.cols), .isl (Pn.aB q.kids)])),(2, .own 0 0),(3, .own 1 0),(4, .bool false),(5,i),(6,j),(7,k),(46, .bool false),(51,x51),(65,x65),(70,x70),(83,x83),(88,x88),(102,x102)],
   st:=[some (.box [.int p.kind, .int p.table, .i (.isl (Ex.aB p.exprs)), .i (.isl (aG p.cols)), .i (.isl (Pn.aB p.kids))]),some (.box [.int q.kind, .int q.table, .i (.isl (Ex.aB q.exprs)), .i (.isl (aG q.cols)), .i (.isl (Pn.aB q.kids))])] }
def H1 (p q:Pn) (i:Nat):AS:=HX p q 0 0 (.int i) .junk .junk (jk i (.bool true)) (jk i (.bool false)) .junk .junk .junk .junk
def H2 (p q:Pn) (i:Nat):AS:=HX p q 0 0 (.int p.exprs.length) (.int i) .junk (.bool false) (jk p.exprs.length (.bool false)) (jk i (.bool true)) (jk i (.bool false)) .junk .junk
def KX (p:Pn) (i:Nat):AS :=
 { env:=[(0, .i (.agg [.int p.kind, .int p.table, .isl (Ex.aB p.exprs), .isl (aG p.cols), .isl (Pn.aB p.kids)])),(1, .own 0 0),(2, .own 1 0),(3, .own 2 0),(4, .int i),(5, .junk),(19,jk i (.bool true)),(37, .junk)],
   st:=some (.box [.int p.kind, .int p.table, .i (.isl (Ex.aB p.exprs)), .i (.isl (aG p.cols)), .i (.isl (Pn.aB p.kids))])::some (.box [.int 0, .int 0, .nils, .nils, .nils]) ::
    some (.box [.int p.kind, .int p.table,gro 3 5 i, .osl (if i=0 then 3 else 4) 1 0 p.cols.length, .nils])::(TG 5 (Ex.aB (p.exprs.take i)) i++[some (.arr 1 (aG p.cols))]) }
def K2 (p:Pn) (i:Nat):AS :=
 { env:=[(0, .i (.agg [.int p.kind, .int p.table, .isl (Ex.aB p.exprs), .isl (aG p.cols), .isl (Pn.aB p.kids)])),(1, .own 0 0),(2, .own 1 0),(3, .own 2 0),(4, .int p.exprs.length),(5, .int i),(19, .bool false),(37,jk i (.bool true))],
   st:=some (.box [.int p.kind, .int p.table, .i (.isl (Ex.aB p.exprs)), .i (.isl (aG p.cols)), .i (.isl (Pn.aB p.kids))])::some (.box [.int 0, .int 0, .nils, .nils, .nils]) ::
    some (.box [.int p.kind, .int p.table,gro 3 5 p.exprs.length, .osl (if p.exprs.length=0 then 3 else 4) 1 0 p.cols.length,gro (if p.exprs.length=0 then 4 else 5) 5 i])::(TG 5 (Ex.aB p.exprs) p.exprs.length++some (.arr 1 (aG p.cols))::TG 5 (Pn.aB (p.kids.take i)) i) }
def pcX (p:Pn):AV:=.agg [.int p.kind, .int p.table,gro 0 5 p.exprs.length, .osl (if p.exprs.length=0 then 0 else 1) 1 0 p.cols.length,gro (if p.exprs.length=0 then 1 else 2) 5 p.kids.length]
def pcS (p:Pn):StL:=TG 5 (Ex.aB p.exprs) p.exprs.length++some (.arr 1 (aG p.cols))::TG 5 (Pn.aB p.kids) p.kids.length
theorem OJ {p:Pn} (hp:p.thin) (ih:∀ a∈p.kids,aH C0 62 [.i (.agg a.cells)] []=some (pcX a,pcS a)) :
 aH C0 62 [.i (.agg p.cells)] []=some (pcX p,pcS p):=by
 have ht:=(Pn.bL _).1 hp;obtain⟨t1,t2,t3,t4,-⟩:=ht;rw[aD rfl Tryz.func62 rfl rfl,Pn.aA];by_cases hc:p.cols=[]
 ·simp[hc,aG];rw[aQ (KX p) p.exprs.length (by simp[KX,hc,aG])]
  ·rw[aF]
   cases hn:p.exprs.length with
   | zero =>
    have he:p.exprs=[]:=zW.1 hn;simp[KX,he,hc,aG,Ex.aB];rw[aQ (K2 p) p.kids.length (by simp[K2,he,hc,aG,Ex.aB])]
    ·rw[aF]
     cases hm:p.kids.length with
     | zero =>
      have hk:p.kids=[]:=zW.1 hm;simp[K2,he,hc,aG,hk,Ex.aB,Pn.aB,pcX,pcS]
     | succ m =>
      have hk:p.kids.take (m+1)=p.kids:=zY (by omega);simp[K2,he,hc,aG,hm,hk,Ex.aB,pcX,pcS]
    ·intro i hi;have h3:=zX hi;have hc':=ih _ (zV h3);have r2:=Pn.aO h3;generalize p.kids[i]=a at h3 hc' r2;have w2:IntKind.i64.wrap ((i:Int)+1)=i+1:=wrO;rw[Pn.aA]at r2 hc';simp only[pcX,pcS]at hc';have hl1:(i+1)*88≤140737488355328:=by omega
     have hl2:min i p.kids.length=i:=by omega
     by_cases a1:a.exprs=[]
     ·by_cases a2:a.kids=[]
      ·simp[a1,a2,Ex.aB,Pn.aB]at hc' r2;by_cases h0:i=0
       ·subst h0;simp[K2,he,hc,aG,hi,r2,hc',bN,aL h3,Ex.aB,Pn.aB,Pn.aA a,a1,a2]
       ·simp[K2,he,hc,aG,aM h0,aJ h0,bH h0,hi,r2,hc',w2,aL h3,Ex.aB,Pn.aB,Pn.aZ,hl1,hl2,zN,Pn.aA a,h0,a1,a2]
      ·have a2':a.kids.length≠0:=fun h=>a2 (zW.1 h)
       simp[a1,aM a2',aJ a2',a2,Ex.aB,Pn.aB]at hc' r2;by_cases h0:i=0
       ·subst h0;simp[K2,he,hc,aG,hi,r2,hc',bN,aL h3,Ex.aB,Pn.aB,Pn.aA a,a1,aM a2',aJ a2',a2]
       ·simp[K2,he,hc,aG,aM h0,aJ h0,bH h0,hi,r2,hc',w2,aL h3,Ex.aB,Pn.aB,Pn.aZ,hl1,hl2,zN,Pn.aA a,h0,a1,aM a2',aJ a2',a2]
     ·by_cases a2:a.kids=[]
      ·have a1':a.exprs.length≠0:=fun h=>a1 (zW.1 h)
       simp[aM a1',aJ a1',a1,a2,Ex.aB,Pn.aB]at hc' r2;by_cases h0:i=0
       ·subst h0;simp[K2,he,hc,aG,hi,r2,hc',bN,aL h3,Ex.aB,Pn.aB,Pn.aA a,aM a1',aJ a1',a1,a2]
       ·simp[K2,he,hc,aG,aM h0,aJ h0,bH h0,hi,r2,hc',w2,aL h3,Ex.aB,Pn.aB,Pn.aZ,hl1,hl2,zN,Pn.aA a,h0,aM a1',aJ a1',a1,a2]
      ·have a1':a.exprs.length≠0:=fun h=>a1 (zW.1 h)
       have a2':a.kids.length≠0:=fun h=>a2 (zW.1 h)
       simp[aM a1',aJ a1',a1,aM a2',aJ a2',a2,Ex.aB,Pn.aB]at hc' r2;by_cases h0:i=0
       ·subst h0;simp[K2,he,hc,aG,hi,r2,hc',bN,aL h3,Ex.aB,Pn.aB,Pn.aA a,aM a1',aJ a1',a1,aM a2',aJ a2',a2]
       ·simp[K2,he,hc,aG,aM h0,aJ h0,bH h0,hi,r2,hc',w2,aL h3,Ex.aB,Pn.aB,Pn.aZ,hl1,hl2,zN,Pn.aA a,h0,aM a1',aJ a1',a1,aM a2',aJ a2',a2]
   | succ n =>
    have he:p.exprs.take (n+1)=p.exprs:=zY (by omega);simp[KX,hn,he,hc,aG];rw[aQ (K2 p) p.kids.length (by simp[K2,hn,hc,aG,Ex.aB])]
    ·rw[aF]
     cases hm:p.kids.length with
     | zero =>
      have hk:p.kids=[]:=zW.1 hm;simp[K2,hn,hc,aG,hk,Ex.aB,Pn.aB,pcX,pcS]
     | succ m =>
      have hk:p.kids.take (m+1)=p.kids:=zY (by omega);simp[K2,hn,hc,aG,hm,hk,Ex.aB,pcX,pcS]
    ·intro i hi;have h3:=zX hi;have hc':=ih _ (zV h3);have r2:=Pn.aO h3;generalize p.kids[i]=a at h3 hc' r2;have w2:IntKind.i64.wrap ((i:Int)+1)=i+1:=wrO;rw[Pn.aA]at r2 hc';simp only[pcX,pcS]at hc';have hl1:(i+1)*88≤140737488355328:=by omega
     have hl2:min i p.kids.length=i:=by omega
     by_cases a1:a.exprs=[]
     ·by_cases a2:a.kids=[]
      ·simp[a1,a2,Ex.aB,Pn.aB]at hc' r2;by_cases h0:i=0
       ·subst h0;simp[K2,hn,hc,aG,hi,r2,hc',bN,aL h3,Ex.aB,Pn.aB,Pn.aA a,a1,a2]
       ·simp[K2,hn,hc,aG,aM h0,aJ h0,bH h0,hi,r2,hc',w2,aL h3,Ex.aB,Pn.aB,Pn.aZ,hl1,hl2,zN,Pn.aA a,h0,a1,a2]
      ·have a2':a.kids.length≠0:=fun h=>a2 (zW.1 h)
       simp[a1,aM a2',aJ a2',a2,Ex.aB,Pn.aB]at hc' r2;by_cases h0:i=0
       ·subst h0;simp[K2,hn,hc,aG,hi,r2,hc',bN,aL h3,Ex.aB,Pn.aB,Pn.aA a,a1,aM a2',aJ a2',a2]
       ·simp[K2,hn,hc,aG,aM h0,aJ h0,bH h0,hi,r2,hc',w2,aL h3,Ex.aB,Pn.aB,Pn.aZ,hl1,hl2,zN,Pn.aA a,h0,a1,aM a2',aJ a2',a2]
     ·by_cases a2:a.kids=[]
      ·have a1':a.exprs.length≠0:=fun h=>a1 (zW.1 h)
       simp[aM a1',aJ a1',a1,a2,Ex.aB,Pn.aB]at hc' r2;by_cases h0:i=0
       ·subst h0;simp[K2,hn,hc,aG,hi,r2,hc',bN,aL h3,Ex.aB,Pn.aB,Pn.aA a,aM a1',aJ a1',a1,a2]
       ·simp[K2,hn,hc,aG,aM h0,aJ h0,bH h0,hi,r2,hc',w2,aL h3,Ex.aB,Pn.aB,Pn.aZ,hl1,hl2,zN,Pn.aA a,h0,aM a1',aJ a1',a1,a2]
      ·have a1':a.exprs.length≠0:=fun h=>a1 (zW.1 h)
       have a2':a.kids.length≠0:=fun h=>a2 (zW.1 h)
       simp[aM a1',aJ a1',a1,aM a2',aJ a2',a2,Ex.aB,Pn.aB]at hc' r2;by_cases h0:i=0
       ·subst h0;simp[K2,hn,hc,aG,hi,r2,hc',bN,aL h3,Ex.aB,Pn.aB,Pn.aA a,aM a1',aJ a1',a1,aM a2',aJ a2',a2]
       ·simp[K2,hn,hc,aG,aM h0,aJ h0,bH h0,hi,r2,hc',w2,aL h3,Ex.aB,Pn.aB,Pn.aZ,hl1,hl2,zN,Pn.aA a,h0,aM a1',aJ a1',a1,aM a2',aJ a2',a2]
  ·intro i hi;have h3:=zX hi;have hc':=vW _ (t2 _ (zV h3));have r2:=Ex.aO h3;generalize p.exprs[i]=a at h3 hc' r2;have w2:IntKind.i64.wrap ((i:Int)+1)=i+1:=wrO;rw[Ex.aA]at r2 hc';by_cases h0:i=0
   ·subst h0;simp[KX,hc,aG,hi,r2,hc',bN,aL h3,Ex.aB,Ex.aA a]
   ·simp[KX,hc,aG,aM h0,aJ h0,bH h0,hi,r2,hc',w2,aL h3,Ex.aZ,show min i p.exprs.length=i by omega,show(i+1)*56≤140737488355328 by omega,zN,Ex.aA a,h0]
 simp[hc,show p.cols.length*8≤140737488355328 by omega];rw[aQ (KX p) p.exprs.length (by simp[KX,hc])]
 ·rw[aF]
  cases hn:p.exprs.length with
  | zero =>
   have he:p.exprs=[]:=zW.1 hn;simp[KX,he,hc,Ex.aB];rw[aQ (K2 p) p.kids.length (by simp[K2,he,hc,Ex.aB])]
   ·rw[aF]
    cases hm:p.kids.length with
    | zero =>
     have hk:p.kids=[]:=zW.1 hm;simp[K2,he,hc,hk,Ex.aB,Pn.aB,pcX,pcS]
    | succ m =>
     have hk:p.kids.take (m+1)=p.kids:=zY (by omega);simp[K2,he,hc,hm,hk,Ex.aB,pcX,pcS]
   ·intro i hi;have h3:=zX hi;have hc':=ih _ (zV h3);have r2:=Pn.aO h3;generalize p.kids[i]=a at h3 hc' r2;have w2:IntKind.i64.wrap ((i:Int)+1)=i+1:=wrO;rw[Pn.aA]at r2 hc';simp only[pcX,pcS]at hc';have hl1:(i+1)*88≤140737488355328:=by omega
    have hl2:min i p.kids.length=i:=by omega
    by_cases a1:a.exprs=[]
    ·by_cases a2:a.kids=[]
     ·simp[a1,a2,Ex.aB,Pn.aB]at hc' r2;by_cases h0:i=0
      ·subst h0;simp[K2,he,hc,hi,r2,hc',bN,aL h3,Ex.aB,Pn.aB,Pn.aA a,a1,a2]
      ·simp[K2,he,hc,aM h0,aJ h0,bH h0,hi,r2,hc',w2,aL h3,Ex.aB,Pn.aB,Pn.aZ,hl1,hl2,zN,Pn.aA a,h0,a1,a2]
     ·have a2':a.kids.length≠0:=fun h=>a2 (zW.1 h)
      simp[a1,aM a2',aJ a2',a2,Ex.aB,Pn.aB]at hc' r2;by_cases h0:i=0
      ·subst h0;simp[K2,he,hc,hi,r2,hc',bN,aL h3,Ex.aB,Pn.aB,Pn.aA a,a1,aM a2',aJ a2',a2]
      ·simp[K2,he,hc,aM h0,aJ h0,bH h0,hi,r2,hc',w2,aL h3,Ex.aB,Pn.aB,Pn.aZ,hl1,hl2,zN,Pn.aA a,h0,a1,aM a2',aJ a2',a2]
    ·by_cases a2:a.kids=[]
     ·have a1':a.exprs.length≠0:=fun h=>a1 (zW.1 h)
      simp[aM a1',aJ a1',a1,a2,Ex.aB,Pn.aB]at hc' r2;by_cases h0:i=0
      ·subst h0;simp[K2,he,hc,hi,r2,hc',bN,aL h3,Ex.aB,Pn.aB,Pn.aA a,aM a1',aJ a1',a1,a2]
      ·simp[K2,he,hc,aM h0,aJ h0,bH h0,hi,r2,hc',w2,aL h3,Ex.aB,Pn.aB,Pn.aZ,hl1,hl2,zN,Pn.aA a,h0,aM a1',aJ a1',a1,a2]
     ·have a1':a.exprs.length≠0:=fun h=>a1 (zW.1 h)
      have a2':a.kids.length≠0:=fun h=>a2 (zW.1 h)
      simp[aM a1',aJ a1',a1,aM a2',aJ a2',a2,Ex.aB,Pn.aB]at hc' r2;by_cases h0:i=0
      ·subst h0;simp[K2,he,hc,hi,r2,hc',bN,aL h3,Ex.aB,Pn.aB,Pn.aA a,aM a1',aJ a1',a1,aM a2',aJ a2',a2]
      ·simp[K2,he,hc,aM h0,aJ h0,bH h0,hi,r2,hc',w2,aL h3,Ex.aB,Pn.aB,Pn.aZ,hl1,hl2,zN,Pn.aA a,h0,aM a1',aJ a1',a1,aM a2',aJ a2',a2]
  | succ n =>
   have he:p.exprs.take (n+1)=p.exprs:=zY (by omega);simp[KX,hn,he,hc];rw[aQ (K2 p) p.kids.length (by simp[K2,hn,hc,Ex.aB])]
   ·rw[aF]
    cases hm:p.kids.length with
    | zero =>
     have hk:p.kids=[]:=zW.1 hm;simp[K2,hn,hc,hk,Ex.aB,Pn.aB,pcX,pcS]
    | succ m =>
     have hk:p.kids.take (m+1)=p.kids:=zY (by omega);simp[K2,hn,hc,hm,hk,Ex.aB,pcX,pcS]
   ·intro i hi;have h3:=zX hi;have hc':=ih _ (zV h3);have r2:=Pn.aO h3;generalize p.kids[i]=a at h3 hc' r2;have w2:IntKind.i64.wrap ((i:Int)+1)=i+1:=wrO;rw[Pn.aA]at r2 hc';simp only[pcX,pcS]at hc';have hl1:(i+1)*88≤140737488355328:=by omega
    have hl2:min i p.kids.length=i:=by omega
    by_cases a1:a.exprs=[]
    ·by_cases a2:a.kids=[]
     ·simp[a1,a2,Ex.aB,Pn.aB]at hc' r2;by_cases h0:i=0
      ·subst h0;simp[K2,hn,hc,hi,r2,hc',bN,aL h3,Ex.aB,Pn.aB,Pn.aA a,a1,a2]
      ·simp[K2,hn,hc,aM h0,aJ h0,bH h0,hi,r2,hc',w2,aL h3,Ex.aB,Pn.aB,Pn.aZ,hl1,hl2,zN,Pn.aA a,h0,a1,a2]
     ·have a2':a.kids.length≠0:=fun h=>a2 (zW.1 h)
      simp[a1,aM a2',aJ a2',a2,Ex.aB,Pn.aB]at hc' r2;by_cases h0:i=0
      ·subst h0;simp[K2,hn,hc,hi,r2,hc',bN,aL h3,Ex.aB,Pn.aB,Pn.aA a,a1,aM a2',aJ a2',a2]
      ·simp[K2,hn,hc,aM h0,aJ h0,bH h0,hi,r2,hc',w2,aL h3,Ex.aB,Pn.aB,Pn.aZ,hl1,hl2,zN,Pn.aA a,h0,a1,aM a2',aJ a2',a2]
    ·by_cases a2:a.kids=[]
     ·have a1':a.exprs.length≠0:=fun h=>a1 (zW.1 h)
      simp[aM a1',aJ a1',a1,a2,Ex.aB,Pn.aB]at hc' r2;by_cases h0:i=0
      ·subst h0;simp[K2,hn,hc,hi,r2,hc',bN,aL h3,Ex.aB,Pn.aB,Pn.aA a,aM a1',aJ a1',a1,a2]
      ·simp[K2,hn,hc,aM h0,aJ h0,bH h0,hi,r2,hc',w2,aL h3,Ex.aB,Pn.aB,Pn.aZ,hl1,hl2,zN,Pn.aA a,h0,aM a1',aJ a1',a1,a2]
     ·have a1':a.exprs.length≠0:=fun h=>a1 (zW.1 h)
      have a2':a.kids.length≠0:=fun h=>a2 (zW.1 h)
      simp[aM a1',aJ a1',a1,aM a2',aJ a2',a2,Ex.aB,Pn.aB]at hc' r2;by_cases h0:i=0
      ·subst h0;simp[K2,hn,hc,hi,r2,hc',bN,aL h3,Ex.aB,Pn.aB,Pn.aA a,aM a1',aJ a1',a1,aM a2',aJ a2',a2]
      ·simp[K2,hn,hc,aM h0,aJ h0,bH h0,hi,r2,hc',w2,aL h3,Ex.aB,Pn.aB,Pn.aZ,hl1,hl2,zN,Pn.aA a,h0,aM a1',aJ a1',a1,aM a2',aJ a2',a2]
 ·intro i hi;have h3:=zX hi;have hc':=vW _ (t2 _ (zV h3));have r2:=Ex.aO h3;generalize p.exprs[i]=a at h3 hc' r2;have w2:IntKind.i64.wrap ((i:Int)+1)=i+1:=wrO;rw[Ex.aA]at r2 hc';by_cases h0:i=0
  ·subst h0;simp[KX,hc,hi,r2,hc',bN,aL h3,Ex.aB,Ex.aA a]
  ·simp[KX,hc,aM h0,aJ h0,bH h0,hi,r2,hc',w2,aL h3,Ex.aZ,show min i p.exprs.length=i by omega,show(i+1)*56≤140737488355328 by omega,zN,Ex.aA a,h0]
theorem vV:∀ (p:Pn),p.thin→aH C0 62 [.i (.agg p.cells)] []=some (pcX p,pcS p):=by
 intro p
 induction p using Pn.ind with
 | h k t es cs ks ih =>
  intro ht;exact OJ ht fun a ha=>ih a ha (((Pn.bL _).1 ht).2.2.2.2 a ha)
def vB (x:Bool) (v:Pn):Option Blk:=if x=true then some (.fbox v.cells)else some (.box (l5 v.cells))
theorem fF:aH C0 93 [.i (.isl [])] []=some (.nils,[]):=by
 rw[aD rfl Tryz.func93 rfl rfl];simp
theorem fO {l:List Int} (h:l≠[]) (hl:l.length<1000000000):aH C0 93 [.i (.isl (aG l))] []=some (.osl 0 1 0 l.length,[some (.arr 1 (aG l))]):=by
 rw[aD rfl Tryz.func93 rfl rfl];have h1:8*(l.length:Int)≤281474976710656:=by omega
 simp[h,h1];unfold over;simp
end Go.Proofs.YtjdfjgmebalaaaaGreat.P
namespace Go.Av
def VV (l:List Int) (n:Int):List Int:=if l[l.findIdx fun x=>!decide (x<n)]?=some n then l else l.take (l.findIdx fun x=>!decide (x<n))++n::l.drop (l.findIdx fun x=>!decide (x<n))
mutual
def P8:List Int→Ex→List Int
 | l, .mk k c _ ks=>lZ (if k=1 then VV l c else l) ks
def lZ:List Int→List Ex→List Int
 | l,[]=>l
 | l,e::es=>lZ (P8 l e) es
end
theorem X7 (l:List Int) (e:Ex):P8 l e=lZ (if e.kind=1 then VV l e.col else l) e.kids:=by
 cases e;simp only[P8,Ex.kind,Ex.col,Ex.kids];congr
theorem CB:∀ (ks:List Ex) (l:List Int) (e:Ex),lZ l (ks++[e])=P8 (lZ l ks) e
 | [],l,e=>by simp[lZ]
 | a::ks,l,e=>by simp[lZ,CB ks]
theorem AJ8 {l:List Int} {n x:Int}:x∈VV l n↔x∈l∨x=n:=by
 unfold VV;split
 ·rename_i h;constructor
  ·exact .inl
  ·rintro(h1|rfl)
   ·exact h1
   ·exact zV h
 ·have e:l.take (l.findIdx fun x=>!decide (x<n))++l.drop (l.findIdx fun x=>!decide (x<n))=l:=yI _ _;generalize l.findIdx (fun x=>!decide (x<n))=k at *
  constructor
  ·intro h
   rcases zT.1 h with h|h
   ·exact .inl (zL h)
   ·rcases zO.1 h with h|h
    ·exact .inr h
    ·exact .inl (yM h)
  ·rintro(h|rfl)
   ·rw[← e]at h
    rcases zT.1 h with h|h
    ·exact zT.2 (.inl h)
    ·exact zT.2 (.inr (zO.2 (.inr h)))
   ·exact zT.2 (.inr (zO.2 (.inl rfl)))
def Asc (l:List Int):Prop:=l.Pairwise (· < ·)
theorem AJ9 {l:List Int} {n:Int} (h:Asc l):Asc (VV l n):=by
 unfold VV;split
 ·exact h
 ·rename_i hne;have e:l.take (l.findIdx fun x=>!decide (x<n))++l.drop (l.findIdx fun x=>!decide (x<n))=l:=yI _ _
  have hlt:∀ x∈l.take (l.findIdx fun x=>!decide (x<n)),x<n:=by
   intro x hx;obtain⟨i,hi⟩:=List.mem_iff_getElem?.1 hx;rw[zK]at hi;split at hi
   ·rename_i hk;have:=List.not_of_lt_findIdx hk;rw[zX (by have:=zB9 (xs:=l) (p:=fun x=>!decide (x<n));omega)]at hi;injection hi with hi;rw[hi]at this;simpa using this
   ·cases hi
  have hge:∀ x∈l.drop (l.findIdx fun x=>!decide (x<n)),n<x:=by
   intro x hx
   rcases zC4 (l.findIdx fun x=>!decide (x<n)) l.length with hk|hk
   ·have h1:=List.findIdx_getElem (w:=hk);have hd:=zB3 hk;have hn:l[l.findIdx fun x=>!decide (x<n)]≠n:=fun e=>hne (by rw[zX hk,e])
    rw[hd]at hx;have hs:Asc (l.drop (l.findIdx fun x=>!decide (x<n))):=List.Pairwise.sublist (List.drop_sublist _ _) h;rw[hd]at hs;have hs:=xM.1 hs;simp at h1
    rcases zO.1 hx with rfl|hx
    ·omega
    ·have:=hs.1 x hx;omega
   ·rw[List.drop_eq_nil_of_le hk]at hx;cases hx
  generalize l.findIdx (fun x=>!decide (x<n))=k at *
  rw[← e]at h;unfold Asc at *
  rw[List.pairwise_append]at h ⊢;refine⟨h.1,xM.2 ⟨hge,h.2.1⟩,?_⟩;intro a ha b hb
  rcases zO.1 hb with rfl|hb
  ·exact hlt a ha
  ·exact h.2.2 a ha b hb
theorem AK9:∀ (e:Ex) (l:List Int),Asc l→Asc (P8 l e):=by
 intro e
 induction e using Ex.ind with
 | h k c v ks ih =>
  intro l hl;rw[X7]
  have:∀ (xs:List Ex) (l:List Int),(∀ e∈xs,∀ l,Asc l→Asc (P8 l e))→Asc l→Asc (lZ l xs):=by
   intro xs
   induction xs with
   | nil=>intro l _ h;simpa [lZ]using h
   | cons a xs ihx=>intro l h1 h2;exact ihx _ (fun e he=>h1 e (by simp[he])) (h1 a (by simp) l h2)
  refine this _ _ (fun e he=>ih e (by simpa [Ex.kids]using he)) ?_;split
  ·exact AJ9 hl
  ·exact hl
theorem AKA {m:Int} (P:Int→Bool):∀ (e:Ex) (l:List Int),e.wf m=true→((∀ x∈P8 l e,P x=true)↔(∀ x∈l,P x=true)∧e.uP P=true):=by
 intro e
 induction e using Ex.ind with
 | h k c v ks ih =>
  intro l hw;rw[X7,Ex.lH]
  have:∀ (xs:List Ex) (l:List Int),(∀ e∈xs,e∈ks)→((∀ x∈lZ l xs,P x=true)↔(∀ x∈l,P x=true)∧xs.all (Ex.uP P)=true):=by
   intro xs
   induction xs with
   | nil=>intro l _;simp[lZ]
   | cons a xs ihx =>
    intro l h1;have ha:=h1 a (by simp);simp only[lZ,List.all_cons,zU];rw[ihx _ fun e he=>h1 e (by simp[he]),ih a ha l (Ex.gM hw (by simpa [Ex.kids]using ha))];exact and_assoc
  simp only[Ex.kind,Ex.col,Ex.kids];rw[this ks _ fun e he=>he];by_cases h1:k=1
  ·have hk:=(Ex.lI hw (by simpa [Ex.kind]using h1)).2.2;simp only[Ex.kids]at hk;subst hk;simp only[h1,if_true,AJ8];simp;constructor
   ·intro h;exact⟨fun x hx=>h x (.inl hx),h c (.inr rfl)⟩
   ·rintro⟨h2,h3⟩ x (hx|rfl)
    ·exact h2 x hx
    ·exact h3
  ·simp only[h1,if_false]
theorem AGR {l:List Int} (h:Asc l) (lo hi:Int):(∀ x∈l,lo≤x∧x≤hi)↔(l=[]∨(∃ a,l[0]?=some a∧lo≤a)∧(∃ b,l[l.length-1]?=some b∧b≤hi)):=by
 constructor
 ·intro hall
  cases hl:l with
  | nil=>exact .inl rfl
  | cons a r =>
   right;rw[← hl];have h0:l[0]?=some a:=by rw[hl];rfl
   have hk:l.length-1<l.length:=by rw[hl];simp
   exact⟨⟨a,h0,(hall a (zV h0)).1⟩,⟨l[l.length-1],zX hk,(hall _ (xZ hk)).2⟩⟩
 ·rintro(rfl|⟨⟨a,h0,h1⟩,b,h2,h3⟩) x hx
  ·cases hx
  ·obtain⟨i,hi⟩:=List.mem_iff_getElem?.1 hx
   have hil:=(zZ.1 hi)
   have h0l:=(zZ.1 h0)
   have h2l:=(zZ.1 h2)
   obtain⟨p1,rfl⟩:=hil;obtain⟨p2,rfl⟩:=h0l;obtain⟨p3,rfl⟩:=h2l;have hp:=List.pairwise_iff_getElem.1 h;constructor
   ·by_cases hz:i=0
    ·subst hz;exact h1
    ·have:=hp 0 i p2 p1 (by omega);omega
   ·by_cases hz:i=l.length-1
    ·subst hz;exact h3
    ·have:=hp i (l.length-1) p1 p3 (by omega);omega
end Go.Av
namespace Go.Proofs.YtjdfjgmebalaaaaGreat.P
open Go Go.Av
set_option maxRecDepth 4000
set_option maxHeartbeats 2000000
theorem AET {a:Nat} (ha:a<64):a % 2 ^ IntKind.i64.bits=a:=by
 show a % 18446744073709551616=a;exact Nat.mod_eq_of_lt (by omega)
theorem ANM {a:Nat} (ha:a<64):(a:Int) % 2 ^ IntKind.i64.bits=a:=by
 show(a:Int) % 18446744073709551616=a;omega
theorem AIR {a b:Nat} (ha:a<64) (hb:b<64):IntKind.i64.wrap ((a ||| b:Nat):Int)=((a ||| b:Nat):Int):=by
 have h3:a ||| b<2 ^ 6:=xH (by omega) (by omega)
 exact wrO
theorem AHN {a:Nat} (ha:a<64):IntKind.i64.wrap (a:Int)=a:=wrO
def KBX (e:Ex) (i:Nat):AS :=
 { env:=[(0, .i (.iref [.int e.kind, .int e.col, .bool e.val.null, .int e.val.n, .isl (Ex.aB e.kids)])),(2, .int 0),(3, .int (Ex.qQ (e.kids.take i):Nat)),(4,jk i (.int (i-1))),(9, .bool false),(19, .int e.kids.length),(20, .int i),(21,jk i (.bool true))],st:=[] }
theorem MH:∀ e:Ex,e.size<1000000000→e.uP (fun c=>decide (0≤c∧c<6))=true→aH C0 151 [.i (.iref e.cells)] []=some (.int (e.bits:Nat),[]):=by
 intro e
 induction e using Ex.ind with
 | h k c v ks ih =>
  intro hs ha;generalize he:Ex.mk k c v ks=e at *
  have hk1:k=e.kind:=by rw[← he];rfl
  have hks:ks=e.kids:=by rw[← he];rfl
  subst hks;have hsz:=Ex.size_eq e;have hln:=Ex.dC e.kids;rw[aD rfl Tryz.func151 rfl rfl,Ex.aA];rw[Ex.lH]at ha;by_cases h1:e.kind=1
  ·simp only[h1,if_true]at ha;have ha:=zR ha;rw[Ex.OZ h1];have hc:e.col=0∨e.col=1∨e.col=2∨e.col=3∨e.col=4∨e.col=5:=by omega
   rcases hc with hc|hc|hc|hc|hc|hc<;>(simp[h1,hc];decide)
  ·simp only[h1,if_false,zS]at ha;rw[Ex.OX h1];simp[h1];rw[aQ (KBX e) e.kids.length (by simp[KBX,Ex.qQ,h1])]
   ·rw[aF];simp[KBX]
   ·intro i hi;have h3:=zX hi;have hm:=zV h3;have r2:=Ex.aO h3;have htk:=aL h3;generalize e.kids[i]=a at h3 hm r2 htk;have hk:=ih a hm (by have:=Ex.jU hm;omega) (ha a hm);have w2:IntKind.i64.wrap ((i:Int)+1)=i+1:=wrO;have hb:a.bits<2 ^ 6:=Ex.OY a (ha a hm);have hbl:Ex.qQ (e.kids.take i)<2 ^ 6:=Ex.P5 fun x hx=>Ex.OY x (ha x (zL hx))
    have hor:=AIR (a:=Ex.qQ (e.kids.take i)) (b:=a.bits) (by omega) (by omega);rw[Ex.aA a]at r2 hk;by_cases h0:i=0
    ·subst h0;simp[KBX,hi,r2,hk,bN,htk,Ex.BX,Ex.qQ,ANM (show a.bits<64 by omega),AHN (show a.bits<64 by omega)]
    ·simp[KBX,bH h0,hi,r2,hk,w2,htk,Ex.BX,hor,AET (show a.bits<64 by omega),AET (show Ex.qQ (e.kids.take i)<64 by omega)]
def ANX (l:List Int) (n:Int) (i:Nat):AS :=
 { env:=[(0, .i (.isl (aG l))),(1, .int n),(4, .nils),(5, .int i),(6, .junk),(18,jk i (.bool true)),(32, .junk)],st:=[] }
theorem UF (l:List Int) (n:Int) (hl:l.length<1000000):aH C0 202 [.i (.isl (aG l)), .int n] []=some (.i (.isl (aG (VV l n))),[]):=by
 rw[aD rfl Tryz.func202 rfl rfl]
 have hlt:∀ i,i<l.findIdx (fun x=>!decide (x<n))→∃ x,l[i]?=some x∧x<n:=by
  intro i hi;have hle:=zB9 (xs:=l) (p:=fun x=>!decide (x<n));have:=List.not_of_lt_findIdx hi;exact⟨l[i]'(by omega),zX (by omega),by simpa using this⟩
 have hat:∀ x,l[l.findIdx fun x=>!decide (x<n)]?=some x→¬ x<n:=by
  intro x hx;obtain⟨h1,rfl⟩:=zZ.1 hx;have:=List.findIdx_getElem (w:=h1);simpa using this
 have hle:=zB9 (xs:=l) (p:=fun x=>!decide (x<n));unfold VV;generalize l.findIdx (fun x=>!decide (x<n))=j at *
 simp;rw[aQ (ANX l n) j (by simp[ANX])]
 ·rw[aF]
  cases hj:l[j]? with
  | none =>
   have hjl:j=l.length:=by have:=xD.1 hj;omega
   subst hjl;have hb:((l.length:Int)+1)*8≤140737488355328:=by omega
   have hb1:(l.length+1)*8≤140737488355328:=by omega
   have hb2:l.length*8≤140737488355328:=by omega
   have ht:List.take (l.length+1) (aG l++[[IV.lit (Value.int IntKind.i64 n)]])=aG l++[[IV.lit (Value.int IntKind.i64 n)]]:=zY (by simp);simp[ANX,hb1,hb2,bZ,aG,ht]
  | some x =>
   have hx:=hat x hj;have hjl:=(zZ.1 hj).1;have r2:=aT hj;by_cases hxn:x=n
   ·subst hxn;simp[ANX,hjl,r2]
   ·have hb1:(j+1)*8≤140737488355328:=by omega
    have hb2:j*8≤140737488355328:=by omega
    have hb3:(j+1+(l.length-j))*8≤140737488355328:=by omega
    have t1:(l.take j).length=j:=by simp;omega
    have t2:(aG (l.take j)++[[IV.lit (Value.int IntKind.i64 n)]]).take (j+1)=aG (l.take j)++[[IV.lit (Value.int IntKind.i64 n)]]:=zY (by simp;omega);have t3:(l.drop j).take (l.length-j)=l.drop j:=zY (by simp);have t4:(aG (l.take j)++[[IV.lit (Value.int IntKind.i64 n)]]++aG (l.drop j)).take (j+1+(l.length-j))=aG (l.take j)++[[IV.lit (Value.int IntKind.i64 n)]]++aG (l.drop j):=zY (by simp;omega);have t5:(l.take j).take j=l.take j:=zY (by omega);simp[ANX,hjl,hle,r2,hx,hxn,hb1,hb2,hb3,bZ,aG];rw[t5,t2,t3,t4];simp
 ·intro i hi;obtain⟨x,h3,hx⟩:=hlt i hi;have r2:=aT h3;have hil:=(zZ.1 h3).1;have w2:IntKind.i64.wrap ((i:Int)+1)=i+1:=wrO;simp[ANX,hil,r2,hx,w2]
end Go.Proofs.YtjdfjgmebalaaaaGreat.P
namespace Go.Av
theorem Ex.AM6 {w w':Int} (h:w≤w'):∀ e:Ex,e.wf w=true→e.wf w'=true:=by
 intro e
 induction e using Ex.ind with
 | h k c v ks ih =>
  intro hw;rw[Ex.MS]at hw ⊢;simp only[zU]at hw ⊢;refine⟨hw.1,?_,?_⟩
  ·have h2:=hw.2.1;unfold Ex.headOk at h2 ⊢;split at h2
   ·rename_i h1;rw[if_pos h1];simp only[zU,zP]at h2 ⊢;exact⟨h2.1,by omega,h2.2.2⟩
   ·rename_i h1;rw[if_neg h1];exact h2
  ·rw[zS]at *
   exact fun x hx=>ih x hx (hw.2.2 x hx)
theorem Ex.rJ {w:Int} {e:Ex} (h:e.ok w=true):e.wf w=true∧1≤w∧w≤6:=by
 unfold Ex.ok bE at h;rw[Ex.Q4]at h;simp only[zU,zP]at h;exact⟨h.2.1,h.1.1,h.1.2⟩
theorem Ex.AEN {w:Int} {e:Ex} (h:e.ok w=true):e.wf 6=true:=Ex.AM6 (Ex.rJ h).2.2 e (Ex.rJ h).1
theorem Ex.X9 {e:Ex} (h:e.wf 6=true):e.uP (fun c=>decide (0≤c∧c<6))=true:=Ex.MU e h
theorem Ex.AHO {w:Int} {e:Ex} (h:e.wf w=true):e.uP (fun c=>decide (0≤c))=true:=Ex.pG (fun c hc=>by simp only[zP]at hc ⊢;exact hc.1) e (Ex.MU e h)
theorem Ex.Z9 {f g:Int→Bool}:∀ e:Ex,e.uP f=true→e.uP g=true→e.uP (fun c=>f c && g c)=true:=by
 intro e
 induction e using Ex.ind with
 | h k c v ks ih =>
  intro h1 h2;rw[Ex.lH]at *
  by_cases hk:k=1
  ·subst hk;simp only[Ex.kind,Ex.col,if_true]at h1 h2 ⊢;simp[h1,h2]
  ·simp only[Ex.kind,Ex.kids,hk,if_false,zS]at h1 h2 ⊢;exact fun x hx=>ih x hx (h1 x hx) (h2 x hx)
theorem AJS {e:Ex} {m:Int} (h:e.wf m=true) (lo hi:Int):(P8 [] e=[]∨(∃ a,(P8 [] e)[0]?=some a∧lo≤a)∧(∃ b,(P8 [] e)[(P8 [] e).length-1]?=some b∧b≤hi-1))↔e.cin lo hi=true:=by
 rw[← AGR (AK9 e [] List.Pairwise.nil)];have:=AKA (fun x=>decide (lo≤x∧x<hi)) e [] h;unfold Ex.cin;constructor
 ·intro h1;exact(this.1 fun x hx=>by have:=h1 x hx;simp only[zP];omega).2
 ·intro h1 x hx;have:=this.2 ⟨by simp,h1⟩ x hx;simp only[zP]at this;omega
theorem UG:∀ (e:Ex) (l:List Int),(P8 l e).length≤l.length+e.size:=by
 intro e
 induction e using Ex.ind with
 | h k c v ks ih =>
  intro l;have hm:P8 l (.mk k c v ks)=lZ (if k=1 then VV l c else l) ks:=by simp[P8]
  have hz:(Ex.mk k c v ks).size=1+Ex.bG ks:=by simp[Ex.size]
  rw[hm,hz]
  have:∀ (xs:List Ex) (l:List Int),(∀ x∈xs,x∈ks)→(lZ l xs).length≤l.length+Ex.bG xs:=by
   intro xs
   induction xs with
   | nil=>intro l _;simp[lZ]
   | cons a xs ihx =>
    intro l h;have h1:=ihx (P8 l a) fun x hx=>h x (by simp[hx])
    have h2:=ih a (h a (by simp)) l;simp only[lZ,Ex.bG];omega
  have h2:(VV l c).length≤l.length+1:=by
   unfold VV;split
   ·omega
   ·simp only[zJ,yL,zQ,xC];omega
  by_cases h1:k=1
  ·rw[if_pos h1];have:=this ks (VV l c) fun x hx=>hx
   omega
  ·rw[if_neg h1];have:=this ks l fun x hx=>hx
   omega
def okS (a:Int):Prop:=1≤a∧a≤7
theorem AJQ:∀ a b:Fin 8,a.val≠0→b.val≠0→(1≤lJ 8 a.val b.val∧lJ 8 a.val b.val≤7)∧(1≤lJ 9 a.val b.val∧lJ 9 a.val b.val≤7)∧(1≤lJ 3 a.val b.val∧lJ 3 a.val b.val≤7)∧(1≤lJ 6 a.val b.val∧lJ 6 a.val b.val≤7):=by decide
theorem AOZ {k a b:Int} (ha:okS a) (hb:okS b):okS (lJ k a b):=by
 obtain⟨a,rfl⟩:=zB (show 0≤a by have:=ha.1;omega);obtain⟨b,rfl⟩:=zB (show 0≤b by have:=hb.1;omega);have h:=AJQ ⟨a,by have:=ha.2;omega⟩ ⟨b,by have:=hb.2;omega⟩ (by have:=ha.1;simp;omega) (by have:=hb.1;simp;omega);unfold okS;by_cases h8:k=8
 ·subst h8;exact h.1
 ·by_cases h9:k=9
  ·subst h9;exact h.2.1
  ·by_cases h6:k<6
   ·have e:lJ k a b=lJ 3 a b:=by simp[lJ,h8,h9,h6]
    rw[e];exact h.2.2.1
   ·have e:lJ k a b=lJ 6 a b:=by simp[lJ,h8,h9,h6]
    rw[e];exact h.2.2.2
theorem AIS:∀ a:Fin 8,a.val≠0→(1≤AU4 a.val∧AU4 a.val≤7)∧(1≤AU3 a.val∧AU3 a.val≤7):=by decide
theorem AR2 (v:Val):okS (stV v):=by
 unfold stV okS;split
 ·omega
 ·split<;>omega
theorem VM (st:List Int) (e:Ex):JU st e=if e.kind=1 then(st[e.col.toNat]?).getD 0 else if e.kind=2 then stV e.val else if e.kind=10 then AU4 ((e.kids[0]?.map (JU st)).getD 0)else if e.kind=11 then AU3 ((e.kids[0]?.map (JU st)).getD 0)else lJ e.kind ((e.kids[0]?.map (JU st)).getD 0) ((e.kids[1]?.map (JU st)).getD 0):=by
 cases e
 simp only[JU,RP,Ex.kind,Ex.col,Ex.val,Ex.kids,xQ];congr
end Go.Av
namespace Go.Proofs.YtjdfjgmebalaaaaGreat.P
open Go Go.Av
set_option maxRecDepth 4000
set_option maxHeartbeats 4000000
@[simp] theorem wr0:IntKind.i64.wrap 0=0:=by decide
@[simp] theorem wr1:IntKind.i64.wrap 1=1:=by decide
@[simp] theorem wr2:IntKind.i64.wrap 2=2:=by decide
@[simp] theorem wr3:IntKind.i64.wrap 3=3:=by decide
@[simp] theorem wr4:IntKind.i64.wrap 4=4:=by decide
@[simp] theorem wr7:IntKind.i64.wrap 7=7:=by decide
@[simp] theorem AjD:(2:Nat) ^ IntKind.i64.bits=18446744073709551616:=rfl
@[simp] theorem AjE:(2:Int) ^ IntKind.i64.bits=18446744073709551616:=rfl
def ACX (e:Ex) (l:List Int) (i:Nat):AS :=
 { env:=[(0, .i (.isl (aG (lZ l (e.kids.take i))))),(1, .i (.agg [.int e.kind, .int e.col, .bool e.val.null, .int e.val.n, .isl (Ex.aB e.kids)])),(3, .own 0 0),(4, .nils),(5, .int i),(8, .bool (e.kind == 1)),(17,jk i (.bool true))],
   st:=[some (.box [.int e.kind, .int e.col, .bool e.val.null, .int e.val.n, .i (.isl (Ex.aB e.kids))])] }
theorem P7:∀ e:Ex,∀ l:List Int,l.length+e.size<1000000→aH C0 189 [.i (.isl (aG l)), .i (.agg e.cells)] []=some (.i (.isl (aG (P8 l e))),[]):=by
 intro e
 induction e using Ex.ind with
 | h k c v ks ih =>
  intro l hs;generalize he:Ex.mk k c v ks=e at *
  have hks:ks=e.kids:=by rw[← he];rfl
  subst hks;have hsz:=Ex.size_eq e;have hln:=Ex.dC e.kids
  have hrd:∀ l':List Int,l'.length≤l.length+1→∀ i,i<e.kids.length→∃ a,e.kids[i]?=some a∧e.kids.take (i+1)=e.kids.take i++[a]∧gF (Ex.aB e.kids) i=some a.cells∧aH C0 189 [.i (.isl (aG (lZ l' (e.kids.take i)))), .i (.agg a.cells)] []=some (.i (.isl (aG (P8 (lZ l' (e.kids.take i)) a))),[]):=by
   intro l' hl' i hi;have h3:=zX hi;have hm:=zV h3;have htk:=aL h3;refine⟨e.kids[i],h3,htk,Ex.aO h3,ih _ hm _ ?_⟩
   have hadd:∀ (xs:List Ex) (l:List Int),(lZ l xs).length≤l.length+Ex.bG xs:=by
    intro xs
    induction xs with
    | nil=>intro l;simp[lZ]
    | cons a xs ihx=>intro l;have h1:=ihx (P8 l a);have h2:=UG a l;simp only[lZ,Ex.bG];omega
   have h1:=hadd (e.kids.take i) l'
   have hsum:∀ (xs ys:List Ex),Ex.bG (xs++ys)=Ex.bG xs+Ex.bG ys:=by
    intro xs
    induction xs with
    | nil=>intro ys;simp[Ex.bG]
    | cons a xs ihx=>intro ys;simp[Ex.bG,ihx,yK]
   have h2:=hsum (e.kids.take (i+1)) (e.kids.drop (i+1));rw[yI,htk,hsum]at h2;simp only[Ex.bG]at h2;omega
  rw[aD rfl Tryz.func189 rfl rfl,Ex.aA,X7];by_cases h1:e.kind=1
  ·have hn:=UF l e.col (by omega)
   have hil:(VV l e.col).length≤l.length+1:=by
    unfold VV;split
    ·omega
    ·simp only[zJ,yL,zQ,xC];omega
   simp[h1,hn];rw[aQ (ACX e (VV l e.col)) e.kids.length (by simp[ACX,lZ,h1])]
   ·rw[aF];simp[ACX]
   ·intro i hi;obtain⟨a,h3,htk,r2,hk⟩:=hrd _ hil i hi;have w2:IntKind.i64.wrap ((i:Int)+1)=i+1:=wrO;rw[Ex.aA a]at r2 hk;simp[ACX,hi,r2,hk,w2,htk,CB]
  ·simp[h1];rw[aQ (ACX e l) e.kids.length (by simp[ACX,lZ,h1])]
   ·rw[aF];simp[ACX]
   ·intro i hi;obtain⟨a,h3,htk,r2,hk⟩:=hrd l (by omega) i hi;have w2:IntKind.i64.wrap ((i:Int)+1)=i+1:=wrO;rw[Ex.aA a]at r2 hk;simp[ACX,hi,r2,hk,w2,htk,CB]
theorem PN (e:Ex) {m:Int} (hw:e.wf m=true) (hs:e.size<100000) (lo hi:Int) (hh:-100≤hi∧hi≤100):aH C0 168 [.i (.agg e.cells), .int lo, .int (hi-1)] []=some (.bool (e.cin lo hi),[]):=by
 have ha:=P7 e [] (by simp;omega);have hc:=AJS hw lo hi;have hsz:=UG e [];rw[aD rfl Tryz.func168 rfl rfl];generalize P8 [] e=l at *
 rw[Ex.aA]at *
 simp only[aG]at ha
 cases hl:l with
 | nil =>
  have:e.cin lo hi=true:=hc.1 (.inl hl);rw[hl]at ha;simp[ha,this,aG]
 | cons a r =>
  have h0:l[0]?=some a:=by rw[hl];rfl
  have hlen:0<l.length:=by rw[hl];simp
  have hk:l.length-1<l.length:=by omega
  have h2:=zX hk;generalize l[l.length-1]=b at h2;have r0:=aT h0;have r2:=aT h2;have w1:IntKind.i64.wrap ((l.length:Int)-1)=((l.length-1:Nat):Int):=by rw[wrap64 (by simp at hsz;omega) (by simp at hsz;omega)];omega
  have hne:¬ l=[]:=by rw[hl];simp
  have hiff:e.cin lo hi=(decide (lo≤a) && decide (b≤hi-1)):=by
   rw[zA1,← hc];simp only[zU,zP];constructor
   ·rintro(h|⟨⟨x,hx,h3⟩,y,hy,h4⟩)
    ·exact absurd h hne
    ·rw[h0]at hx;rw[h2]at hy;injection hx with hx;injection hy with hy;subst hx;subst hy;exact⟨h3,h4⟩
   ·rintro⟨h3,h4⟩;exact .inr ⟨⟨a,h0,h3⟩,b,h2,h4⟩
  rw[hiff];by_cases q:lo≤a
  ·have q2:a ≥ lo:=q;simp[ha,hne,r0,r2,w1,hlen,hk,q]
  ·simp[ha,hne,r0,hlen,q]
theorem kZ (b:Bool) (n:Int):aH C0 196 [.i (.agg [.bool b, .int n])] []=some (.int (stV ⟨b,n⟩),[]):=by
 rw[aD rfl Tryz.func196 rfl rfl]
 cases b
 ·by_cases h:n=0<;>simp[stV,h]
 ·simp[stV]
theorem QF (b:Bool) (n:Int):aH C0 203 [.i (.agg [.bool b, .int n])] []=some (.int (stV ⟨b,n⟩),[]):=by
 rw[aD rfl Tryz.func203 rfl rfl]
 cases b
 ·by_cases h:n=0<;>simp[stV,h]
 ·simp[stV]
theorem ZN (x:Int):aH C0 210 [.int x] []=some (.i (.agg [.bool (decide (x=4)), .int (if x=2 then 1 else 0)]),[]):=by
 rw[aD rfl Tryz.func210 rfl rfl];by_cases h:x=4
 ·subst h;simp
 ·by_cases h2:x=2
  ·subst h2;simp
  ·simp[h,h2]
theorem eight {a:Int} (h:0≤a∧a≤7):a=0∨a=1∨a=2∨a=3∨a=4∨a=5∨a=6∨a=7:=by omega
theorem IP {a:Int} (h:0≤a∧a≤7):aH C0 207 [.int a] []=some (.i (.isl (eB (exS a))),[]):=by
 rw[aD rfl Tryz.func207 rfl rfl];have s0:=kZ false 0;have s1:=kZ false 1;have s2:=kZ true 0;simp only[stV,yX,if_false,if_true,Int.reduceEq]at s0 s1 s2
 rcases eight h with rfl|rfl|rfl|rfl|rfl|rfl|rfl|rfl
 all_goals
  simp;rw[aF];simp[s0,s1,s2];rw[aF];simp[s0,s1,s2];rw[aF];simp[s0,s1,s2];rw[aF];simp[exS,jY,eB]
theorem aS (e:Ex) (k:Pn):(filt e k).cells=[.int 2, .int 0, .isl [e.cells], .isl [], .isl [k.cells]]:=by simp[filt,Pn.cells,Ex.aB,aG,Pn.aB]
theorem jI (es:List Ex) (k:Pn):(proj es k).cells=[.int 3, .int 0, .isl (Ex.aB es), .isl [], .isl [k.cells]]:=by simp[proj,Pn.cells,aG,Pn.aB]
theorem pair_cells (kd:Int) (e:Ex) (a b:Pn):(bA kd e a b).cells=[.int kd, .int 0, .isl [e.cells], .isl [], .isl [a.cells,b.cells]]:=by simp[bA,Pn.cells,Ex.aB,aG,Pn.aB]
theorem FB (a b:Pn):(bY a b).cells=[.int 6, .int 0, .isl [], .isl [], .isl [a.cells,b.cells]]:=by simp[bY,Pn.cells,Ex.aB,aG,Pn.aB]
theorem pF (a b:Ex):(Z7 a b).cells=[.int 8, .int 0, .bool false, .int 0, .isl [a.cells,b.cells]]:=by simp[Z7,Ex.cells,Ex.aB,Val.zero]
theorem kP (c:Int):(YZ c).cells=[.int 1, .int c, .bool false, .int 0, .isl []]:=by simp[YZ,Ex.cells,Ex.aB,Val.zero]
theorem aU:Pn.zero.cells=[.int 0, .int 0, .isl [], .isl [], .isl []]:=by simp[Pn.zero,Pn.cells,Ex.aB,aG,Pn.aB]
theorem eP (e:Ex) (k:Pn):aH C0 149 [.i (.agg e.cells), .i (.agg k.cells)] []=some (.i (.agg (filt e k).cells),[]):=by
 rw[aD rfl Tryz.func149 rfl rfl,aS,Ex.aA,Pn.aA];simp
theorem mU (kd:Int) (e:Ex) (a b:Pn):aH C0 152 [.int kd, .i (.agg e.cells), .i (.agg a.cells), .i (.agg b.cells)] []=some (.i (.agg (bA kd e a b).cells),[]):=by
 rw[aD rfl Tryz.func152 rfl rfl,pair_cells,Ex.aA,Pn.aA a,Pn.aA b];simp
theorem AGD (a b:Ex):aH C0 150 [.i (.agg a.cells), .i (.agg b.cells)] []=some (.i (.agg (Z7 a b).cells),[]):=by
 rw[aD rfl Tryz.func150 rfl rfl,pF,Ex.aA a,Ex.aA b];simp
theorem BP (c:Int):aH C0 156 [.int c] []=some (.i (.agg (YZ c).cells),[]):=by
 rw[aD rfl Tryz.func156 rfl rfl,kP];simp
theorem fD {p:Pn} {kd:Int} (h:p.kind≠2):aH C0 148 [.i (.iref p.cells), .int kd] []=some (.tup [.i (.lit (.pointer none)), .i (.lit (.pointer none)), .bool false],[]):=by
 rw[aD rfl Tryz.func148 rfl rfl,Pn.aA];simp[h]
theorem dW {e:Ex} {k:Pn} {kd:Int} (h:k.kind≠kd):aH C0 148 [.i (.iref (filt e k).cells), .int kd] []=some (.tup [.i (.lit (.pointer none)), .i (.lit (.pointer none)), .bool false],[]):=by
 rw[aD rfl Tryz.func148 rfl rfl,aS,Pn.aA k];simp[h]
theorem fM {e:Ex} {k:Pn} {kd:Int} (h:k.kind=kd):aH C0 148 [.i (.iref (filt e k).cells), .int kd] []=some (.tup [.i (.iref e.cells), .i (.iref k.cells), .bool true],[]):=by
 rw[aD rfl Tryz.func148 rfl rfl,aS,Pn.aA k,Ex.aA e];simp[h]
theorem VL (c w:Int) (h0:0≤c∧c≤6) (hw:0≤w∧w≤6):aH C0 154 [.int c, .own 0 0] [some (.box [.int w])]=some (.int (c-w),[some (.box [.int w])]):=by
 rw[aD rfl Tryz.func154 rfl rfl];have w1:IntKind.i64.wrap (c-w)=c-w:=wrO;simp[w1]
theorem KY (c a b:Int) (h0:0≤c∧c≤12) (ha:0≤a∧a≤6) (hb:0≤b∧b≤6):aH C0 155 [.int c, .own 0 0, .own 1 0] [some (.box [.int a]),some (.box [.int b])]=some (.int (pO a b c),[some (.box [.int a]),some (.box [.int b])]):=by
 rw[aD rfl Tryz.func155 rfl rfl];have w1:IntKind.i64.wrap (c-a)=c-a:=wrO;have w2:IntKind.i64.wrap (c+b)=c+b:=wrO;unfold pO;by_cases h:c<a
 ·simp[h,w2]
 ·simp[h,w1]
def zrw:List IV:=[.int 0, .int 0, .bool false, .int 0, .isl []]
@[simp] theorem AG2 {e:Ex} (h:e.size<1000000000):aH C0 92 [.i (.iref e.cells)] []=some (.i (.agg e.cells),[]):=by
  rw[aP (p:=J6) rfl];exact YV h
theorem AE4 {e:Ex} {w:Int} (hw:0≤w∧w≤6) (hk:e.kind=1) (hc:0≤e.col∧e.col<6) :
 aH C0 177 [.i (.iref e.cells), .own 0 0] [some (.box [.fn (.func 154) [.own 1 0]]),some (.box [.int w])]=some (.i (.agg (YZ (e.col-w)).cells),[some (.box [.fn (.func 154) [.own 1 0]]),some (.box [.int w])]):=by
 have hp:=VL e.col w (by omega) hw;have h2:=BP (e.col-w);rw[aD rfl Tryz.func177 rfl rfl,Ex.aA e];rw[kP]at *
 simp[hk,hp,h2]
theorem AE2 {e:Ex} {w:Int} (hk:e.kind≠1) (hs:e.size<1000000000) :
 aH C0 177 [.i (.iref e.cells), .own 0 0] [some (.box [.fn (.func 154) [.own 1 0]]),some (.box [.int w])]=some (.i (.agg e.cells),[some (.box [.fn (.func 154) [.own 1 0]]),some (.box [.int w])]):=by
 have hc:=AG2 hs;rw[aD rfl Tryz.func177 rfl rfl];rw[Ex.aA e]at *
 simp[hk,hc]
def RNR (e:Ex) (w:Int) (f:Ex→Ex) (i:Nat):AS :=
 { env:=[(0, .i (.iref [.int e.kind, .int e.col, .bool e.val.null, .int e.val.n, .isl (Ex.aB e.kids)])),(1, .fn (.func 177) [.own 0 0]),(4, .own 2 0),(5, .own 3 0),(6,jk i (.int (i-1))),(12, .bool ((e.kids.length:Int) == 0)),(39, .int e.kids.length),(40, .int i),(41,jk i (.bool true))],
   st:=[some (.box [.fn (.func 154) [.own 1 0]]),some (.box [.int w]),some (.box [.int 0, .int 0, .bool false, .int 0, .nils]),some (.box [.int e.kind, .int e.col, .bool e.val.null, .int e.val.n, .osl 4 5 0 e.kids.length]),some (.arr 5 (Ex.aB ((e.kids.map f).take i)++List.replicate (e.kids.length-i) zrw))] }
theorem AV9 {e:Ex} {w:Int} {f:Ex→Ex} (hk:e.kids≠[]) (hl:e.kids.length<1000000000) (ih:∀ x∈e.kids,aH C0 176 [.i (.iref x.cells), .fn (.func 177) [.own 0 0]] [some (.box [.fn (.func 154) [.own 1 0]]),some (.box [.int w])]=some (.i (.agg (f x).cells),[some (.box [.fn (.func 154) [.own 1 0]]),some (.box [.int w])])) :
 aH C0 176 [.i (.iref e.cells), .fn (.func 177) [.own 0 0]] [some (.box [.fn (.func 154) [.own 1 0]]),some (.box [.int w])]=some (.i (.agg (Ex.mk e.kind e.col e.val (e.kids.map f)).cells),[some (.box [.fn (.func 154) [.own 1 0]]),some (.box [.int w])]):=by
 rw[aD rfl Tryz.func176 rfl rfl,Ex.aA];have hb:56*(e.kids.length:Int)≤281474976710656:=by omega
 simp[hk,hb];rw[aQ (RNR e w f) e.kids.length (by simp[RNR,Ex.aB,zrw])]
 ·rw[aF];have ht:(e.kids.map f).take e.kids.length=e.kids.map f:=zY (by simp);simp[RNR,Ex.cells,ht]
 ·intro i hi;have h3:=zX hi;have hm:=zV h3;have hc:=ih _ hm;have r2:=Ex.aO h3;generalize e.kids[i]=x at h3 hc r2;have w2:IntKind.i64.wrap ((i:Int)+1)=i+1:=wrO;rw[Ex.aA]at hc r2;have hD:(Ex.aB ((e.kids.map f).take i)).length=i:=by simp;omega
  have hS:Ex.aB ((e.kids.map f).take i)++[(f x).cells]=Ex.aB ((e.kids.map f).take (i+1)):=by rw[aL (a:=f x) (by simp[h3]),Ex.aZ]
  have g1:=EO (n:=e.kids.length) (z:=zrw) hD hi;have g2:=EN (n:=e.kids.length) (z:=zrw) (x:=(f x).cells) hD hi;have g3:splice zrw 0 (f x).cells=some (f x).cells:=u7 (by simp[zrw]);rw[hS]at g2;simp[RNR,hi,r2,hc,w2,g1,g2,g3]
theorem ART {e x:Ex} {w:Int} (hk:e.kids=[]) (h:aH C0 177 [.i (.iref e.cells), .own 0 0] [some (.box [.fn (.func 154) [.own 1 0]]),some (.box [.int w])]=some (.i (.agg x.cells),[some (.box [.fn (.func 154) [.own 1 0]]),some (.box [.int w])])) :
 aH C0 176 [.i (.iref e.cells), .fn (.func 177) [.own 0 0]] [some (.box [.fn (.func 154) [.own 1 0]]),some (.box [.int w])]=some (.i (.agg x.cells),[some (.box [.fn (.func 154) [.own 1 0]]),some (.box [.int w])]):=by
 rw[aD rfl Tryz.func176 rfl rfl];rw[Ex.aA e]at h ⊢;rw[Ex.aA x]at h ⊢;simp[hk,Ex.aB]at h ⊢;simp[h]
theorem ADV {w:Int} (hw:0≤w∧w≤6):∀ (e:Ex),e.wf 6=true→e.size<1000000000→aH C0 176 [.i (.iref e.cells), .fn (.func 177) [.own 0 0]] [some (.box [.fn (.func 154) [.own 1 0]]),some (.box [.int w])]=some (.i (.agg (e.vN (·-w)).cells),[some (.box [.fn (.func 154) [.own 1 0]]),some (.box [.int w])]):=by
 intro e
 induction e using Ex.ind with
 | h k c v ks ih =>
  intro hx6 hs;have hsz:=Ex.size_eq (.mk k c v ks);have hln:=Ex.dC ks;simp only[Ex.kids]at hsz;by_cases h1:k=1
  ·have hc:=Ex.lI hx6 (by simpa [Ex.kind]using h1);rw[Ex.EL _ (by simpa [Ex.kind]using h1)];exact ART hc.2.2 (AE4 hw (by simpa [Ex.kind]using h1) ⟨hc.1,hc.2.1⟩)
  ·rw[Ex.EK _ (by simpa [Ex.kind]using h1)];by_cases hk:ks=[]
   ·subst hk;exact ART rfl (AE2 (by simpa [Ex.kind]using h1) hs)
   ·exact AV9 hk (by simp only[Ex.kids];omega) fun x hx=>ih x hx (Ex.gM hx6 hx) (by have:=Ex.jU (l:=ks) hx;omega)
theorem VE {w:Int} (hw:0≤w∧w≤6) (e:Ex) (hx6:e.wf 6=true) (hs:e.size<1000000000):aH C0 153 [.i (.iref e.cells), .fn (.func 154) [.own 0 0]] [some (.box [.int w])]=some (.i (.agg (e.vN (·-w)).cells),[some (.box [.int w])]):=by
 have h:=ADV hw e hx6 hs;rw[aD rfl Tryz.func153 rfl rfl];generalize e.vN (·-w)=x at *
 rw[Ex.aA e,Ex.aA x]at *
 simp[h]
theorem AE3 {e:Ex} {a b:Int} (ha:0≤a∧a≤6) (hb:0≤b∧b≤6) (hk:e.kind=1) (hc:0≤e.col∧e.col<6) :
 aH C0 177 [.i (.iref e.cells), .own 0 0] [some (.box [.fn (.func 155) [.own 1 0, .own 2 0]]),some (.box [.int a]),some (.box [.int b])]=some (.i (.agg (YZ (pO a b e.col)).cells),[some (.box [.fn (.func 155) [.own 1 0, .own 2 0]]),some (.box [.int a]),some (.box [.int b])]):=by
 have hp:=KY e.col a b (by omega) ha hb;have h2:=BP (pO a b e.col);rw[aD rfl Tryz.func177 rfl rfl,Ex.aA e];rw[kP]at *
 simp[hk,hp,h2]
theorem AE1 {e:Ex} {a b:Int} (hk:e.kind≠1) (hs:e.size<1000000000) :
 aH C0 177 [.i (.iref e.cells), .own 0 0] [some (.box [.fn (.func 155) [.own 1 0, .own 2 0]]),some (.box [.int a]),some (.box [.int b])]=some (.i (.agg e.cells),[some (.box [.fn (.func 155) [.own 1 0, .own 2 0]]),some (.box [.int a]),some (.box [.int b])]):=by
 have hc:=AG2 hs;rw[aD rfl Tryz.func177 rfl rfl];rw[Ex.aA e]at *
 simp[hk,hc]
def RNS (e:Ex) (a b:Int) (f:Ex→Ex) (i:Nat):AS :=
 { env:=[(0, .i (.iref [.int e.kind, .int e.col, .bool e.val.null, .int e.val.n, .isl (Ex.aB e.kids)])),(1, .fn (.func 177) [.own 0 0]),(4, .own 3 0),(5, .own 4 0),(6,jk i (.int (i-1))),(12, .bool ((e.kids.length:Int) == 0)),(39, .int e.kids.length),(40, .int i),(41,jk i (.bool true))],
   st:=[some (.box [.fn (.func 155) [.own 1 0, .own 2 0]]),some (.box [.int a]),some (.box [.int b]),some (.box [.int 0, .int 0, .bool false, .int 0, .nils]),some (.box [.int e.kind, .int e.col, .bool e.val.null, .int e.val.n, .osl 5 5 0 e.kids.length]),some (.arr 5 (Ex.aB ((e.kids.map f).take i)++List.replicate (e.kids.length-i) zrw))] }
theorem AV8 {e:Ex} {a b:Int} {f:Ex→Ex} (hk:e.kids≠[]) (hl:e.kids.length<1000000000) (ih:∀ x∈e.kids,aH C0 176 [.i (.iref x.cells), .fn (.func 177) [.own 0 0]] [some (.box [.fn (.func 155) [.own 1 0, .own 2 0]]),some (.box [.int a]),some (.box [.int b])]=some (.i (.agg (f x).cells),[some (.box [.fn (.func 155) [.own 1 0, .own 2 0]]),some (.box [.int a]),some (.box [.int b])])) :
 aH C0 176 [.i (.iref e.cells), .fn (.func 177) [.own 0 0]] [some (.box [.fn (.func 155) [.own 1 0, .own 2 0]]),some (.box [.int a]),some (.box [.int b])]=some (.i (.agg (Ex.mk e.kind e.col e.val (e.kids.map f)).cells),[some (.box [.fn (.func 155) [.own 1 0, .own 2 0]]),some (.box [.int a]),some (.box [.int b])]):=by
 rw[aD rfl Tryz.func176 rfl rfl,Ex.aA];have hb:56*(e.kids.length:Int)≤281474976710656:=by omega
 simp[hk,hb];rw[aQ (RNS e a b f) e.kids.length (by simp[RNS,Ex.aB,zrw])]
 ·rw[aF];have ht:(e.kids.map f).take e.kids.length=e.kids.map f:=zY (by simp);simp[RNS,Ex.cells,ht]
 ·intro i hi;have h3:=zX hi;have hm:=zV h3;have hc:=ih _ hm;have r2:=Ex.aO h3;generalize e.kids[i]=x at h3 hc r2;have w2:IntKind.i64.wrap ((i:Int)+1)=i+1:=wrO;rw[Ex.aA]at hc r2;have hD:(Ex.aB ((e.kids.map f).take i)).length=i:=by simp;omega
  have hS:Ex.aB ((e.kids.map f).take i)++[(f x).cells]=Ex.aB ((e.kids.map f).take (i+1)):=by rw[aL (a:=f x) (by simp[h3]),Ex.aZ]
  have g1:=EO (n:=e.kids.length) (z:=zrw) hD hi;have g2:=EN (n:=e.kids.length) (z:=zrw) (x:=(f x).cells) hD hi;have g3:splice zrw 0 (f x).cells=some (f x).cells:=u7 (by simp[zrw]);rw[hS]at g2;simp[RNS,hi,r2,hc,w2,g1,g2,g3]
theorem ARS {e x:Ex} {a b:Int} (hk:e.kids=[]) (h:aH C0 177 [.i (.iref e.cells), .own 0 0] [some (.box [.fn (.func 155) [.own 1 0, .own 2 0]]),some (.box [.int a]),some (.box [.int b])]=some (.i (.agg x.cells),[some (.box [.fn (.func 155) [.own 1 0, .own 2 0]]),some (.box [.int a]),some (.box [.int b])])) :
 aH C0 176 [.i (.iref e.cells), .fn (.func 177) [.own 0 0]] [some (.box [.fn (.func 155) [.own 1 0, .own 2 0]]),some (.box [.int a]),some (.box [.int b])]=some (.i (.agg x.cells),[some (.box [.fn (.func 155) [.own 1 0, .own 2 0]]),some (.box [.int a]),some (.box [.int b])]):=by
 rw[aD rfl Tryz.func176 rfl rfl];rw[Ex.aA e]at h ⊢;rw[Ex.aA x]at h ⊢;simp[hk,Ex.aB]at h ⊢;simp[h]
theorem ADU {a b:Int} (ha:0≤a∧a≤6) (hb:0≤b∧b≤6):∀ (e:Ex),e.wf 6=true→e.size<1000000000→aH C0 176 [.i (.iref e.cells), .fn (.func 177) [.own 0 0]] [some (.box [.fn (.func 155) [.own 1 0, .own 2 0]]),some (.box [.int a]),some (.box [.int b])]=some (.i (.agg (e.vN (pO a b)).cells),[some (.box [.fn (.func 155) [.own 1 0, .own 2 0]]),some (.box [.int a]),some (.box [.int b])]):=by
 intro e
 induction e using Ex.ind with
 | h k c v ks ih =>
  intro hx6 hs;have hsz:=Ex.size_eq (.mk k c v ks);have hln:=Ex.dC ks;simp only[Ex.kids]at hsz;by_cases h1:k=1
  ·have hc:=Ex.lI hx6 (by simpa [Ex.kind]using h1);rw[Ex.EL _ (by simpa [Ex.kind]using h1)];exact ARS hc.2.2 (AE3 ha hb (by simpa [Ex.kind]using h1) ⟨hc.1,hc.2.1⟩)
  ·rw[Ex.EK _ (by simpa [Ex.kind]using h1)];by_cases hk:ks=[]
   ·subst hk;exact ARS rfl (AE1 (by simpa [Ex.kind]using h1) hs)
   ·exact AV8 hk (by simp only[Ex.kids];omega) fun x hx=>ih x hx (Ex.gM hx6 hx) (by have:=Ex.jU (l:=ks) hx;omega)
theorem VD {a b:Int} (ha:0≤a∧a≤6) (hb:0≤b∧b≤6) (e:Ex) (hx6:e.wf 6=true) (hs:e.size<1000000000):aH C0 153 [.i (.iref e.cells), .fn (.func 155) [.own 0 0, .own 1 0]] [some (.box [.int a]),some (.box [.int b])]=some (.i (.agg (e.vN (pO a b)).cells),[some (.box [.int a]),some (.box [.int b])]):=by
 have h:=ADU ha hb e hx6 hs;rw[aD rfl Tryz.func153 rfl rfl];generalize e.vN (pO a b)=x at *
 rw[Ex.aA e,Ex.aA x]at *
 simp[h]
end Go.Proofs.YtjdfjgmebalaaaaGreat.P

/- Part 6 of what the proof rests on: the executor and what it is worth, and the program's functions as it runs them. No condition. -/
import Derived.Test.YtjdfjgmebalaaaaGreatT5
import Derived.ChangeOld
import Derived.OpenShut
set_option linter.unusedVariables false
set_option linter.unusedSimpArgs false
namespace Go.Av
theorem iY {e:Ex} {a:Pn} (he:e.thin) (ha:a.thin):(filt e a).thin:=by simp[filt,Pn.thin,Pn.oF,he,ha]
theorem FC {es:List Ex} {a:Pn} (hl:es.length<1000000000) (he:∀ e∈es,e.thin) (ha:a.thin):(proj es a).thin:=by simp[proj,Pn.thin,Pn.oF,hl,ha];exact he
theorem qH {kd:Int} {e:Ex} {a b:Pn} (he:e.thin) (ha:a.thin) (hb:b.thin):(bB kd e a b).thin:=by simp[bB,Pn.thin,Pn.oF,he,ha,hb]
theorem WF {a b:Pn} (ha:a.thin) (hb:b.thin):(dZ a b).thin:=by simp[dZ,Pn.thin,Pn.oF,ha,hb]
theorem QB {a b:Ex} (ha:a.thin) (hb:b.thin):(VK a b).thin:=by simp[VK,Ex.thin,Ex.oF,ha,hb]
theorem oZ:Ex.zero.thin:=by simp[Ex.zero,Ex.thin,Ex.oF]
theorem Pn.qM {p:Pn} (h:p.thin):p.jH.thin:=by
 unfold Pn.jH
 cases hk:p.kids[0]? with
 | none=>exact Pn.MU
 | some a=>exact((Pn.bI p).1 h).2.2.2.2 a (zV hk)
theorem Pn.vV {p:Pn} (h:p.thin):p.qL.thin:=by
 unfold Pn.qL
 cases hk:p.kids[1]? with
 | none=>exact Pn.MU
 | some a=>exact((Pn.bI p).1 h).2.2.2.2 a (zV hk)
theorem Pn.V3 {p:Pn} (h:p.thin):p.ex0.thin:=by
 unfold Pn.ex0
 cases hk:p.exprs[0]? with
 | none=>exact oZ
 | some a=>exact((Pn.bI p).1 h).2.1 a (zV hk)
theorem Ex.qM {e:Ex} (h:e.thin):e.jH.thin:=by
 unfold Ex.jH
 cases hk:e.kids[0]? with
 | none=>exact oZ
 | some a=>exact((Ex.bI e).1 h).2 a (zV hk)
theorem Ex.vV {e:Ex} (h:e.thin):e.qL.thin:=by
 unfold Ex.qL
 cases hk:e.kids[1]? with
 | none=>exact oZ
 | some a=>exact((Ex.bI e).1 h).2 a (zV hk)
theorem Ex.TV {l:List Ex} (hl:∀ b∈l,b.thin):∀ e:Ex,e.thin→(e.sub l).thin:=by
 intro e
 induction e using Ex.ind with
 | h k c v ks ih =>
  intro ht;have h:=(Ex.bI _).1 ht;by_cases hk:k=1
  ·unfold Ex.sub;rw[if_pos hk]
   cases hx:l[c.toNat]? with
   | none=>exact oZ
   | some b=>exact hl b (zV hx)
  ·rw[Ex.tF l (e:=.mk k c v ks) hk,Ex.bI];refine⟨by simpa [Ex.kids]using h.1,fun x hx=>?_⟩;simp only[Ex.kids,yD]at hx;obtain⟨y,hy,rfl⟩:=hx;exact ih y hy (h.2 y hy)
theorem Ex.OQ {f:Int→Int}:∀ e:Ex,e.thin→(e.u7 f).thin:=by
 intro e
 induction e using Ex.ind with
 | h k c v ks ih =>
  intro ht;have h:=(Ex.bI _).1 ht;by_cases hk:k=1
  ·rw[Ex.DX f (e:=.mk k c v ks) hk];exact PX _
  ·rw[Ex.DW f (e:=.mk k c v ks) hk,Ex.bI];refine⟨by simpa [Ex.kids]using h.1,fun x hx=>?_⟩;simp only[Ex.kids,yD]at hx;obtain⟨y,hy,rfl⟩:=hx;exact ih y hy (h.2 y hy)
theorem AEK {ws:List Int} {r:Int} {e:Ex} {k q:Pn} (he:e.thin) (hk:k.thin) (h:rwF ws r e k=some q):q.thin:=by
 have k0:=Pn.qM hk;have k1:=Pn.vV hk;have x0:=Pn.V3 hk;have hx:=((Pn.bI k).1 hk).2.1;have hl:=((Pn.bI k).1 hk).1;unfold rwF at h
 repeat' split at h
 all_goals first
  | (cases h;done)
  | (injection h with h;subst h
     first
      | exact iY (QB x0 he) k0
      | exact iY (Ex.vV he) (iY (Ex.qM he) hk)
      | exact qH x0 (iY he k0) k1
      | exact qH x0 k0 (iY (Ex.OQ _ he) k1)
      | exact qH (QB x0 he) k0 k1
      | exact iY he (qH x0 k0 k1)
      | exact WF (iY he k0) (iY he k1)
      | exact FC hl hx (iY (Ex.TV hx _ he) k0))
theorem AEI {ws:List Int} (hw:∀ w∈ws,0≤w∧w≤6) {r:Int} {p q:Pn} (hp:p.thin) (h:rwP ws r p=some q):q.thin:=by
 have k0:=Pn.qM hp;have k1:=Pn.vV hp;have x0:=Pn.V3 hp;have hx:=((Pn.bI p).1 hp).2.1;have hl:=((Pn.bI p).1 hp).1;have hx0:=((Pn.bI _).1 k0).2.1;have r0:=Pn.rE hw p.jH 8;have r1:=Pn.rE hw p.qL 8;unfold rwP at h;split at h
 ·exact AEK x0 k0 h
 split at h
 ·injection h with h;subst h;refine FC (by simp;omega) (fun e he=>?_) (qH (Ex.OQ _ x0) k1 k0)
  rcases zU.1 he with h|h<;>exact p9 _ _ e h
 split at h
 ·injection h with h;subst h;exact k0
 split at h
 ·injection h with h;subst h;refine FC (by simpa using hl) (fun e he=>?_) (Pn.qM k0);obtain⟨y,hy,rfl⟩:=yD.1 he;exact Ex.TV hx0 y (hx y hy)
 ·cases h
theorem UA {q:Pn} (hq:q.thin):∀ (path:List Int) (p a:Pn),p.thin→Pn.at path p=some a→(Pn.put path p q).thin
 | [],p,a,_,_=>by simpa [Pn.put]using hq
 | x::r,p,a,hp,ha=>by
  obtain⟨n,rfl,b,hb,hr⟩:=Pn.qY ha;have h:=(Pn.bI p).1 hp;have ih:=UA hq r b a (h.2.2.2.2 b (zV hb)) hr;rw[Pn.DT q hb,Pn.bI];refine⟨h.1,h.2.1,h.2.2.1,by simpa [Pn.kids]using h.2.2.2.1,fun c hc=>?_⟩;simp only[Pn.kids]at hc
  rcases xJ hc with h1|h1
  ·exact h.2.2.2.2 c h1
  ·rw[h1];exact ih
end Go.Av
namespace Go.Proofs.YtjdfjgmebalaaaaGreat.P
open Go Go.Av
set_option maxRecDepth 4000
set_option maxHeartbeats 4000000
theorem KY {p q:Pn} (hq:q.thin):aI C0 103 [.i (.agg p.cells), .i (.isl []), .i (.agg q.cells)] []=some (.i (.agg q.cells),[]):=by
 have h:=H9 q hq;rw[aD rfl Tryz.func103 rfl rfl];rw[Pn.aA p,Pn.aA q]at *
 by_cases he:q.exprs=[]
 ·by_cases hk:q.kids=[]
  ·simp[pcX,pcS,hk,he,Pn.aB,Ex.aB]at h;simp[h,hk,he,Pn.aB,Ex.aB]
  ·have hkl:q.kids.length≠0:=fun h=>hk (zW.1 h)
   simp[pcX,pcS,hk,he,aP hkl,aM hkl,Ex.aB]at h;simp[h,he,Ex.aB]
 ·have hel:q.exprs.length≠0:=fun h=>he (zW.1 h)
  by_cases hk:q.kids=[]
  ·simp[pcX,pcS,hk,he,aP hel,aM hel,Pn.aB]at h;simp[h,hk,Pn.aB]
  ·have hkl:q.kids.length≠0:=fun h=>hk (zW.1 h)
   simp[pcX,pcS,hk,he,aP hel,aM hel,aP hkl,aM hkl]at h;simp[h]
theorem BO {q:Pn} (hq:q.thin):∀ (path:List Int) (p a:Pn),p.thin→path.length<1000000→Pn.at path p=some a→aI C0 103 [.i (.agg p.cells), .i (.isl (aF path)), .i (.agg q.cells)] []=some (.i (.agg (Pn.put path p q).cells),[])
 | [],p,a,hp,hl,ha=>by simpa [aF,Pn.put]using KY (p:=p) hq
 | x::r,p,a,hp,hl,ha=>by
  obtain⟨n,rfl,b,hb,hr⟩:=Pn.qY ha;have hrl:r.length<1000000:=by simp at hl;omega
  have ih:=BO hq r b a (((Pn.bI p).1 hp).2.2.2.2 b (zV hb)) hrl hr;have h:=H9 p hp;have hk:p.kids≠[]:=fun h=>by rw[h]at hb;simp at hb
  have hkl:p.kids.length≠0:=fun h=>hk (zW.1 h)
  have hn:=(zY.1 hb).1;have r4:=Pn.aN hb;rw[Pn.DT q hb,aD rfl Tryz.func103 rfl rfl];generalize Pn.put r b q=z at *
  have hs:=Pn.rU p.kids n z;have hsl:(p.kids.set n z).length=p.kids.length:=by simp
  have hsn:p.kids.set n z≠[]:=fun h=>by rw[h]at hsl;simp at hsl;exact hkl hsl.symm
  have ht:(Pn.aB (p.kids.set n z)).take p.kids.length=Pn.aB (p.kids.set n z):=zZ (by simp);have hlen1:(r.length:Int)+1≠0:=by omega
  have hone:(1:Int)≤(r.length:Int)+1:=by omega
  rw[Pn.aA p,Pn.aA q]at *
  rw[Pn.aA b,Pn.aA z]at *
  have htr:List.take r.length (aF r)=aF r:=zZ (by simp);by_cases he:p.exprs=[]
  ·simp[pcX,pcS,hk,he,aP hkl,aM hkl,Ex.aB]at h;simp[h,he,Ex.aB,aF,Pn.cells,hn,hlen1,hone,r4,ih,hs,ht,htr]
  ·have hel:p.exprs.length≠0:=fun h=>he (zW.1 h)
   simp[pcX,pcS,hk,he,aP hel,aM hel,aP hkl,aM hkl]at h;simp[h,aF,Pn.cells,hn,hlen1,hone,r4,ih,hs,ht,htr]
theorem CV {ws:List Int} (hw:kE ws=true) {p:Pn} (hp:p.wd ws 8≠0) (r:Int) {path:List Int} (hl:path.length<1000000):aI C0 65 [.i (.agg p.cells), .i (.isl (aF ws)), .i (.agg [.int r, .isl (aF path)])] []=some (.tup [.i (.agg (AFK (apS ws r path p)).cells), .bool (apS ws r path p).isSome],[]):=by
 have ht:=dO p 8 hp;have c1:=AAG ht hl;unfold apS
 cases ha:Pn.at path p with
 | none =>
  rw[ha]at c1;rw[aD rfl Tryz.func65 rfl rfl];simp only[Option.getD,Option.isSome,Option.bind,AFK,aT,Pn.aA p]at c1 ⊢;simp[c1]
 | some a =>
  rw[ha]at c1
  have ha8:a.wd ws 8≠0:=by
   obtain⟨h1,h2⟩:=TD path p 8 a hp ha;rw[Pn.kK a _ 8 h2 (by omega)];exact h2
  have hat:=dO a 8 ha8;have c2:=ANG hw ha8 r;unfold SRw at c2
  cases hq:rwP ws r a with
  | none =>
   rw[hq]at c2;rw[aD rfl Tryz.func65 rfl rfl];simp only[hq,Option.getD,Option.isSome,Option.bind,AFK,aT,Pn.aA p,Pn.aA a]at c1 c2 ⊢;simp[c1,c2]
  | some q =>
   rw[hq]at c2;have hqt:=AEI (l8 hw) hat hq;have c3:=BO hqt path p a ht hl ha;have hzt:=UA hqt path p a ht ha;have c4:=EU hw hzt;have hv:((some a).bind fun a=>(rwP ws r a).bind fun q=>if(Pn.put path p q).wd ws 8≠0 then some (Pn.put path p q)else none)=if(Pn.put path p q).wd ws 8≠0 then some (Pn.put path p q)else none:=by simp[hq]
   rw[hv];generalize Pn.put path p q=z at *
   rw[aD rfl Tryz.func65 rfl rfl];by_cases hz:z.wd ws 8=0
   ·rw[hz]at c4;simp only[hq,hz,ne_eq,not_true_eq_false,if_false,Option.getD,Option.isSome,Option.bind,AFK,aT,Pn.aA p,Pn.aA a,Pn.aA q,Pn.aA z]at c1 c2 c3 c4 ⊢;simp[c1,c2,c3,c4]
   ·simp only[hq,hz,ne_eq,not_false_eq_true,if_true,Option.getD,Option.isSome,Option.bind,AFK,Pn.aA p,Pn.aA a,Pn.aA q,Pn.aA z]at c1 c2 c3 c4 ⊢;simp[c1,c2,c3,c4,hz]
end Go.Proofs.YtjdfjgmebalaaaaGreat.P
namespace Go.Av
end Go.Av
namespace Go.Proofs.YtjdfjgmebalaaaaGreat.P
open Go Go.Av
set_option maxRecDepth 4000
set_option maxHeartbeats 4000000
end Go.Proofs.YtjdfjgmebalaaaaGreat.P
namespace Go.Av
section
variable {wi:World} {mi:Mem} {nt:Nat}
end
end Go.Av
namespace Go.Proofs.YtjdfjgmebalaaaaGreat.P
open Go Go.Av G
set_option maxRecDepth 4000
set_option maxHeartbeats 8000000
end Go.Proofs.YtjdfjgmebalaaaaGreat.P
namespace Go.Proofs.YtjdfjgmebalaaaaGreat.P
open Go Go.Av
set_option maxRecDepth 4000
set_option maxHeartbeats 4000000
end Go.Proofs.YtjdfjgmebalaaaaGreat.P
namespace Go.Proofs.YtjdfjgmebalaaaaGreat
open Go Go.Av
set_option maxRecDepth 4000
noncomputable def AJK:FuncId→Option (List AV→StL→Option (AV×StL))
 | 1000000007=>none
 | 182=>none
 | 159=>none
 | 104=>some (AS6 (aI C0) 104)
 | 62=>some (AbL (aI C0) 62)
 | g=>some (aI C0 g)
def AJN:FuncId→Bool
 | 104=>true
 | g=>cK g
noncomputable def CP:Ctx:={ P:=Tryz.prog,G:=GS,ownArgs:=AJN,keepRes:=keepR,eqT:=GZ,prim:=AJK }
@[simp] theorem Ah1:CP.P=Tryz.prog:=(rfl)
@[simp] theorem Ah2 (f):CP.G f=GS f:=(rfl)
@[simp] theorem AgY (f):CP.ownArgs f=AJN f:=(rfl)
@[simp] theorem AgZ (f):CP.keepRes f=keepR f:=(rfl)
@[simp] theorem Ah0 (f):CP.eqT f=GZ f:=(rfl)
@[simp] theorem AgX:CP.tree=false:=(rfl)
end Go.Proofs.YtjdfjgmebalaaaaGreat
namespace Go.Av
end Go.Av
namespace Go.Proofs.YtjdfjgmebalaaaaGreat.P
open Go Go.Av
set_option maxRecDepth 4000
set_option maxHeartbeats 4000000
@[simp] theorem lS:∀ l:List Int,jD (aF l)=true
  | []=>by simp[aF,jD]
  | x::l=>by simp[aF,jD,nX,kP,lS l]
noncomputable def ARP:FuncId→Option (List AV→StL→Option (AV×StL))
 | 182=>some (aI CP 182)
 | 167=>some (AL1 C0 true 167)
 | g=>AJK g
noncomputable def CQ:Ctx:={ P:=Tryz.prog,G:=GS,ownArgs:=AJN,keepRes:=keepR,eqT:=GZ,prim:=ARP }
@[simp] theorem AgV:CQ.P=Tryz.prog:=(rfl)
@[simp] theorem AgW (f):CQ.G f=GS f:=(rfl)
@[simp] theorem AgS (f):CQ.ownArgs f=AJN f:=(rfl)
@[simp] theorem AgT (f):CQ.keepRes f=keepR f:=(rfl)
@[simp] theorem AgU (f):CQ.eqT f=GZ f:=(rfl)
@[simp] theorem AgR:CQ.tree=false:=(rfl)
noncomputable def AOH:FuncId→Option (List AV→StL→Option (AV×StL))
 | 1000000007=>none
 | 89=>none
 | 126=>none
 | 159=>none
 | 182=>some (AL1 CQ true 182)
 | 167=>some (AL1 C0 true 167)
 | 104=>some (AS4 (aI C0) 104)
 | g=>AJK g
def AP0 (g:FuncId):Bool:=keepR g || decide (g=159)
noncomputable def CR:Ctx:={ P:=Tryz.prog,G:=GS,ownArgs:=AJN,keepRes:=AP0,eqT:=GZ,prim:=AOH }
@[simp] theorem AgP:CR.P=Tryz.prog:=(rfl)
@[simp] theorem AgQ (f):CR.G f=GS f:=(rfl)
@[simp] theorem AgM (f):CR.ownArgs f=AJN f:=(rfl)
@[simp] theorem AgN (f):CR.keepRes f=(keepR f || decide (f=159)):=(rfl)
@[simp] theorem AgO (f):CR.eqT f=GZ f:=(rfl)
@[simp] theorem AgL:CR.tree=false:=(rfl)
end Go.Proofs.YtjdfjgmebalaaaaGreat.P
namespace Go.Av
def Val.cmp (a b:Val):Int:=if a.null=true then(if b.null=true then 0 else -1)else if b.null=true then 1 else if a.n<b.n then -1 else if b.n<a.n then 1 else 0
def U2:List Val→List Val→Int
 | [],[]=>0
 | [],_::_=>-1
 | _::_,[]=>1
 | a::l,b::m=>if Val.cmp a b=0 then U2 l m else Val.cmp a b
def AJ6 (a b:List Val):Bool:=decide (U2 a b≤0)
def AZ6 (l:List (List Val)) (r:List Val):List (List Val):=l.takeWhile (fun x=>AJ6 x r)++r::l.dropWhile (fun x=>AJ6 x r)
def AR7 (l:List (List Val)):List (List Val):=l.foldl AZ6 []
def ARI (l:List (List Val)):List (List IV):=l.map fun r=>[.isl (rZ r)]
structure Tbl where
 w:Int
 rows:List (List Val)
def Tbl.cells (t:Tbl):List IV:=[.int t.w, .isl (ARI t.rows)]
def tab (w:Int) (rows:List (List Val)):Tbl:=if 400<rows.length then⟨w,[]⟩else⟨w,AR7 rows⟩
def chainB:List (List Val)→Bool
 | a::b::l=>AJ6 a b && chainB (b::l)
 | _=>true
def rowOk (w:Int) (r:List Val):Bool:=decide ((r.length:Int)=w) && r.all Val.ok
def Tbl.ok (t:Tbl):Bool:=bJ t.w && (decide (t.rows.length≤400) && (t.rows.all (rowOk t.w) && chainB t.rows))
def isT (e:Ex) (r:List Val):Bool:=decide ((e.ev r).tr=2)
def AOM (n:Int):List Val:=List.replicate n.toNat ⟨true,0⟩
def AP3 (e:Ex) (rs:List (List Val)) (r:List Val):List (List Val):=(rs.map (r ++ ·)).filter (isT e)
def joinL (e:Ex) (outer:Bool) (w:Int) (rs:List (List Val)) (r:List Val):List (List Val) :=
 if(outer && (AP3 e rs r).isEmpty)=true then [r++AOM w]else AP3 e rs r
def AP2 (e:Ex) (outer:Bool) (a b:Tbl):List (List Val):=a.rows.flatMap (joinL e outer b.w b.rows)
def dd:List Val→List (List Val)→List (List Val)
 | _,[]=>[]
 | p,a::l=>if U2 p a=0 then dd a l else a::dd a l
def APH:List (List Val)→List (List Val)
 | []=>[]
 | a::l=>a::dd a l
def ART (cs:List Int) (r:List Val):List Val:=cs.map fun c=>(r[c.toNat]?).getD Val.zero
def bump (key:List Val):List (List Val×Nat)→List (List Val×Nat)
 | []=>[(key,1)]
 | g::l=>if U2 g.1 key=0 then(g.1,g.2+1)::l else g::bump key l
def groups (cs:List Int) (rows:List (List Val)):List (List Val×Nat):=rows.foldl (fun acc r=>bump (ART cs r) acc) []
def AOL (g:List Val×Nat):List Val:=g.1++[⟨false,(g.2:Int)⟩]
def PG (cs:List Int) (rows:List (List Val)):List (List Val):=(groups cs rows).map AOL
def AIN:Tbl:=⟨0,[]⟩
def exO (es:List Ex):Ex:=(es[0]?).getD (.mk 0 0 Val.zero [])
def evK (db:List Tbl) (k t:Int) (es:List Ex) (cs:List Int) (a b:Tbl):Tbl :=
 if k=1 then tab ((db[t.toNat]?).getD AIN).w ((db[t.toNat]?).getD AIN).rows
 else if k=2 then tab a.w (a.rows.filter (isT (exO es)))
 else if k=3 then tab es.length (a.rows.map fun r=>es.map (Ex.ev r))
 else if k=4∨k=5 then tab (a.w+b.w) (AP2 (exO es) (decide (k=5)) a b)
 else if k=6 then tab a.w (a.rows++b.rows)
 else if k=7 then tab a.w (APH a.rows)
 else tab ((cs.length:Int)+1) (PG cs a.rows)
mutual
def Pn.evP (db:List Tbl):Pn→Tbl
 | .mk k t es cs ks=>evK db k t es cs (((Pn.ASP db ks)[0]?).getD AIN) (((Pn.ASP db ks)[1]?).getD AIN)
def Pn.ASP (db:List Tbl):List Pn→List Tbl
 | []=>[]
 | p::ps=>Pn.evP db p::Pn.ASP db ps
end
section
variable {rows:List (List Val)} {w:Int} (hr:∀ r∈rows,rowOk w r=true) (hw:bJ w=true)
include hr hw
end
def rbK (cnt:List Int) (k t:Int) (cs:List Int) (a b:Int):Int :=
 if k=1 then(cnt[t.toNat]?).getD 0 else min (if k=4 then a*b else if k=5 then a*max 1 b else if k=6 then a+b else if k=8∧cs=[]then min a 1 else a) 1000000000
mutual
def Pn.rb (cnt:List Int):Pn→Int
 | .mk k t es cs ks=>rbK cnt k t cs (((Pn.rbL cnt ks)[0]?).getD 0) (((Pn.rbL cnt ks)[1]?).getD 0)
def Pn.rbL (cnt:List Int):List Pn→List Int
 | []=>[]
 | p::ps=>Pn.rb cnt p::Pn.rbL cnt ps
end
def AUD (db:List Tbl) (k t:Int) (es:List Ex) (cs:List Int) (a b:Tbl):List (List Val) :=
 if k=1 then((db[t.toNat]?).getD AIN).rows
 else if k=2 then a.rows.filter (isT (exO es))
 else if k=3 then a.rows.map fun r=>es.map (Ex.ev r)
 else if k=4∨k=5 then AP2 (exO es) (decide (k=5)) a b
 else if k=6 then a.rows++b.rows
 else if k=7 then APH a.rows
 else PG cs a.rows
def Pn.raw (db:List Tbl) (p:Pn):List (List Val):=AUD db p.kind p.table p.exprs p.cols ((p.kids[0]?.map (Pn.evP db)).getD AIN) ((p.kids[1]?.map (Pn.evP db)).getD AIN)
mutual
def Pn.fit (db:List Tbl):Pn→Bool
 | .mk k t es cs ks=>decide ((Pn.raw db (.mk k t es cs ks)).length≤400) && Pn.ATH db ks
def Pn.ATH (db:List Tbl):List Pn→Bool
 | []=>true
 | p::ps=>Pn.fit db p && Pn.ATH db ps
end
mutual
def Pn.bd (n:Nat):Pn→Nat
 | .mk _ _ es _ ks=>bdK n es (Pn.bdL n ks)
def Pn.bdL (n:Nat):List Pn→List Nat
 | []=>[]
 | p::ps=>Pn.bd n p::Pn.bdL n ps
def bdK (n:Nat) (es:List Ex):List Nat→Nat
 | []=>n
 | [a]=>a
 | a::b::_=>if es=[]then a+b else a*b
end
theorem AL5 (n:Nat) (t:Int):(Pn.scan t).bd n=n:=by simp[Pn.scan,Pn.bd,Pn.bdL,bdK]
theorem ACK (n:Nat) (k t:Int) (es:List Ex) (cs:List Int) (a:Pn):(Pn.mk k t es cs [a]).bd n=a.bd n:=by simp[Pn.bd,Pn.bdL,bdK]
def Th (P:Pn) (j j':Nat) (u u':Int):Prop:=P.thin∧(j'≤j∧u'≤u∧∀ n:Nat,1≤n→P.bd n≤2 ^ (u-u').toNat*n ^ (j-j'+1))∧(P.exprs=[]→P.kids.length=2→P.kind=6)
theorem Th.scan {t:Int} (h:(Pn.scan t).thin) (j:Nat) (u:Int):Th (.scan t) j j u u:=by
 refine⟨h,⟨Nat.le_refl _,Int.le_refl _,fun n _=>?_⟩,by simp[Pn.scan]⟩;rw[AL5];simp
theorem Th.one {k t:Int} {es:List Ex} {cs:List Int} {K:Pn} {j j1:Nat} {u u1:Int} (hth:(Pn.mk k t es cs [K]).thin) (h:Th K j j1 u u1):Th (.mk k t es cs [K]) j j1 u u1:=by
 refine⟨hth,⟨h.2.1.1,h.2.1.2.1,fun n hn=>?_⟩,by simp⟩;rw[ACK];exact h.2.1.2.2 n hn
theorem Th.skip {k t:Int} {es:List Ex} {cs:List Int} {K:Pn} {j j1 j2:Nat} {u u1 u2:Int} (hth:(Pn.mk k t es cs [K]).thin) (h:Th K j j1 u u1) (h2:j2≤j1) (h3:u2≤u1):Th (.mk k t es cs [K]) j j2 u u2:=by
 obtain⟨-,⟨g1,g2,g3⟩,-⟩:=h;refine⟨hth,⟨by omega,by omega,fun n hn=>?_⟩,by simp⟩;rw[ACK];refine yE (g3 n hn) (Nat.mul_le_mul (Nat.pow_le_pow_right (by omega) (by omega)) (Nat.pow_le_pow_right hn (by omega)))
def BdV (P:Pn):Prop:=∀ (ws:List Int) (lv n:Nat),1≤n→P.wd ws lv≠0→P.bd n≤2*n ^ 2
def Rt (P:Pn):Prop:=P.thin∧(∀ n:Nat,1≤n→P.bd n≤2*n ^ 2)∧(P.exprs=[]→P.kids.length=2→P.kind=6)
theorem Rt.one {k t:Int} {es:List Ex} {cs:List Int} {P:Pn} (hth:(Pn.mk k t es cs [P]).thin) (h:Rt P):Rt (.mk k t es cs [P]):=⟨hth,fun n hn=>by rw[ACK];exact h.2.1 n hn,by simp⟩
theorem Rt.all {P:Pn} (h:Rt P):BdV P:=fun ws lv n hn _=>h.2.1 n hn
end Go.Av
namespace Go.Proofs.YtjdfjgmebalaaaaGreat.P
open Go Go.Av
set_option maxRecDepth 4000
set_option maxHeartbeats 8000000
def PSt (l:List UInt8) (ws:List Int) (k:Nat) (j u p:Int):StL:=[some (.box [.own 1 0, .osl 2 1 0 k, .int j, .int u]),Rd l p,some (.arr 1 (aF ws))]
structure PlH (l:List UInt8) (ws:List Int) (k d j c2:Nat) (p u t v W kk p1 u1:Int) (j1:Nat) (K:Pn):Prop where
 hd:d<100
 h1:p1+400+c2<300000000
 hp1:0≤p1
 hu0:0≤u1
 hu1:u1≤1
 hW0:0≤W
 hW6:W≤6
 hKB:Th K j j1 u u1
 ht:aI C0 127 [.own 0 0, .int k] [Rd l p]=some (.int t,[Rd l (p+1)])
 hv:aI C0 127 [.own 0 0, .int 6] [Rd l (p+1)]=some (.int v,[Rd l (p+1+1)])
 v0:¬ v=0
 hkid:aI CP 182 [.own 0 0, .int d] (PSt l ws k j u (p+1+1))=some (.i (.agg K.cells),PSt l ws k j1 u1 p1)
 hW:aI CP 104 [.i (.agg K.cells), .osl 0 1 0 k, .int 8] [some (.arr 1 (aF ws))]=some (.int W,[some (.arr 1 (aF ws))])
 hkk:aI C0 127 [.own 0 0, .int 10] [Rd l p1]=some (.int kk,[Rd l (p1+1)])
def bl (n:Nat):Nat:=if n=0 then 0 else 1
end Go.Proofs.YtjdfjgmebalaaaaGreat.P
namespace Go.Av
def LB (l:List (List Int)):List (List IV):=l.map fun p=>[.isl (aF p)]
@[simp] theorem AJG (l:List (List Int)):(LB l).length=l.length:=by simp[LB]
theorem RA (a b:List (List Int)):LB (a++b)=LB a++LB b:=by simp[LB]
@[simp] theorem AOC (n:Nat) (l:List (List Int)):(LB l).take n=LB (l.take n):=by simp[LB,zC2]
theorem AET (p:List Int):LB [p]=[[.isl (aF p)]]:=rfl
theorem AEU {l:List (List Int)} {i:Nat} {p:List Int} (h:l[i]?=some p):fJ (LB l) i=some [.isl (aF p)]:=by
 rw[gH];simp[LB,h]
theorem sS (path:List Int):∀ (l m:List Pn) (i:Nat),dR path i (l++m)=dR path i l++dR path (i+l.length) m
 | [],m,i=>by simp[dR]
 | a::l,m,i=>by simp only[yL,dR,sS path l m (i+1),yZ,zM];congr 3;omega
theorem OC (path:List Int) {l:List Pn} {i:Nat} {a:Pn} (h:l[i]?=some a):dR path 0 (l.take (i+1))=dR path 0 (l.take i)++mK (path++[(i:Int)]) a:=by
 have hl:(l.take i).length=i:=by have:=(zY.1 h).1;simp;omega
 rw[aJ h,sS,hl];simp[dR]
mutual
theorem JK:∀ (p:Pn) (path:List Int),(mK path p).length=p.size
 | .mk _ _ _ _ ks,path=>by simp only[mK,Pn.size,zM,tO ks path 0];omega
theorem tO:∀ (l:List Pn) (path:List Int) (i:Nat),(dR path i l).length=Pn.aQ l
 | [],_,_=>by simp[dR,Pn.aQ]
 | a::l,path,i=>by simp only[dR,Pn.aQ,zQ,JK a,tO l]
end
end Go.Av
namespace Go.Proofs.YtjdfjgmebalaaaaGreat.P
open Go Go.Av
set_option maxRecDepth 4000
set_option maxHeartbeats 4000000
def ADX (p:Pn) (path:List Int) (L:List (List Int)) (i:Nat):AS :=
 { env:=[(0, .osl 2 1 0 (L++path::dR path 0 (p.kids.take i)).length),(1, .i (.agg [.int p.kind, .int p.table, .isl (Ex.aB p.exprs), .isl (aF p.cols), .isl (Pn.aB p.kids)])),(2, .osl 1 1 0 path.length),(4, .own 3 0),(6, .nils),(7, .int i),(18,jk i (.bool true))],
   st:=[none,some (.arr 1 (aF path)),some (.arr 1 (LB (L++path::dR path 0 (p.kids.take i)))),wJ p] }
theorem TI:∀ (p:Pn) (path:List Int) (L:List (List Int)),p.thin→path.length+p.size<1000000→L.length+p.size<1000000→aI C0 100 [.osl 0 1 0 L.length, .i (.agg p.cells), .osl 1 1 0 path.length] [some (.arr 1 (LB L)),some (.arr 1 (aF path))]=some (.osl 2 1 0 (L++mK path p).length,[none,some (.arr 1 (aF path)),some (.arr 1 (LB (L++mK path p)))]):=by
 intro p
 induction p using Pn.ind with
 | h k t es cs ks ih =>
  intro path L ht hp hL;generalize hpe:Pn.mk k t es cs ks=p at *
  have hks:ks=p.kids:=by rw[← hpe];rfl
  subst hks;have hkt:=((Pn.bI p).1 ht).2.2.2.2;have hsz:=Pn.size_eq p;have hkl:=Pn.bM p.kids;have htp:path.take path.length=path:=zZ (by simp);have htL:L.take L.length=L:=zZ (by simp);have hl1:path.length*8≤140737488355328:=by omega
  have hl2:(L.length+1)*24≤140737488355328:=by omega
  have hl3:(L.length+1)*32≤140737488355328:=by omega
  rw[aD rfl Tryz.func100 rfl rfl,FE];simp only[Pn.aA p];simp[htp,htL,hl1,hl2,hl3];rw[aS (ADX p path L) p.kids.length (by simp[ADX,wJ,dR,RA,AET])]
  ·rw[aG];simp[ADX,wJ]
  ·intro i hi;have h3:=zX hi;have hm:=zV h3;have r2:=Pn.aN h3;have hsn:=OC path h3;have htk:=aJ h3;generalize p.kids[i]=a at h3 hm r2 hsn htk
   have hle:Pn.aQ (p.kids.take i)+a.size≤Pn.aQ p.kids:=by
    have h:=Pn.dK (p.kids.take (i+1)) (p.kids.drop (i+1));rw[yO,htk,Pn.dK]at h;simp only[Pn.aQ]at h;omega
   have hpn:=tO (p.kids.take i) path 0;have w2:IntKind.i64.wrap ((i:Int)+1)=i+1:=wrO;have hk:=ih a hm (path++[(i:Int)]) (L++path::dR path 0 (p.kids.take i)) (hkt a hm) (by simp;omega) (by simp;omega);rw[Pn.aA a]at r2 hk;have hpi:aF (path++[(i:Int)])=aF path++[[.int i]]:=fU path i;have ht1:List.take (path.length+1) (aF path++[[.int (i:Int)]])=aF path++[[.int i]]:=zZ (by simp);have hl4:(path.length+1)*8≤140737488355328:=by omega
   rw[hpi]at hk;generalize mK (path++[(i:Int)]) a=S at hk hsn;simp only[yZ,yL]at hk;simp at hk;simp[ADX,wJ,hi,r2,w2,hk,hsn,aF,htp,hl1,hl4,ht1]
def okA (ws:List Int) (p:Pn) (path:List Int) (r:Int):Bool:=(apS ws r path p).isSome
def IY (ws:List Int) (p:Pn) (path:List Int) (i:Nat):List Stp:=((rules.take i).filter (okA ws p path)).map fun r=>(r,path)
theorem QI {ws path:List Int} {p:Pn} {i:Nat} (h:i<11):IY ws p path (i+1)=IY ws p path i++if okA ws p path ((i:Int)+1)=true then [((i:Int)+1,path)]else []:=by
 have h1:rules[i]?=some ((i:Int)+1):=by
  have:i=0∨i=1∨i=2∨i=3∨i=4∨i=5∨i=6∨i=7∨i=8∨i=9∨i=10:=by omega
  rcases this with rfl|rfl|rfl|rfl|rfl|rfl|rfl|rfl|rfl|rfl|rfl<;>rfl
 unfold IY;rw[aJ h1,List.filter_append,xW];congr 1;simp only[List.filter];split<;>rename_i h2<;>simp[h2]
theorem ML (ws path:List Int) (p:Pn) (i:Nat):(IY ws p path i).length≤11:=by
 unfold IY;rw[zA6];refine yE (List.length_filter_le _ _) ?_;simp[rules];omega
theorem ACN (ws path:List Int) (p:Pn):atS ws p path=IY ws p path 11:=rfl
def SB (r:Int) (path:List Int):StL:=[some (.box [.int r, .osl 4 1 0 path.length]),some (.frz 1 (aF path))]
def OW (P:List (List Int)) (i:Nat):List Int:=(P[i-1]?).getD []
def pM (ws:List Int) (p:Pn) (P:List (List Int)) (i:Nat):List Stp:=(P.take i).flatMap (atS ws p)
theorem QG (ws:List Int) (p:Pn) (P:List (List Int)):pM ws p P 0=[]:=rfl
theorem AGH (ws:List Int) (p:Pn) (P:List (List Int)):pM ws p P P.length=P.flatMap (atS ws p):=by unfold pM;rw[zZ (zN _)]
def SOX (p:Pn) (ws:List Int) (P:List (List Int)) (i:Nat):AS :=
 { env:=[(0, .i (.agg [.int p.kind, .int p.table, .isl (Ex.aB p.exprs), .isl (aF p.cols), .isl (Pn.aB p.kids)])),(1, .i (.isl (aF ws))),(2, .own 0 0),(4, .nils),(5, .osl 1 2 0 (pM ws p P i).length),(6, .osl 2 1 0 P.length),(7, .int i),(8,jk i (.int 12)),(9,if i=0 then .junk else .own 3 0),(11,jk i (.bool (okA ws p (OW P i) 11))),(20,jk i (.bool true)),(24,jk i (.bool false)),(42,jk i (.bool (okA ws p (OW P i) 11)))],
   st:=wJ p::some (.arr 2 (bT (pM ws p P i)))::some (.arr 1 (LB P))::(if i=0 then []else SB 11 (OW P i)) }
def SIX (p:Pn) (ws:List Int) (P:List (List Int)) (path:List Int) (i j:Nat):AS :=
 { env:=[(0, .i (.agg [.int p.kind, .int p.table, .isl (Ex.aB p.exprs), .isl (aF p.cols), .isl (Pn.aB p.kids)])),(1, .i (.isl (aF ws))),(2, .own 0 0),(4, .nils),(5, .osl 1 2 0 (pM ws p P i++IY ws p path j).length),(6, .osl 2 1 0 P.length),(7, .int i),(8, .int ((j:Int)+1)),(9,if i+j=0 then .junk else .own 3 0),(11,if j=0 then jk i (.bool (okA ws p (OW P i) 11))else .bool (okA ws p path j)),(20, .bool true),(24,if j=0 then jk i (.bool false)else .bool true),(42,if j=0 then jk i (.bool (okA ws p (OW P i) 11))else .bool (okA ws p path j))],
   st:=wJ p::some (.arr 2 (bT (pM ws p P i++IY ws p path j)))::some (.arr 1 (LB P))::(if j=0 then(if i=0 then []else SB 11 (OW P i))else SB j path) }
theorem NQ {ws:List Int} (hw:kE ws=true) {p:Pn} (hp:p.wd ws 8≠0):aI C0 64 [.i (.agg p.cells), .i (.isl (aF ws))] []=some (.i (.isl (bT (stS ws p))),[]):=by
 have ht:=dO p 8 hp;have hsz:=(Pn.Z8 p 8 hp).2;have c1:=TI p [] [] ht (by simp;omega) (by simp;omega);have hpl:=JK p []
 have hP:∀ path∈mK [] p,path.length≤8:=by
  intro path hm;obtain⟨r,hr,hs⟩:=(JJ p [] path).1 hm;rw[xS]at hr;subst hr
  cases ha:Pn.at path p with
  | none=>rw[ha]at hs;cases hs
  | some a=>exact(TD path p 8 a hp ha).1
 unfold stS;generalize mK [] p=P at *
 have hlen:∀ l:List (List Int),(l.flatMap (atS ws p)).length≤11*l.length:=by
  intro l
  induction l with
  | nil=>simp
  | cons x l ih=>have:=ML ws x p 11;rw[← ACN]at this;simp only[List.flatMap_cons,zQ,zM];omega
 rw[aD rfl Tryz.func64 rfl rfl];simp only[Pn.aA p]at c1 ⊢;simp[LB,aF]at c1;simp[c1];rw[aS (SOX p ws P) P.length (by simp[SOX,wJ,bT,LB,QG])]
 ·rw[aG];have ht1:(pM ws p P P.length).take (pM ws p P P.length).length=pM ws p P P.length:=zZ (zN _);rw[← AGH ws p P];by_cases h0:P.length=0
  ·simp[SOX,wJ,h0,QG,bT]
  ·simp[SOX,wJ,SB,h0,bY h0,ht1]
 ·intro i hi;have q1:=zX hi;have hm:=zV q1;generalize P[i]=path at q1 hm;have r1:=AEU q1;have htk:=aJ q1;have hp8:=hP path hm;have hac:(pM ws p P i).length≤11*i:=by have:=hlen (P.take i);unfold pM;have:(P.take i).length≤i:=(by simp;omega);omega
  have w2:IntKind.i64.wrap ((i:Int)+1)=i+1:=wrO;have hlast:OW P (i+1)=path:=by simp[OW,q1]
  have hfl:pM ws p P (i+1)=pM ws p P i++IY ws p path 11:=by unfold pM;rw[htk];simp[ACN]
  by_cases h0:i=0
  ·subst h0;have hi0:0<P.length:=hi;simp at w2 hlast hfl;simp[SOX,wJ,SB,hi0];rw[aS (SIX p ws P path 0) 11 (by simp[SIX,wJ,SB,IY])]
   ·rw[aG];simp[SIX,wJ,SB,w2,hlast,hfl]
   ·intro j hj;have hs:=QI (ws:=ws) (path:=path) (p:=p) hj;have hlj:=ML ws path p j;have w3:IntKind.i64.wrap ((j:Int)+1+1)=j+1+1:=wrO;have hj11:(j:Int)+1≤11:=by omega
    have c2:=CV hw hp ((j:Int)+1) (path:=path) (by omega);have htp:path.take path.length=path:=zZ (by simp);have hl1:path.length*8≤140737488355328:=by omega
    rw[Pn.aA p]at c2;have hok:okA ws p path ((j:Int)+1)=(apS ws ((j:Int)+1) path p).isSome:=rfl;rw[← hok]at c2
    cases hb:okA ws p path ((j:Int)+1)with
    | false =>
     rw[hb]at hs c2;simp at hs;by_cases j0:j=0
     ·subst j0;simp at c2 hb hs;simp[SIX,wJ,SB,hi0,r1,hs,hj11,c2,hb,htp,hl1]
     ·simp[SIX,wJ,SB,j0,hi0,r1,w3,hs,hj11,c2,hb,htp,hl1]
    | true =>
     rw[hb]at hs c2;simp at hs;have hl2:((pM ws p P 0).length+(IY ws p path j).length+1)*32≤140737488355328:=by omega
     have ht3:(pM ws p P 0).take ((pM ws p P 0).length+(IY ws p path j).length)=pM ws p P 0:=zZ (by omega);have ht4:(IY ws p path j).take (IY ws p path j).length=IY ws p path j:=zZ (by omega);by_cases j0:j=0
     ·subst j0;simp at c2 hb hs hl2;simp[SIX,wJ,SB,hi0,r1,hs,hj11,c2,hb,htp,hl1,hl2];exact⟨by omega,by rw[zZ (by simp)];simp[bT,EM]⟩
     ·simp[SIX,wJ,SB,j0,hi0,r1,w3,hs,hj11,c2,hb,htp,hl1,hl2];exact⟨by omega,by rw[zZ (by simp)];simp[bT,EM]⟩
  ·simp[SOX,wJ,SB,h0,bY h0,hi];rw[aS (SIX p ws P path i) 11 (by simp[SIX,wJ,SB,h0,bY h0,IY])]
   ·rw[aG];simp[SIX,wJ,SB,h0,bY h0,w2,hlast,hfl]
   ·intro j hj;have hs:=QI (ws:=ws) (path:=path) (p:=p) hj;have hlj:=ML ws path p j;have w3:IntKind.i64.wrap ((j:Int)+1+1)=j+1+1:=wrO;have hj11:(j:Int)+1≤11:=by omega
    have c2:=CV hw hp ((j:Int)+1) (path:=path) (by omega);have htp:path.take path.length=path:=zZ (by simp);have hl1:path.length*8≤140737488355328:=by omega
    rw[Pn.aA p]at c2;have hok:okA ws p path ((j:Int)+1)=(apS ws ((j:Int)+1) path p).isSome:=rfl;rw[← hok]at c2
    cases hb:okA ws p path ((j:Int)+1)with
    | false =>
     rw[hb]at hs c2;simp at hs;by_cases j0:j=0
     ·subst j0;simp at c2 hb hs;simp[SIX,wJ,SB,h0,bY h0,hi,r1,hs,hj11,c2,hb,htp,hl1]
     ·simp[SIX,wJ,SB,h0,bY h0,j0,hi,r1,w3,hs,hj11,c2,hb,htp,hl1]
    | true =>
     rw[hb]at hs c2;simp at hs;have hl2:((pM ws p P i).length+(IY ws p path j).length+1)*32≤140737488355328:=by omega
     have ht3:(pM ws p P i).take ((pM ws p P i).length+(IY ws p path j).length)=pM ws p P i:=zZ (by omega);have ht4:(IY ws p path j).take (IY ws p path j).length=IY ws p path j:=zZ (by omega);by_cases j0:j=0
     ·subst j0;simp at c2 hb hs hl2;simp[SIX,wJ,SB,h0,bY h0,hi,r1,hs,hj11,c2,hb,htp,hl1,hl2];exact⟨by omega,by rw[zZ (by simp)];simp[bT,EM]⟩
     ·simp[SIX,wJ,SB,h0,bY h0,j0,hi,r1,w3,hs,hj11,c2,hb,htp,hl1,hl2];exact⟨by omega,by rw[zZ (by simp)];simp[bT,EM]⟩
end Go.Proofs.YtjdfjgmebalaaaaGreat.P
namespace Go.Av
theorem UD {ws:List Int} (h:kE ws=true):∀ w∈ws,0≤w∧w≤6:=by
 intro w hw;unfold kE at h;simp only[zT]at h;have:=zO.1 h.2 w hw;unfold bJ at this;simp at this;omega
theorem WO {p:Pn} {ws:List Int}:∀ s∈jZ p ws,s.2.length≤8:=by
 intro s hs;unfold jZ at hs;split at hs
 ·simp at hs
 ·rename_i h0;obtain⟨hw,hp,_⟩:=wP h0;rw[J7 (UD hw) hp]at hs
  have:=(AI5 (ws:=ws) (rule:=s.1) (path:=s.2) (p:=p) (q:=((apS ws s.1 s.2 p).getD p)) (by
   have:=AIS.1 hs
   cases h:apS ws s.1 s.2 p with
   | none=>rw[h]at this;cases this
   | some q=>rfl)).2
  cases ha:Pn.at s.2 p with
  | none=>rw[ha]at this;cases this
  | some a=>exact(TD s.2 p 8 a hp ha).1
end Go.Av
namespace Go.Proofs.YtjdfjgmebalaaaaGreat.P
open Go Go.Av
set_option maxRecDepth 4000
set_option maxHeartbeats 8000000
theorem NM (p:Pn) (ws:List Int):(jZ p ws).length<10000:=by
 unfold jZ;split
 ·simp
 ·rename_i h0;have:=(Pn.Z6 h0).2;have:=QY ws p [];omega
set_option maxHeartbeats 4000000
end Go.Proofs.YtjdfjgmebalaaaaGreat.P
namespace Go.Av
def AR4 (st:Store):AV→Option IV
 | .own id 0=>match st id with
  | some (.box cs)=>bnd (Z9 st cs) fun l=>some (.iref l)
  | _=>none
 | v=>AMO st v
def AGQ (st:Store):List AV→Option (List AV)
 | []=>some []
 | c::r=>bnd (AR4 st c) fun v=>bnd (AGQ st r) fun l=>some (.i v::l)
def kvK (stl:StL):AV→Option IV
 | .i (.lit v)=>some (.lit v)
 | .nils=>some (.isl [])
 | .osl id k off len=>match bF stl id with
  | some (.frz k' es)=>tst (decide (k'=k∧off=0∧len≤es.length∧0<len)) (tst (es.all D9) (some (.isl (es.take len))))
  | _=>none
 | _=>none
def ATC (stl:StL):List AV→Option (List IV)
 | []=>some []
 | c::r=>bnd (kvK stl c) fun v=>bnd (ATC stl r) fun l=>some (v::l)
def kvA (stl:StL):AV→Option IV
 | .agg cs=>bnd (ATC stl cs) fun l=>some (.agg l)
 | v=>kvK stl v
def ATD (stl:StL):List AV→Option (List AV)
 | []=>some []
 | c::r=>bnd (kvA stl c) fun v=>bnd (ATD stl r) fun l=>some (.i v::l)
def kvT (stl:StL):AV→Option AV
 | .tup cs=>bnd (ATD stl cs) fun l=>some (.tup l)
 | v=>bnd (kvA stl v) fun l=>some (.i l)
section
variable {w w':World} {m m':Mem} {φ':Pl} {stl:StL}
end
def AS5 (f:List AV→StL→Option (AV×StL)) (args:List AV) (st:StL):Option (AV×StL) :=
 bnd (AGQ (bF st) args) fun us=>match f us []with
  | some (r,stl)=>bnd (kvT stl r) fun v=>some (v,st)
  | none=>none
noncomputable def ASY (C:Ctx) (g:FuncId) (args:List AV) (st:StL):Option (AV×StL) :=
 match C.P.funcs[g]? with
 | none=>none
 | some fn =>
  match fn.body with
  | none=>none
  | some c=>ADE { C with tree:=true } true fn.results.toList st.length (dQ C (C.G g) st.length c (enter (C.G g) args st))
def AQP (r:Int):Bool:=decide (r≠2∧r≠5∧r≠6)
def NS0 (R:Rng) (cs:List AV):StL:=[some (.loop R cs .ready),some (.box [.int 0, .nils]),some (.box [.bool false])]
def NS1 (R:Rng) (cs:List AV) (s:Stp):StL:=some (.loop R cs (.over .ret))::some (.box [.int s.1,if s.2=[]then .nils else .osl 3 1 0 s.2.length])::some (.box [.bool true])::(if s.2=[]then []else [some (.frz 1 (aF s.2))])
end Go.Av
namespace Go.Proofs.YtjdfjgmebalaaaaGreat.P
open Go Go.Av
set_option maxRecDepth 4000
set_option maxHeartbeats 8000000
structure Yn (R:Rng) (cs:List AV):Prop where
 ids:cs=[.own 1 0, .own 2 0, .junk, .junk, .junk]
 n0:∀ r:Int,AQP r=false→aI C0 nI [.fn (.yield 0) [.own 0 0], .agg [.int r, .nils]] (NS0 R cs)=some (.bool true,NS0 R cs)
 n1:∀ (r:Int) (path:List Int),path≠[]→AQP r=false→aI C0 nI [.fn (.yield 0) [.own 0 0], .agg [.int r, .osl 3 1 0 path.length]] (NS0 R cs++[some (.arr 1 (aF path))])=some (.bool true,NS0 R cs++[some (.frz 1 (aF path))])
 y0:∀ r:Int,AQP r=true→aI C0 nI [.fn (.yield 0) [.own 0 0], .agg [.int r, .nils]] (NS0 R cs)=some (.bool false,NS1 R cs (r,[]))
 y1:∀ (r:Int) (path:List Int),path≠[]→AQP r=true→aI C0 nI [.fn (.yield 0) [.own 0 0], .agg [.int r, .osl 3 1 0 path.length]] (NS0 R cs++[some (.arr 1 (aF path))])=some (.bool false,NS1 R cs (r,path))
set_option maxHeartbeats 4000000
def AT9:FuncId→Bool
 | 78=>true
 | g=>AJN g
noncomputable def ARQ:FuncId→Option (List AV→StL→Option (AV×StL))
 | 40=>none
 | 16=>none
 | 42=>none
 | 39=>none
 | 12=>none
 | 41=>none
 | 26=>some APT
 | 78=>some (AS5 (ASY C0 78))
 | 89=>some (aI CR 89)
 | g=>AOH g
noncomputable def CA:Ctx:={ P:=Tryz.prog,G:=GS,ownArgs:=AT9,keepRes:=AP0,eqT:=GZ,prim:=ARQ }
@[simp] theorem Ah7:CA.P=Tryz.prog:=(rfl)
@[simp] theorem Ah8 (f):CA.G f=GS f:=(rfl)
@[simp] theorem Ah4 (f):CA.ownArgs f=AT9 f:=(rfl)
@[simp] theorem Ah5 (f):CA.keepRes f=(keepR f || decide (f=159)):=(rfl)
@[simp] theorem Ah6 (f):CA.eqT f=GZ f:=(rfl)
@[simp] theorem Ah3:CA.tree=false:=(rfl)
end Go.Proofs.YtjdfjgmebalaaaaGreat.P
namespace Go.Av
def jkL (i:Nat) (l:StL):StL:=if i=0 then []else l
@[simp] theorem AZ5 (l:StL):jkL 0 l=[]:=(rfl)
@[simp] theorem AQR (i:Nat) (l:StL):jkL (i+1) l=l:=(rfl)
def jA (i:Nat) (v:AV):AV:=if i=0 then .junk else v
@[simp] theorem AeJ (v:AV):jA 0 v=.junk:=(rfl)
@[simp] theorem AS8 (i:Nat) (v:AV):jA (i+1) v=v:=(rfl)
end Go.Av
namespace Go.Proofs.YtjdfjgmebalaaaaGreat.P
open Go Go.Av
set_option maxRecDepth 4000
set_option maxHeartbeats 1000000
end Go.Proofs.YtjdfjgmebalaaaaGreat.P
namespace Go.Av
mutual
def Pn.ms:Pn→Nat
 | .mk _ _ es cs ks=>1+(Ex.aQ es+(cs.length+Pn.msL ks))
def Pn.msL:List Pn→Nat
 | []=>0
 | p::l=>p.ms+Pn.msL l
end
def Pn.meas (p:Pn):Nat:=Ex.aQ p.exprs+(p.cols.length+Pn.msL p.kids)
theorem Pn.AJQ (p:Pn):p.ms=1+p.meas:=by cases p;simp[Pn.ms,Pn.meas,Pn.exprs,Pn.cols,Pn.kids]
theorem Pn.AHJ (p:Pn):1≤p.ms:=by rw[Pn.AJQ];omega
theorem Pn.rP:∀ (l:List Pn),l.length≤Pn.msL l
 | []=>by simp
 | p::l=>by have:=Pn.rP l;have:=Pn.AHJ p;simp only[zM,Pn.msL];omega
theorem Pn.AAU:∀ {l:List Pn} {p:Pn},p∈l→p.ms≤Pn.msL l
 | a::l,p,h=>by
  simp only[Pn.msL]
  rcases zR.1 h with rfl|h
  ·omega
  ·have:=Pn.AAU h;omega
theorem AAT (l:List Pn) {i:Nat} {a:Pn} (h:l[i]?=some a):Pn.msL (l.take (i+1))=Pn.msL (l.take i)+a.ms:=by
 induction l generalizing i with
 | nil=>simp at h
 | cons b l ih =>
  cases i with
  | zero=>simp at h;subst h;simp[Pn.msL]
  | succ i=>have:=ih (i:=i) (by simpa using h);simp only[yP,Pn.msL]at this ⊢;omega
theorem AF1 (l:List Pn) (i:Nat):Pn.msL (l.take i)≤Pn.msL l:=by
 induction l generalizing i with
 | nil=>simp[Pn.msL]
 | cons b l ih =>
  cases i with
  | zero=>simp[Pn.msL]
  | succ i=>simp only[yP,Pn.msL];have:=ih i;omega
theorem BX:∀ (l:List Pn) (i:Nat),i≤l.length→i≤Pn.msL (l.take i)
 | [],i,h=>by simp at h;subst h;simp
 | a::l,0,_=>by simp
 | a::l,i+1,h=>by
  have:=BX l i (by simpa using h);have:=Pn.AHJ a;simp only[yP,Pn.msL];omega
theorem Pn.WI:∀ (p:Pn),p.meas<100000000→p.thin:=by
 intro p
 induction p using Pn.ind with
 | h k t es cs ks ih =>
  intro h;simp only[Pn.meas,Pn.exprs,Pn.cols,Pn.kids]at h;have h1:=Ex.bM es;have h2:=Pn.rP ks;refine(Pn.bI _).2 ⟨by simp only[Pn.exprs];omega,fun e he=>Ex.fH e (by have:=Ex.gT (show e∈es from he);omega),by simp only[Pn.cols];omega,by simp only[Pn.kids];omega,fun a ha=>ih a ha ?_⟩;have h3:=Pn.AAU (show a∈ks from ha);rw[Pn.AJQ]at h3;omega
theorem OV {left:Int} {a b:Nat} (h:0≤dM left a):dM (dM left a) b=dM left (a+b):=by
 unfold dM at h ⊢;by_cases ha:(a:Int)≤left
 ·rw[if_pos ha]at h ⊢;by_cases hb:(b:Int)≤left-a
  ·rw[if_pos hb,if_pos (by omega)];omega
  ·rw[if_neg hb,if_neg (by omega)]
 ·rw[if_neg ha]at h;omega
theorem FU {left:Int} {a:Nat} (h:dM left a<0) (b:Nat):dM left a=-1∧dM left (a+b)=-1:=by
 unfold dM at h ⊢;by_cases ha:(a:Int)≤left
 ·rw[if_pos ha]at h;omega
 ·rw[if_neg ha,if_neg (by omega)];exact⟨rfl,rfl⟩
theorem UL {left:Int} {a:Nat} (h:0≤left):dM left a≤left:=by
 unfold dM;split<;>omega
end Go.Av
namespace Go.Proofs.YtjdfjgmebalaaaaGreat.P
open Go Go.Av
set_option maxRecDepth 4000
set_option maxHeartbeats 2000000
theorem AE3 (l:List Int) (hl:l.length<9223372036854775808) (left:Int) (h0:0≤left) (h1:left<1000000000):aI C0 49 [.i (.isl (aF l)), .int left] []=some (.int (dM left l.length),[]):=by
 rw[aD rfl Tryz.func49 rfl rfl];have w1:IntKind.i64.wrap (left-l.length)=left-l.length:=wrO;by_cases hc:left-l.length<0
 ·have:¬ ((l.length:Nat):Int)≤left:=by omega
  simp[w1,hc,dM,this]
 ·have:((l.length:Nat):Int)≤left:=by omega
  simp[w1,hc,dM,this]
theorem AN7 {p:Pn} {left:Int} (h1:aI C0 48 [.i (.isl (Ex.aB p.exprs)), .int left] []=some (.int (dM left (Ex.aQ p.exprs)),[]))
 (h2:0≤dM left (Ex.aQ p.exprs)→aI C0 49 [.i (.isl (aF p.cols)), .int (dM left (Ex.aQ p.exprs))] []=some (.int (dM left (Ex.aQ p.exprs+p.cols.length)),[]))
 (h3:0≤dM left (Ex.aQ p.exprs+p.cols.length)→aI C0 50 [.i (.isl (Pn.aB p.kids)), .int (dM left (Ex.aQ p.exprs+p.cols.length))] []=some (.int (dM left (Ex.aQ p.exprs+p.cols.length+Pn.msL p.kids)),[])) :
 aI C0 10 [.i (.agg p.cells), .int left] []=some (.int (dM left p.meas),[]):=by
 rw[aD rfl Tryz.func10 rfl rfl,Pn.aA];have hm:p.meas=Ex.aQ p.exprs+p.cols.length+Pn.msL p.kids:=by unfold Pn.meas;omega
 rw[hm];by_cases c1:dM left (Ex.aQ p.exprs)<0
 ·obtain⟨e1,e2⟩:=FU c1 (p.cols.length+Pn.msL p.kids);rw[← Nat.add_assoc]at e2;simp[h1,c1,e2]
 ·have h2:=h2 (by omega);by_cases c2:dM left (Ex.aQ p.exprs+p.cols.length)<0
  ·obtain⟨e1,e2⟩:=FU c2 (Pn.msL p.kids);simp[h1,c1,h2,c2,e2]
  ·have h3:=h3 (by omega);by_cases c3:dM left (Ex.aQ p.exprs+p.cols.length+Pn.msL p.kids)<0
   ·obtain⟨e1,e2⟩:=FU c3 0;simp[h1,c1,h2,c2,h3,c3,e1]
   ·simp[h1,c1,h2,c2,h3,c3]
def szJ (l:List Pn) (left:Int) (i:Nat):Int:=left-l.length-(Pn.msL (l.take i)-i)
def SZP (l:List Pn) (left:Int) (i:Nat):AS :=
 { env:=[(0, .i (.isl (Pn.aB l))),(1, .int (szJ l left i)),(4, .int 0),(5, .int i),(11, .bool false),(15,jk i (.bool true)),(25,jk i (.bool false))],st:=[] }
theorem ZK {l:List Pn} {left:Int} (h0:0≤left) (h1:left<1000000000) (hl:l.length<9223372036854775808)
 (ih:∀ a∈l,∀ left:Int,0≤left→left<1000000000→aI C0 10 [.i (.agg a.cells), .int left] []=some (.int (dM left (a.meas)),[])) :
 aI C0 50 [.i (.isl (Pn.aB l)), .int left] []=some (.int (dM left (Pn.msL l)),[]):=by
 rw[aD rfl Tryz.func50 rfl rfl];have w1:IntKind.i64.wrap (left-l.length)=left-l.length:=wrO;have hsl:=Pn.rP l;by_cases hc:left-l.length<0
 ·have:¬ ((Pn.msL l:Nat):Int)≤left:=by omega
  simp[w1,hc,dM,this]
 simp[w1,hc]
 have hpre:∀ i,i<l.length→∃ a,l[i]?=some a∧a∈l∧Pn.msL (l.take (i+1))=Pn.msL (l.take i)+(1+a.meas)∧fJ (Pn.aB l) i=some a.cells:=by
  intro i hi;have h3:=zX hi;refine⟨_,h3,zV h3,?_,Pn.aN h3⟩;rw[AAT l h3,Pn.AJQ]
 have hround:∀ i,i<l.length→0≤szJ l left i→∃ a:Pn,fJ (Pn.aB l) i=some a.cells∧aI C0 10 [.i (.agg a.cells), .int (szJ l left i)] []=some (.int (if 0≤szJ l left (i+1)then szJ l left (i+1)else -1),[]):=by
  intro i hi hs;obtain⟨a,h3,hm,hz,hn⟩:=hpre i hi;have hti:=BX l i (by omega);refine⟨a,hn,?_⟩;rw[ih a hm _ hs (by unfold szJ;omega)];congr 2;unfold dM;congr 1;by_cases hle:((a.meas:Nat):Int)≤szJ l left i
  ·rw[if_pos hle,if_pos (by unfold szJ at hle ⊢;omega)];unfold szJ;omega
  ·rw[if_neg hle,if_neg (by unfold szJ at hle ⊢;omega)]
 rcases GN (fun i=>0≤szJ l left (i+1)) l.length with hall|⟨j,hj,hlt,hbad⟩
 ·rw[aS (SZP l left) l.length (by simp[SZP,szJ,Pn.msL])]
  ·rw[aG]
   have hfin:dM left (Pn.msL l)=szJ l left l.length:=by
    have hT:l.take l.length=l:=zZ (by simp)
    have hge:0≤szJ l left l.length:=by
     cases hn:l.length with
     | zero=>unfold szJ;rw[hn];simp[Pn.msL];omega
     | succ n=>exact hn ▸ hall n (by omega)
    unfold dM;unfold szJ at hge ⊢;rw[hT]at hge ⊢;rw[if_pos (by omega)];omega
   rw[hfin];simp[SZP]
  ·intro i hi
   have hs:0≤szJ l left i:=by
    cases i with
    | zero=>unfold szJ;simp[Pn.msL];omega
    | succ i=>exact hall i (by omega)
   obtain⟨a,hn,hc⟩:=hround i hi hs;have hs1:=hall i hi;have hs1:0≤szJ l left (i+1):=hs1;rw[if_pos hs1]at hc;have w2:IntKind.i64.wrap ((i:Int)+1)=i+1:=wrO;rw[Pn.aA]at hn hc;simp[SZP,hi,hn,hc,w2,show ¬ szJ l left (i+1)<0 by omega]
 ·have hsl2:dM left (Pn.msL l)=-1:=by
   have hm:=AF1 l (j+1);have hbad:¬ 0≤szJ l left (j+1):=hbad;obtain⟨a,h3,_,_,_⟩:=hpre j hj
   have hrest:Pn.msL (l.take (j+1))+(l.length-(j+1))≤Pn.msL l:=by
    have e1:Pn.msL l=Pn.msL (l.take (j+1))+Pn.msL (l.drop (j+1)):=by
     have key:∀ (n:Nat) (l:List Pn),Pn.msL l=Pn.msL (l.take n)+Pn.msL (l.drop n):=by
      intro n
      induction n with
      | zero=>intro l;simp[Pn.msL]
      | succ n ih=>intro l;cases l with
       | nil=>simp[Pn.msL]
       | cons b l=>simp only[yP,zB2,Pn.msL];have:=ih l;omega
     exact key _ _
    have e2:=Pn.rP (l.drop (j+1));simp at e2;omega
   unfold dM;unfold szJ at hbad;rw[if_neg (by omega)]
  rw[hsl2,aS (SZP l left) j (by simp[SZP,szJ,Pn.msL])]
  ·rw[aG]
   have hs:0≤szJ l left j:=by
    cases j with
    | zero=>unfold szJ;simp[Pn.msL];omega
    | succ j=>exact hlt j (by omega)
   obtain⟨a,hn,hc⟩:=hround j hj hs;have hbad:¬ 0≤szJ l left (j+1):=hbad;rw[if_neg hbad]at hc;rw[Pn.aA]at hn hc;simp[SZP,hj,hn,hc]
  ·intro i hi
   have hs:0≤szJ l left i:=by
    cases i with
    | zero=>unfold szJ;simp[Pn.msL];omega
    | succ i=>exact hlt i (by omega)
   obtain⟨a,hn,hc⟩:=hround i (by omega) hs;have hs1:0≤szJ l left (i+1):=hlt i hi;rw[if_pos hs1]at hc;have w2:IntKind.i64.wrap ((i:Int)+1)=i+1:=wrO;rw[Pn.aA]at hn hc;simp[SZP,show i<l.length by omega,hn,hc,w2,show ¬ szJ l left (i+1)<0 by omega]
theorem ZJ:∀ (p:Pn),p.fat→∀ left:Int,0≤left→left<1000000000→aI C0 10 [.i (.agg p.cells), .int left] []=some (.int (dM left p.meas),[]):=by
 intro p
 induction p using Pn.ind with
 | h k t es cs ks ih =>
  intro hf left h0 h1;obtain⟨f1,f2,f3,f4,f5⟩:=(Pn.uE _).1 hf;refine AN7 (AN6 _ f1 f2 left h0 h1) (fun h=>?_) fun h=>?_
  ·rw[AE3 _ f3 _ h (by have:=UL (a:=Ex.aQ es) h0;simp only[Pn.exprs];omega),OV h]
  ·rw[ZK h (by have:=UL (a:=Ex.aQ es+cs.length) h0;simp only[Pn.exprs,Pn.cols];omega) f4 fun a ha left h0 h1=>ih a ha (f5 a ha) left h0 h1,OV h]
end Go.Proofs.YtjdfjgmebalaaaaGreat.P
namespace Go.Av
theorem ACT {w:World} {a:Addr} {v:Value} (h:w.cell? (a.add 0)=some v):∃ b off,a=⟨b,off,none⟩:=by
 obtain⟨b,off,spot⟩:=a;simp only[Addr.add,if_true,World.cell?]at h
 cases spot with
 | none=>exact⟨b,off,rfl⟩
 | some s=>split at h<;>simp at h
theorem AN5 {cs:List Value} (h:cs.length=5):∃ c0 c1 c2 c3 c4,cs=[c0,c1,c2,c3,c4]:=by
 match cs,h with
 | [c0,c1,c2,c3,c4],_=>exact⟨c0,c1,c2,c3,c4,rfl⟩
end Go.Av
namespace Go.Proofs.YtjdfjgmebalaaaaGreat.P
open Go Go.Av
set_option maxRecDepth 4000
variable {H:Type} {enc:TypeId×Value→H} {w:World} {sp:Nat→Bool}
theorem ce3:Tryz.prog.cellsOf 3=1:=by kernel_rfl
theorem ce4:Tryz.prog.cellsOf 4=1:=by kernel_rfl
theorem ATX:Tryz.prog.cellsOf 109=2:=by kernel_rfl
theorem ATW:Tryz.prog.cellsOf 22=1:=by kernel_rfl
theorem ASX:Tryz.prog.cellsOf 111=5:=by kernel_rfl
theorem AP7 {fuel:Nat} {cs:List Value} {r:DataW H×List MemPlace} (h:DataW.trod enc Tryz.prog w 0 sp true fuel 109 cs=some r):∃ v:Val,cs=[.bool v.null, .int .i64 v.n]:=by
 obtain⟨xs,n,rfl,_,hl,hx,hf⟩:=DataW.trod_struct Tryz.underlying109 h;rw[ATX]at hl;have h0:DataW.trod enc Tryz.prog w 0 sp true n 4 ((cs.drop 0).take (Tryz.prog.cellsOf 4))=xs[0]?:=hf 0 _ rfl;have h1:DataW.trod enc Tryz.prog w 0 sp true n 3 ((cs.drop 1).take (Tryz.prog.cellsOf 3))=xs[1]?:=hf 1 _ rfl;rw[ce4]at h0;rw[ce3]at h1;have hx:xs.length=2:=hx;rw[zX (by omega)]at h0 h1;obtain⟨b,hb,_⟩:=DataW.trod_bool Tryz.underlying4 h0;obtain⟨k,hk,_⟩:=DataW.trod_int Tryz.underlying3 h1
 match cs,hl with
 | [c0,c1],_ =>
  simp at hb hk;exact⟨⟨b,k⟩,by rw[hb,hk]⟩
theorem UQ {b:Nat} {P:List Value→List IV→Prop} {k:Nat} (hk:∀ cs l,P cs l→l.length=k∧ICells (gU w) l cs):∀ (n off:Nat),(∀ i,i<n→∃ cs l,P cs l∧∀ j v,cs[j]?=some v→w.cell? ⟨b,off+k*i+j,none⟩=some v) →
 ∃ es:List (List IV),es.length=n∧IElems (gU w) b off k es∧∀ e∈es,∃ cs,P cs e
 | 0,off,_=>⟨[],rfl, .nil _ _ _,by simp⟩
 | n+1,off,h=>by
  obtain⟨cs,l,h1,h2⟩:=h 0 (by omega);obtain⟨k1,k2⟩:=hk cs l h1
  obtain⟨es,e1,e2,e3⟩:=UQ hk n (off+k) (fun i hi=>by
   obtain⟨cs,l,h3,h4⟩:=h (i+1) (by omega)
   exact⟨cs,l,h3,fun j v hj=>by rw[← h4 j v hj];congr 2;rw[zI];omega⟩)
  refine⟨l::es,by simp[e1], .cons (IAt.mk off k2 fun j v hj=>?_) k1 e2,?_⟩
  ·have:=h2 j v hj;show w.cell? ⟨b,off+j,none⟩=some v;simpa using this
  ·intro e he
   rcases zR.1 he with rfl|he
   ·exact⟨cs,h1⟩
   ·exact e3 e he
theorem E5 {fuel:Nat} {t e:TypeId} {c:Value} {r:DataW H×List MemPlace} {k:Nat} {P:List Value→List IV→Prop} (ht:Tryz.prog.underlying t=some (.slice e)) (hce:Tryz.prog.cellsOf e=k) (hk0:0<k) (hk:∀ cs l,P cs l→l.length=k∧ICells (gU w) l cs)
 (ih:∀ n,n<fuel→∀ cs x,DataW.trod enc Tryz.prog w 0 sp true n e cs=some x→∃ l,P cs l) (h:DataW.trod enc Tryz.prog w 0 sp true fuel t [c]=some r) :
 ∃ es:List (List IV),IRep (gU w) (.isl es) c∧es.length<9223372036854775808∧∀ x∈es,∃ cs,P cs x:=by
 rcases DataW.trod_slice ht h with ⟨h1,_⟩|⟨a,len,cap,elems,rest,n,rfl,h1,_,_,hlc,hcm,hel,hat,_,_⟩
 ·injection h1 with h1;subst h1;exact⟨[], .isl0 _ _ fun _=>rfl,by simp,by simp⟩
 ·injection h1 with h1;subst h1;by_cases h0:len=0
  ·subst h0;exact⟨[], .isl0 _ _ (by simp),by simp,by simp⟩
  ·rw[hce]at hat
   have get:∀ i,i<len→∃ cs l,P cs l∧cs.length=k∧∀ j,j<k→w.cell? ((a.add (i*k)).add j)=cs[j]?:=by
    intro i hi;have h2:=hat i hi;rw[zX (by omega)]at h2;obtain⟨cs,h3,h4⟩:=Option.bind_eq_some_iff.1 h2;obtain⟨_,h5,h6⟩:=World.cells?_some h3;obtain⟨l,h7⟩:=ih n (by omega) cs _ h4;exact⟨cs,l,h7,h5,h6⟩
   obtain⟨b,off,rfl⟩:∃ b off,a=⟨b,off,none⟩:=by
    obtain⟨cs,l,_,h5,h6⟩:=get 0 (by omega);have h7:=h6 0 hk0;rw[zX (by omega)]at h7;refine ACT (v:=cs[0]'(by omega)) (w:=w) ?_;rw[← h7,Nat.zero_mul];congr 1
   obtain⟨es,e1,e2,e3⟩:=UQ (b:=b) hk len off (fun i hi=>by
    obtain⟨cs,l,h4,h5,h6⟩:=get i hi;refine⟨cs,l,h4,fun j v hj=>?_⟩;have hjl:=(zY.1 hj).1;have:=h6 j (by omega);rw[hj,Addr.dD,Addr.dD]at this
    rw[← this,zB k i])
   refine⟨es,?_,by rw[e1];unfold maxLen at hcm;omega,e3⟩;have hne:es≠[]:=fun h=>by rw[h]at e1;simp at e1;omega
   have:=IRep.isl (m:=gU w) (cap:=cap) hne e2 (by omega)
   rwa [e1]at this
theorem AP8:∀ (fuel:Nat) (cs:List Value) (r:DataW H×List MemPlace),DataW.trod enc Tryz.prog w 0 sp true fuel 111 cs=some r→∃ e:Ex,e.fat∧ICells (gU w) e.cells cs:=by
 intro fuel
 induction fuel using Nat.strongRecOn with
 | _ fuel ih =>
  intro cs r h;obtain⟨xs,n,rfl,_,hl,hx,hf⟩:=DataW.trod_struct Tryz.underlying111 h;rw[ASX]at hl;have h0:DataW.trod enc Tryz.prog w 0 sp true n 3 ((cs.drop 0).take (Tryz.prog.cellsOf 3))=xs[0]?:=hf 0 _ rfl;have h1:DataW.trod enc Tryz.prog w 0 sp true n 3 ((cs.drop 1).take (Tryz.prog.cellsOf 3))=xs[1]?:=hf 1 _ rfl;have h2:DataW.trod enc Tryz.prog w 0 sp true n 109 ((cs.drop 2).take (Tryz.prog.cellsOf 109))=xs[2]?:=hf 2 _ rfl;have h3:DataW.trod enc Tryz.prog w 0 sp true n 22 ((cs.drop 4).take (Tryz.prog.cellsOf 22))=xs[3]?:=hf 3 _ rfl;rw[ce3]at h0 h1;rw[ATX]at h2;rw[ATW]at h3;have hx:xs.length=4:=hx;rw[zX (by omega)]at h0 h1 h2 h3;obtain⟨c0,c1,c2,c3,c4,rfl⟩:=AN5 hl;obtain⟨k0,hk0,_⟩:=DataW.trod_int Tryz.underlying3 h0;obtain⟨k1,hk1,_⟩:=DataW.trod_int Tryz.underlying3 h1;obtain⟨v,hv⟩:=AP7 h2;simp at hk0 hk1 hv;obtain⟨rfl,rfl⟩:=hv;subst hk0;subst hk1;simp at h3
  obtain⟨es,e1,e2,e3⟩:=E5 (P:=fun cs l=>∃ e:Ex,e.fat∧l=e.cells∧ICells (gU w) l cs) Tryz.underlying22 ASX (by omega) (fun cs l ⟨e,_,h5,h6⟩=>⟨by rw[h5,Ex.aA];rfl,h6⟩)
   (fun m hm cs x hx=>by
    obtain⟨e,h5,h6⟩:=ih m (by omega) cs x hx
    exact⟨e.cells,e,h5,rfl,h6⟩) h3
  have hl:∃ l:List Ex,Ex.aB l=es∧∀ a∈l,a.fat:=by
   have key:∀ es:List (List IV),(∀ x∈es,∃ cs,∃ e:Ex,e.fat∧x=e.cells∧ICells (gU w) x cs)→∃ l:List Ex,Ex.aB l=es∧∀ a∈l,a.fat:=by
    intro es
    induction es with
    | nil=>intro _;exact⟨[],rfl,by simp⟩
    | cons x es ihe =>
     intro h;obtain⟨_,e,h5,h6,_⟩:=h x (by simp);obtain⟨l,h7,h8⟩:=ihe fun y hy=>h y (by simp[hy])
     exact⟨e::l,by simp[Ex.aB,h6,h7],fun a ha=>by
      rcases zR.1 ha with rfl|ha
      ·exact h5
      ·exact h8 a ha⟩
   exact key es e3
  obtain⟨l,rfl,hfat⟩:=hl;refine⟨.mk k0 k1 v l,(Ex.uE _).2 ⟨by simpa [Ex.kids]using e2,hfat⟩,?_⟩;rw[show(Ex.mk k0 k1 v l).cells=[.int k0, .int k1, .bool v.null, .int v.n, .isl (Ex.aB l)]by simp[Ex.cells]];exact .cons (.lit _) rfl (.cons (.lit _) rfl (.cons (.lit _) rfl (.cons (.lit _) rfl (.cons e1 (AC e1) .nil))))
theorem ceI:Tryz.prog.cellsOf 3=1:=by kernel_rfl
theorem Ac1:Tryz.prog.cellsOf 24=1:=by kernel_rfl
theorem Ac2:Tryz.prog.cellsOf 23=1:=by kernel_rfl
theorem ceP:Tryz.prog.cellsOf 26=5:=by kernel_rfl
theorem ABG {fuel:Nat} {c:Value} {r:DataW H×List MemPlace} (h:DataW.trod enc Tryz.prog w 0 sp true fuel 23 [c]=some r):∃ l:List Int,l.length<9223372036854775808∧IRep (gU w) (.isl (aF l)) c:=by
 obtain⟨es,e1,e2,e3⟩:=E5 (P:=fun cs l=>∃ n:Int,l=[.int n]∧cs=[.int .i64 n]) Tryz.underlying23 ceI (by omega) (fun cs l ⟨v,h5,h6⟩=>⟨by rw[h5];rfl,by rw[h5,h6];exact .cons (.lit _) rfl .nil⟩)
  (fun m hm cs x hx=>by
   obtain⟨k,hk,_⟩:=DataW.trod_int Tryz.underlying3 hx
   exact⟨[.int k],k,rfl,hk⟩) h
 have key:∀ es:List (List IV),(∀ x∈es,∃ cs:List Value,∃ n:Int,x=[.int n]∧cs=[.int .i64 n])→∃ l:List Int,aF l=es:=by
  intro es
  induction es with
  | nil=>intro _;exact⟨[],rfl⟩
  | cons x es ihe =>
   intro h;obtain⟨_,v,h5,_⟩:=h x (by simp);obtain⟨l,h7⟩:=ihe fun y hy=>h y (by simp[hy])
   exact⟨v::l,by simp[aF,h5,h7]⟩
 obtain⟨l,rfl⟩:=key es e3;exact⟨l,by simpa using e2,e1⟩
theorem AKJ {fuel:Nat} {c:Value} {r:DataW H×List MemPlace} (h:DataW.trod enc Tryz.prog w 0 sp true fuel 22 [c]=some r):∃ l:List Ex,l.length<9223372036854775808∧(∀ a∈l,a.fat)∧IRep (gU w) (.isl (Ex.aB l)) c:=by
 obtain⟨es,e1,e2,e3⟩:=E5 (P:=fun cs l=>∃ e:Ex,e.fat∧l=e.cells∧ICells (gU w) l cs) Tryz.underlying22 ASX (by omega) (fun cs l ⟨e,_,h5,h6⟩=>⟨by rw[h5,Ex.aA];rfl,h6⟩)
  (fun m hm cs x hx=>by
   obtain⟨e,h5,h6⟩:=AP8 m cs x hx
   exact⟨e.cells,e,h5,rfl,h6⟩) h
 have key:∀ es:List (List IV),(∀ x∈es,∃ cs,∃ e:Ex,e.fat∧x=e.cells∧ICells (gU w) x cs)→∃ l:List Ex,Ex.aB l=es∧∀ a∈l,a.fat:=by
  intro es
  induction es with
  | nil=>intro _;exact⟨[],rfl,by simp⟩
  | cons x es ihe =>
   intro h;obtain⟨_,e,h5,h6,_⟩:=h x (by simp);obtain⟨l,h7,h8⟩:=ihe fun y hy=>h y (by simp[hy])
   exact⟨e::l,by simp[Ex.aB,h6,h7],fun a ha=>by
    rcases zR.1 ha with rfl|ha
    ·exact h5
    ·exact h8 a ha⟩
 obtain⟨l,rfl,hfat⟩:=key es e3;exact⟨l,by simpa using e2,hfat,e1⟩
theorem AKI:∀ (fuel:Nat) (cs:List Value) (r:DataW H×List MemPlace),DataW.trod enc Tryz.prog w 0 sp true fuel 26 cs=some r→∃ p:Pn,p.fat∧ICells (gU w) p.cells cs:=by
 intro fuel
 induction fuel using Nat.strongRecOn with
 | _ fuel ih =>
  intro cs r h;obtain⟨xs,n,rfl,_,hl,hx,hf⟩:=DataW.trod_struct Tryz.underlying26 h;rw[ceP]at hl;have h0:DataW.trod enc Tryz.prog w 0 sp true n 3 ((cs.drop 0).take (Tryz.prog.cellsOf 3))=xs[0]?:=hf 0 _ rfl;have h1:DataW.trod enc Tryz.prog w 0 sp true n 3 ((cs.drop 1).take (Tryz.prog.cellsOf 3))=xs[1]?:=hf 1 _ rfl;have h2:DataW.trod enc Tryz.prog w 0 sp true n 22 ((cs.drop 2).take (Tryz.prog.cellsOf 22))=xs[2]?:=hf 2 _ rfl;have h3:DataW.trod enc Tryz.prog w 0 sp true n 23 ((cs.drop 3).take (Tryz.prog.cellsOf 23))=xs[3]?:=hf 3 _ rfl;have h4:DataW.trod enc Tryz.prog w 0 sp true n 24 ((cs.drop 4).take (Tryz.prog.cellsOf 24))=xs[4]?:=hf 4 _ rfl;rw[ceI]at h0 h1;rw[ATW]at h2;rw[Ac2]at h3;rw[Ac1]at h4;have hx:xs.length=5:=hx;rw[zX (by omega)]at h0 h1 h2 h3 h4;obtain⟨c0,c1,c2,c3,c4,rfl⟩:=AN5 hl;obtain⟨k0,hk0,_⟩:=DataW.trod_int Tryz.underlying3 h0;obtain⟨k1,hk1,_⟩:=DataW.trod_int Tryz.underlying3 h1;simp at hk0 hk1;subst hk0;subst hk1;simp at h2 h3 h4;obtain⟨es,le,fe,re⟩:=AKJ h2;obtain⟨is,li,ri⟩:=ABG h3
  obtain⟨ps,e1,e2,e3⟩:=E5 (P:=fun cs l=>∃ e:Pn,e.fat∧l=e.cells∧ICells (gU w) l cs) Tryz.underlying24 ceP (by omega) (fun cs l ⟨e,_,h5,h6⟩=>⟨by rw[h5,Pn.aA];rfl,h6⟩)
   (fun m hm cs x hx=>by
    obtain⟨e,h5,h6⟩:=ih m (by omega) cs x hx
    exact⟨e.cells,e,h5,rfl,h6⟩) h4
  have key:∀ es:List (List IV),(∀ x∈es,∃ cs,∃ e:Pn,e.fat∧x=e.cells∧ICells (gU w) x cs)→∃ l:List Pn,Pn.aB l=es∧∀ a∈l,a.fat:=by
   intro es
   induction es with
   | nil=>intro _;exact⟨[],rfl,by simp⟩
   | cons x es ihe =>
    intro h;obtain⟨_,e,h5,h6,_⟩:=h x (by simp);obtain⟨l,h7,h8⟩:=ihe fun y hy=>h y (by simp[hy])
    exact⟨e::l,by simp[Pn.aB,h6,h7],fun a ha=>by
     rcases zR.1 ha with rfl|ha
     ·exact h5
     ·exact h8 a ha⟩
  obtain⟨l,rfl,hfat⟩:=key ps e3;refine⟨.mk k0 k1 es is l,(Pn.uE _).2 ⟨le,fe,li,by simpa using e2,hfat⟩,?_⟩;rw[Pn.dY];exact .cons (.lit _) rfl (.cons (.lit _) rfl (.cons re (AC re) (.cons ri (AC ri) (.cons e1 (AC e1) .nil))))
end Go.Proofs.YtjdfjgmebalaaaaGreat.P
namespace Go.Av
end Go.Av
namespace Go.Proofs.YtjdfjgmebalaaaaGreat.P
open Go Go.Av
set_option maxRecDepth 4000
set_option maxHeartbeats 1000000
theorem SI (s:Stp) (hl:s.2.length<9223372036854775808):aI C0 36 [.i (.agg [.int s.1, .isl (aF s.2)]), .i (.agg [.int s.1, .isl (aF s.2)])] []=some (.bool true,[]):=by
 have h:=uF s.2 hl;rw[aD rfl Tryz.func36 rfl rfl];simp[h]
def ETS (l:List Stp) (i:Nat):AS :=
 { env:=[(0, .i (.isl (bT l))),(1, .i (.isl (bT l))),(4, .bool false),(5, .int i),(10, .bool false),(14,jk i (.bool true)),(26,jk i (.bool false))],st:=[] }
theorem CG (l:List Stp) (hl:l.length<9223372036854775808) (hs:∀ s∈l,s.2.length<9223372036854775808):aI C0 19 [.i (.isl (bT l)), .i (.isl (bT l))] []=some (.bool true,[]):=by
 rw[aD rfl Tryz.func19 rfl rfl];have hlen:(bT l).length=l.length:=by simp[bT]
 simp[hlen];rw[aS (ETS l) l.length (by simp[ETS])]
 ·rw[aG];simp[ETS,hlen]
 ·intro i hi;have h3:=zX hi;have hm:=zV h3;have r2:=NJ h3;generalize l[i]=a at h3 r2 hm;have hc:=SI a (hs a hm);have w2:IntKind.i64.wrap ((i:Int)+1)=i+1:=wrO;simp only[EM]at r2;simp[ETS,hlen,hi,r2,hc,w2]
end Go.Proofs.YtjdfjgmebalaaaaGreat.P
namespace Go.Av
open Go.Av.Mk
theorem AE9 (a b:Stp) (h:EM a=EM b):a=b:=by
 obtain⟨r,p⟩:=a;obtain⟨r',p'⟩:=b;simp only[EM,List.cons.injEq,IV.isl.injEq,and_true]at h;obtain⟨h1,h2⟩:=h;have h1:r=r':=by injection h1 with h1;injection h1
 rw[h1,vW h2]
theorem NV {B:Nat}:∀ (l:List Stp),(∀ s∈l,s.2.length≤B)→bL o8 l≤(1+B)*l.length
 | [],_=>by simp[bL]
 | s::l,h=>by
  have h1:=NV l fun x hx=>h x (by simp[hx])
  have h2:=h s (by simp);simp only[bL,o8,zM,zI,zA7];omega
mutual
theorem Pn.AS3:∀ p:Pn,p.mz≤4*p.ms
 | .mk k t es cs ks=>by have:=Pn.AAS ks;simp only[Pn.mz,Pn.ms];omega
theorem Pn.AAS:∀ l:List Pn,Pn.mzL l≤4*Pn.msL l
 | []=>by simp[Pn.mzL]
 | p::l=>by have:=Pn.AS3 p;have:=Pn.AAS l;simp only[Pn.mzL,Pn.msL];omega
end
def Pn.mk4 (p:Pn):Nat:=4*Ex.aQ p.exprs+(p.cols.length+Pn.mzL p.kids)
theorem Pn.AON (p:Pn):p.mk4≤4*p.meas:=by
 have:=Pn.AAS p.kids;unfold Pn.mk4 Pn.meas;omega
end Go.Av
namespace Go.Proofs.YtjdfjgmebalaaaaGreat.P
open Go Go.Av Go.Av.Mk
set_option maxRecDepth 4000
set_option maxHeartbeats 4000000
attribute [local simp] IQ give sN uW uV EI mfA mfR AOO AOP mfC AM0 mfB.eq_1 mfB.eq_2 mfB.eq_7 mV vT
noncomputable def AJH:FuncId→Option (List AV→StL→Option (AV×StL))
 | 5=>none
 | 29=>none
 | 30=>none
 | 73=>some (sF Pn.cells Pn.tZ Pn.mz 5)
 | 72=>some (sF Ex.cells Ex.sG exZ 5)
 | 31=>some (sF EM IC o8 2)
 | 13=>some (IQ (aI CT) 13)
 | 14=>some (IQ (aI CT) 14)
 | 28=>some (IQ (aI CW) 28)
 | 27=>some (give (aI C0) 27)
 | g=>if g=nI then none else some (IQ (aI C0) g)
noncomputable def CY:Ctx:={ P:=Tryz.prog,G:=GS,ownArgs:=fun _=>true,keepRes:=fun _=>false,eqT:=GZ,prim:=AJH,tree:=true }
@[simp] theorem Ag7:CY.P=Tryz.prog:=(rfl)
@[simp] theorem Ag8 (f):CY.G f=GS f:=(rfl)
@[simp] theorem Ag4 (f):CY.ownArgs f=true:=(rfl)
@[simp] theorem Ag5 (f):CY.keepRes f=false:=(rfl)
@[simp] theorem Ag6 (f):CY.eqT f=GZ f:=(rfl)
@[simp] theorem Ag3:CY.tree=true:=(rfl)
theorem AOE:PrimOk CY:=by
 have h0:=bP eO;have hT:=bP ANQ;have hW:=bP ANP
 have key:∀ g q,CY.prim g=some q→(g=73∧q=sF Pn.cells Pn.tZ Pn.mz 5)∨(g=72∧q=sF Ex.cells Ex.sG exZ 5)∨(g=31∧q=sF EM IC o8 2)∨(g=13∧q=IQ (aI CT) g)∨(g=14∧q=IQ (aI CT) g)∨(g=28∧q=IQ (aI CW) g)∨(g=27∧q=give (aI C0) g)∨(g≠nI∧q=IQ (aI C0) g):=by
  intro g q h;have h:AJH g=some q:=h;unfold AJH at h;split at h
  all_goals first
   | (cases h;done)
   | (injection h with h;subst h;simp;done)
   | (split at h
      ·cases h
      ·rename_i hy;injection h with h;subst h;exact .inr (.inr (.inr (.inr (.inr (.inr (.inr ⟨hy,rfl⟩)))))))
 constructor
 ·intro g args st p h;unfold fB at h
  cases hq:CY.prim g with
  | none=>rw[hq]at h;cases h
  | some q =>
   rw[hq]at h
   rcases key g q hq with ⟨rfl,rfl⟩|⟨rfl,rfl⟩|⟨rfl,rfl⟩|⟨rfl,rfl⟩|⟨rfl,rfl⟩|⟨rfl,rfl⟩|⟨rfl,rfl⟩|⟨hy,rfl⟩
   ·exact⟨Tryz.f73,Tryz.func73,by decide,rfl⟩
   ·exact⟨Tryz.f72,Tryz.func72,by decide,rfl⟩
   ·exact⟨Tryz.f31,Tryz.func31,by decide,rfl⟩
   ·exact(iI hT (r:=p.1) (stl':=p.2) h).1
   ·exact(iI hT (r:=p.1) (stl':=p.2) h).1
   ·exact(iI hW (r:=p.1) (stl':=p.2) h).1
   ·exact(JZ h0 (r:=p.1) (stl':=p.2) h).1
   ·exact(iI h0 (r:=p.1) (stl':=p.2) h hy).1
 ·intro g args st r st' h w m φ vs hi hr hb;unfold fB at h
  cases hq:CY.prim g with
  | none=>rw[hq]at h;cases h
  | some q =>
   rw[hq]at h
   rcases key g q hq with ⟨rfl,rfl⟩|⟨rfl,rfl⟩|⟨rfl,rfl⟩|⟨rfl,rfl⟩|⟨rfl,rfl⟩|⟨rfl,rfl⟩|⟨rfl,rfl⟩|⟨hy,rfl⟩
   ·exact wY (C:=C0) AOI (fun e=>by rw[Pn.aA];rfl) Pn.AQ h w m φ vs hi hr hb
   ·exact wY (C:=C0) AHT (fun e=>by rw[Ex.aA];rfl) Ex.AQ h w m φ vs hi hr hb
   ·exact wY (C:=C0) ANA (fun _=>rfl) ZM h w m φ vs hi hr hb
   ·exact(iI hT h).2 w m φ vs hi hr hb
   ·exact(iI hT h).2 w m φ vs hi hr hb
   ·exact(iI hW h).2 w m φ vs hi hr hb
   ·exact(JZ h0 h).2 w m φ vs hi hr hb
   ·exact(iI h0 h hy).2 w m φ vs hi hr hb
theorem ANO:SoundOk CY:=rF (C:=CY) ft nt eqS mo AOE
theorem ADN {p:Pn} (hf:p.fat):aI CY 10 [.i (.agg p.cells), .int 1048576] []=some (.int (dM 1048576 p.meas),[]):=by
 rw[bK (C:=CY) (p:=IQ (aI C0) 10) rfl];have h:=ZJ p hf 1048576 (by omega) (by omega);simp[h]
theorem ADL {p:Pn} (ht:p.thin):aI CY 13 [.i (.agg p.cells)] []=some (tP p 0,tPB p):=by
 rw[bK (C:=CY) (p:=IQ (aI CT) 13) rfl];simp[AMW p ht,tP,tPB]
theorem ADM {l:List Int} (hl:l.length<1000000000):aI CY 14 [.i (.isl (aF l))] []=some (.osl 0 1 0 l.length,[some (.arr 1 (aF l))]):=by
 rw[bK (C:=CY) (p:=IQ (aI CT) 14) rfl];simp[AGU l hl]
theorem QN {p:Pn} (hp:p.thin) {ws:List Int} (hl:ws.length<1000000000):aI CY 27 [tP p 0, .osl 3 1 0 ws.length] (tPB p++[some (.arr 1 (aF ws))])=some (.i (.isl (bT (jZ p ws))),[none,none,none,none]):=by
 have h:aI C0 27 [.i (.agg p.cells), .i (.isl (aF ws))] []=some (.i (.isl (bT (jZ p ws))),[]):=by
  have c1:=W9 p (Pn.TS p hp) ws (by omega);unfold jZ;by_cases h0:p.width ws=0
  ·rw[aD rfl Tryz.func27 rfl rfl];simp only[Pn.aA p]at c1 ⊢;simp[c1,h0,bT]
  ·obtain⟨hw,hp8,hv⟩:=wP h0;have c2:=NQ hw hp8;rw[← J7 (UD hw) hp8]at c2;rw[aD rfl Tryz.func27 rfl rfl];simp only[Pn.aA p]at c1 c2 ⊢;simp[c1,h0,c2]
 rw[bK (C:=CY) (p:=give (aI C0) 27) rfl];rw[Pn.aA,Ex.bV,Pn.bV]at h;have ha:=lT ws;have hb:=lT p.cols;simp[tP,tPB,h,ha,hb]
theorem VW {p:Pn} {ws:List Int}:aI CY 28 [tP p 0, .osl 3 1 0 ws.length] (tPB p++[some (.arr 1 (aF ws))])=some (if jZ p ws=[]then .nils else .osl 4 2 0 (jZ p ws).length,if jZ p ws=[]then tPB p++[some (.arr 1 (aF ws))]else tPB p++[some (.arr 1 (aF ws)),some (.tre 2 (bT (jZ p ws)))]):=by
 have h:=QJ p ws;rw[bK (C:=CY) (p:=IQ (aI CW) 28) rfl];rw[Pn.aA,Ex.bV,Pn.bV]at h;have ha:=lT ws;have hb:=lT p.cols;by_cases hs:jZ p ws=[]
 ·simp only[hs,if_true]at h ⊢;simp[tP,tPB,h,ha,hb]
 ·simp only[hs,if_false]at h ⊢;simp[tP,tPB,h,ha,hb]
theorem ADO {p:Pn} (hp:p.fat):aI CY 17 [tP p 0,tP p 3] (tPB p++tPB p)=some (.bool true,tPB p++tPB p):=by
 have h:=SK p hp;rw[bK (C:=CY) (p:=IQ (aI C0) 17) rfl];rw[Pn.aA,Ex.bV,Pn.bV]at h;have hb:=lT p.cols;simp[tP,tPB,h,hb]
theorem ADQ {l:List Int} (hl:l.length<9223372036854775808):aI CY 18 [.osl 0 1 0 l.length, .osl 1 1 0 l.length] [some (.arr 1 (aF l)),some (.arr 1 (aF l))]=some (.bool true,[some (.arr 1 (aF l)),some (.arr 1 (aF l))]):=by
 have h:=uF l hl;rw[bK (C:=CY) (p:=IQ (aI C0) 18) rfl];have hb:=lT l;simp[h,hb]
theorem VU {l:List Stp} (hl:l.length<9223372036854775808) (hs:∀ s∈l,s.2.length<9223372036854775808):aI CY 19 [.osl 0 2 0 l.length, .i (.isl (bT l))] [some (.tre 2 (bT l))]=some (.bool true,[some (.tre 2 (bT l))]):=by
 have h:=CG l hl hs;rw[bK (C:=CY) (p:=IQ (aI C0) 19) rfl];have ht:(bT l).take l.length=bT l:=zZ (by simp);simp[h,ht]
theorem VV:aI CY 19 [.nils, .i (.isl [])] []=some (.bool true,[]):=by
 have h:=CG [] (by simp) (by simp);rw[bK (C:=CY) (p:=IQ (aI C0) 19) rfl];simp[bT]at h;simp[h]
theorem QO {l:List Stp} (hn:l≠[]) (h1:(1:Int)+(bL o8 l:Nat)<1000000000000):aI CY 31 [.osl 0 2 0 l.length, .int 1] [some (.tre 2 (bT l))]=some (.int (1+(bL o8 l:Nat)),[some (.tre 2 (bT (dU IC o8 1 l)))]):=by
 rw[bK (C:=CY) (p:=sF EM IC o8 2) rfl];have h:=LM (W:=2) (mk:=IC) (sz:=o8) AE9 (l:=l) (k:=1) (by omega) h1
 have hn2:dU IC o8 1 l≠[]:=by
  intro e;have:=eB IC o8 l 1;rw[e]at this;exact hn (zW.1 (by simpa using this.symm))
 rw[uZ hn,uZ hn2]at h;exact h
theorem MV:aI CY 31 [.nils, .int 1] []=some (.int 1,[]):=by
 rw[bK (C:=CY) (p:=sF EM IC o8 2) rfl];simp[sF]
theorem QP {l:List Stp} (h1:(1:Int)+(bL o8 l:Nat)<1000000000000):aI CY 32 [.osl 0 2 0 l.length, .int 1] [some (.tre 2 (bT (dU IC o8 1 l)))]=some (.int (1+(bL o8 l:Nat)),[some (.tre 2 (bT (dU IC o8 1 l)))]):=by
 have h:=P9 l 1 (by omega) h1;have hl:=eB IC o8 l 1;rw[bK (C:=CY) (p:=IQ (aI C0) 32) rfl];have ht:(bT (dU IC o8 1 l)).take l.length=bT (dU IC o8 1 l):=zZ (by simp[hl]);simp[h,ht,hl]
theorem MW:aI CY 32 [.nils, .int 1] []=some (.int 1,[]):=by
 have h:=P9 [] 1 (by omega) (by simp[bL]);rw[bK (C:=CY) (p:=IQ (aI C0) 32) rfl];simp[bT,dU,bL]at h;simp[h]
def MIY (l:List Int) (k:Int) (i:Nat):AS :=
 { env:=[(0, .osl 0 1 0 l.length),(1, .int (k+i)),(4, .int 0),(5, .int i),(9,jk i (.bool true))],st:=[some (.arr 1 (aF ((FJ k l).take i++l.drop i)))] }
theorem J2 {l:List Int} {k:Int} (h0:0≤k) (h1:k+(l.length:Nat)<1000000000000):aI CY 30 [.osl 0 1 0 l.length, .int k] [some (.arr 1 (aF l))]=some (.int (k+(l.length:Nat)),[some (.arr 1 (aF (FJ k l)))]):=by
 rw[aD rfl Tryz.func30 rfl rfl];have hlen:(FJ k l).length=l.length:=eB ALX AHI l k;simp;rw[aS (MIY l k) l.length (by simp[MIY])]
 ·rw[aG];have ht:(FJ k l).take l.length=FJ k l:=zZ (by omega);simp[MIY,ht]
 ·intro i hi;have hs:=aJ (UE l k hi);have hd:=xH hi;generalize l[i]=a at hd;have hA:(aF ((FJ k l).take i)).length=i:=by simp[hlen];omega
  have w2:IntKind.i64.wrap ((i:Int)+1)=i+1:=wrO;have w3:IntKind.i64.wrap (k+i+1)=k+(i+1):=by rw[wrO];omega
  have g1:fJ (aF ((FJ k l).take i)++[.int a]::aF (l.drop (i+1))) i=some [.int a]:=by
   have:=tV (aF ((FJ k l).take i)) [IV.int a] (aF (l.drop (i+1)))
   rwa [hA]at this
  have g2:(aF ((FJ k l).take i)++[.int a]::aF (l.drop (i+1))).set i [.int (k+i)]=aF ((FJ k l).take i)++[.int (k+i)]::aF (l.drop (i+1)):=by
   rw[zA9 _ _ (by omega),hA,Nat.sub_self,zB4]
  have e1:aF ((FJ k l).take i++l.drop i)=aF ((FJ k l).take i)++[.int a]::aF (l.drop (i+1)):=by
   rw[bC,hd];rfl
  have e2:aF ((FJ k l).take (i+1)++l.drop (i+1))=aF ((FJ k l).take i)++[.int (k+i)]::aF (l.drop (i+1)):=by
   rw[hs,bC,bC,yZ];rfl
  simp only[MIY,e1,e2];simp[hi,g1,g2,w2,w3]
theorem VT {p:Pn} (h1:(1:Int)+(p.mk4:Nat)<1000000000000):aI CY 29 [tP p 0, .int 1] (tPB p)=some (.int (1+(p.mk4:Nat)),[some (mD Ex.cells 5 (dU Ex.sG exZ 1 p.exprs)),some (.arr 1 (aF (FJ (1+4*(Ex.aQ p.exprs:Nat)) p.cols))),some (mD Pn.cells 5 (dU Pn.tZ Pn.mz (1+4*(Ex.aQ p.exprs:Nat)+(p.cols.length:Nat)) p.kids))]):=by
 have hm:(p.mk4:Int)=4*(Ex.aQ p.exprs:Nat)+((p.cols.length:Nat)+(Pn.mzL p.kids:Nat)):=by unfold Pn.mk4;push_cast;rfl
 have c1:aI CY 72 [.osl 0 5 0 p.exprs.length, .int 1] [some (mD Ex.cells 5 p.exprs)]=some (.int (1+4*(Ex.aQ p.exprs:Nat)),[some (mD Ex.cells 5 (dU Ex.sG exZ 1 p.exprs))]):=by
  rw[bK (C:=CY) (p:=sF Ex.cells Ex.sG exZ 5) rfl];have:=LM (W:=5) (mk:=Ex.sG) (sz:=exZ) Ex.KI (l:=p.exprs) (k:=1) (by omega) (by rw[rH];push_cast;omega);rw[rH]at this;push_cast at this;exact this
 have c2:=J2 (l:=p.cols) (k:=1+4*(Ex.aQ p.exprs:Nat)) (by omega) (by omega)
 have c3:aI CY 73 [.osl 0 5 0 p.kids.length, .int (1+4*(Ex.aQ p.exprs:Nat)+(p.cols.length:Nat))] [some (mD Pn.cells 5 p.kids)]=some (.int (1+4*(Ex.aQ p.exprs:Nat)+(p.cols.length:Nat)+(Pn.mzL p.kids:Nat)),[some (mD Pn.cells 5 (dU Pn.tZ Pn.mz (1+4*(Ex.aQ p.exprs:Nat)+(p.cols.length:Nat)) p.kids))]):=by
  rw[bK (C:=CY) (p:=sF Pn.cells Pn.tZ Pn.mz 5) rfl];have:=LM (W:=5) (mk:=Pn.tZ) (sz:=Pn.mz) Pn.PY (l:=p.kids) (k:=1+4*(Ex.aQ p.exprs:Nat)+(p.cols.length:Nat)) (by omega) (by rw[DR];omega);rw[DR]at this;exact this
 rw[aD rfl Tryz.func29 rfl rfl];have hm2:1+(p.mk4:Int)=1+4*(Ex.aQ p.exprs:Nat)+(p.cols.length:Nat)+(Pn.mzL p.kids:Nat):=by omega
 rw[hm2];simp[tP,tPB,c1,c2,c3]
set_option maxRecDepth 8000
set_option maxHeartbeats 8000000
theorem A9 {p:Pn} {ws:List Int} (hp:p.fat) (hl:ws.length<9223372036854775808):aI CY 5 [.i (.agg p.cells), .i (.isl (aF ws))] []=some (.bool true,[]):=by
 rw[aD rfl Tryz.func5 rfl rfl];by_cases hw:(1048576:Int)<ws.length
 ·rw[Pn.aA p];simp[hw]
 have s1:=ADN hp;by_cases c1:dM 1048576 p.meas<0
 ·rw[Pn.aA p]at *
  simp[hw,s1,c1]
 have m1:p.meas≤1048576:=by
  unfold dM at c1;split at c1<;>omega
 have tp:=Pn.WI p (by omega);have e1:=ADL tp;have e2:=ADM (l:=ws) (by omega);have e3:=QN tp (ws:=ws) (by omega);have e4:=VW (p:=p) (ws:=ws);have e5:=ADO hp;have e6:=ADQ (l:=ws) (by omega);have mk:=Pn.AON p;have e7:=VT (p:=p) (by omega);have e8:=J2 (l:=ws) (k:=1+(p.mk4:Nat)) (by omega) (by omega);have n1:¬ 1+(p.mk4:Int)+(ws.length:Int)<0:=by omega
 have hss:=NM p ws;have hsl:=WO (p:=p) (ws:=ws);have hz:=NV _ hsl;generalize jZ p ws=S at *
 by_cases hs:S=[]
 ·subst hs;have e9:=VV;have e10:=MV;have e11:=MW;rw[Pn.aA p]at *
  simp[tP,tPB,bT]at e1 e3 e4 e5 e7;simp[hw,s1,c1,e1,e2,e3,e4,e5,e6,e7,e8,e9,e10,e11,n1]
 ·have e9:=VU (l:=S) (by omega) (fun s h=>by have:=hsl s h;omega);have e10:=QO hs (by omega);have e11:=QP (l:=S) (by omega);have n2:¬ 1+(bL o8 S:Int)<0:=by omega
  rw[Pn.aA p]at *
  simp only[if_neg hs]at e4;simp[tP,tPB]at e1 e3 e4 e5 e7;simp[hw,s1,c1,e1,e2,e3,e4,e5,e6,e7,e8,e9,e10,e11,n1,n2]
theorem oU {w:World} {p:Pn} {v:Value} {ws:List Int} {c:Value} (hp:p.fat) (rp:IRep (gU w) (.agg p.cells) v) (hl:ws.length<9223372036854775808) (hw:IRep (gU w) (.isl (aF ws)) c) :
 Calls Tryz.prog 5 #[v,c] w fun e w'=>e=.returned (.bool true)∧RowKit.Below w.heap.size w w' :=
 Y7 ANO (.cons (.i rp) (.cons (.i hw) .nil)) (A9 hp hl)
end Go.Proofs.YtjdfjgmebalaaaaGreat.P

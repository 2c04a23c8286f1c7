/- Part 4 of what the proof rests on: the executor and what it is worth, and the program's functions as it runs them. No condition. -/
import Derived.Test.YtgiepjdnkonkgaaGreatT3
import Derived.Test.YtgiepjdnkonkgaaGreatProg
import Derived.KernelRfl
set_option linter.unusedVariables false
set_option linter.unusedSimpArgs false
namespace Go.Av
structure Sts where
 rows:Int
 d:List Int
 n:List Int
def Sts.cells (s:Sts):List IV:=[.int s.rows, .isl (aF s.d), .isl (aF s.n)]
def gM (l:List Sts):List (List IV):=l.map Sts.cells
@[simp] theorem AQK (l:List Sts):(gM l).length=l.length:=by simp[gM]
theorem gI {l:List Sts} {i:Nat} {s:Sts} (h:l[i]?=some s):fT (gM l) i=some [.int s.rows, .isl (aF s.d), .isl (aF s.n)]:=by
 rw[fA];simp[gM,h,Sts.cells]
def Sts.okC (s:Sts) (d n:Int):Bool:=decide (0≤n) && (decide (n≤s.rows) && (decide (0≤d) && decide (d≤s.rows-n)))
def Sts.okL (s:Sts):List Int→List Int→Bool
 | d::ds,n::ns=>s.okC d n && s.okL ds ns
 | [],[]=>true
 | _,_=>false
def Sts.ok (s:Sts):Bool:=bH s.d.length && (decide (0≤s.rows) && (decide (s.rows≤400) && s.okL s.d s.n))
theorem Sts.QP {s:Sts}:∀ {a b:List Int},s.okL a b=true→b.length=a.length
 | [],[],_=>rfl
 | _::a,_::b,h=>by simp only[Sts.okL,zT]at h;simp[Sts.QP h.2]
 | [],_::_,h=>by simp[Sts.okL]at h
 | _::_,[],h=>by simp[Sts.okL]at h
theorem Sts.AP2 {s:Sts}:∀ {a b:List Int} {i:Nat} {d n:Int},s.okL a b=true→a[i]?=some d→b[i]?=some n→s.okC d n=true
 | _::a,_::b,0,d,n,h,h1,h2=>by simp at h1 h2;subst h1;subst h2;simp only[Sts.okL,zT]at h;exact h.1
 | _::a,_::b,i+1,d,n,h,h1,h2=>by simp only[Sts.okL,zT]at h;exact Sts.AP2 h.2 (by simpa using h1) (by simpa using h2)
 | [],_,_,d,n,_,h1,_=>by simp at h1
 | _::_,[],_,d,n,_,_,h2=>by simp at h2
theorem Sts.QO (s:Sts):∀ (a b:List Int),b.length=a.length→∃ j:Nat,(∀ i,i<j→∃ d n,a[i]?=some d∧b[i]?=some n∧s.okC d n=true)∧((j=a.length∧s.okL a b=true)∨∃ d n,a[j]?=some d∧b[j]?=some n∧s.okC d n=false∧s.okL a b=false)
 | [],[],_=>⟨0,fun i h=>by omega, .inl ⟨rfl,rfl⟩⟩
 | d::a,n::b,h=>by
  cases hc:s.okC d n with
  | false=>exact⟨0,fun i h=>by omega, .inr ⟨d,n,rfl,rfl,hc,by simp[Sts.okL,hc]⟩⟩
  | true =>
   obtain⟨j,h1,h2⟩:=Sts.QO s a b (by simpa using h);refine⟨j+1,?_,?_⟩
   ·intro i hi
    cases i with
    | zero=>exact⟨d,n,rfl,rfl,hc⟩
    | succ i =>
     obtain⟨x,y,k1,k2,k3⟩:=h1 i (by omega);exact⟨x,y,by simpa using k1,by simpa using k2,k3⟩
   ·rcases h2 with ⟨k1,k2⟩|⟨x,y,k1,k2,k3,k4⟩
    ·exact .inl ⟨by simp[k1],by simp[Sts.okL,hc,k2]⟩
    ·exact .inr ⟨x,y,by simpa using k1,by simpa using k2,k3,by simp[Sts.okL,hc,k4]⟩
 | [],_::_,h=>by simp at h
 | _::_,[],h=>by simp at h
theorem Sts.Y5 {s:Sts} {d n:Int}:s.okC d n=true↔0≤n∧n≤s.rows∧0≤d∧d≤s.rows-n:=by simp[Sts.okC]
theorem Sts.wU {s:Sts}:s.ok=true↔(1≤(s.d.length:Int)∧(s.d.length:Int)≤6)∧0≤s.rows∧s.rows≤400∧s.okL s.d s.n=true:=by
 unfold Sts.ok bH;simp
theorem Sts.col {s:Sts} (h:s.ok=true) {c:Int} (h0:0≤c) (h1:c<s.d.length):∃ d n,s.d[c.toNat]?=some d∧s.n[c.toNat]?=some n∧0≤n∧n≤s.rows∧0≤d∧d≤s.rows-n:=by
 obtain⟨_,_,_,h2⟩:=Sts.wU.1 h;have hl:=Sts.QP h2;have e1:=zX (show c.toNat<s.d.length by omega);have e2:=zX (show c.toNat<s.n.length by omega);obtain⟨a,b,c',d'⟩:=Sts.Y5.1 (Sts.AP2 h2 e1 e2);exact⟨_,_,e1,e2,a,b,c',d'⟩
def RQ (v:Val):Int:=if v.tr=2 then 1000 else 0
def AT8 (s:Sts) (a b:Ex):Int:=if a.kind≠1∨b.kind≠2∨b.val.null=true then 100 else if s.rows=0∨(s.d[a.col.toNat]?).getD 0=0 then 0 else(1000*(s.rows-(s.n[a.col.toNat]?).getD 0)).tdiv (s.rows*(s.d[a.col.toNat]?).getD 0)
def AD8 (s:Sts) (a:Ex):Int:=if a.kind≠1∨s.rows=0 then 0 else(1000*(s.n[a.col.toNat]?).getD 0).tdiv s.rows
def AWJ (s:Sts) (k:Int) (v:Val) (ks:List Ex) (xs:List Int):Int :=
 if k=2 then RQ v else if k=10 then 1000-(xs[0]?).getD 0 else if k=8 then((xs[0]?).getD 0*(xs[1]?).getD 0).tdiv 1000 else if k=9 then(xs[0]?).getD 0+(xs[1]?).getD 0-((xs[0]?).getD 0*(xs[1]?).getD 0).tdiv 1000 else
 if k=6 then AT8 s ((ks[0]?).getD Ex.zero) ((ks[1]?).getD Ex.zero)else if k=7 then 333 else if k=11 then AD8 s ((ks[0]?).getD Ex.zero)else 500
mutual
def Ex.sel (s:Sts):Ex→Int
 | .mk k _ v ks=>AWJ s k v ks (Ex.AZ9 s ks)
def Ex.AZ9 (s:Sts):List Ex→List Int
 | []=>[]
 | e::es=>e.sel s::Ex.AZ9 s es
end
theorem Ex.AA7 (s:Sts):∀ l,Ex.AZ9 s l=l.map (Ex.sel s)
 | []=>rfl
 | e::es=>by simp[Ex.AZ9,Ex.AA7 s es]
theorem Ex.AGE (s:Sts) (e:Ex):e.sel s=AWJ s e.kind e.val e.kids (e.kids.map (Ex.sel s)):=by
 cases e;simp[Ex.sel,Ex.AA7,Ex.kind,Ex.val,Ex.kids]
def AY5 (k:Int) (v:Val) (xs:List Int):Int :=
 if k=2 then RQ v else if k=8 then((xs[0]?).getD 0*(xs[1]?).getD 0).tdiv 1000 else if k=6 then 100 else 333
mutual
def Ex.fix:Ex→Int
 | .mk k _ v ks=>AY5 k v (Ex.AZX ks)
def Ex.AZX:List Ex→List Int
 | []=>[]
 | e::es=>e.fix::Ex.AZX es
end
theorem Ex.AB5:∀ l,Ex.AZX l=l.map Ex.fix
 | []=>rfl
 | e::es=>by simp[Ex.AZX,Ex.AB5 es]
theorem Ex.AIK (e:Ex):e.fix=AY5 e.kind e.val (e.kids.map Ex.fix):=by
 cases e;simp[Ex.fix,Ex.AB5,Ex.kind,Ex.val,Ex.kids]
theorem W9 (v:Val):0≤RQ v∧RQ v≤1000:=by unfold RQ;split<;>omega
theorem sD {a b c:Int} (h0:0≤a) (h1:0<b) (h2:a≤b*c):0≤a.tdiv b∧a.tdiv b≤c:=by
 rw[Int.tdiv_eq_ediv_of_nonneg h0];refine⟨Int.ediv_nonneg h0 (by omega),?_⟩;have:=Int.ediv_le_ediv h1 h2
 rwa [Int.mul_ediv_cancel_left _ (by omega)]at this
theorem FI {a b A B:Int} (a0:0≤a) (a1:a≤A) (b0:0≤b) (b1:b≤B):0≤a*b∧a*b≤A*B :=
 ⟨Int.mul_nonneg a0 b0,Int.mul_le_mul a1 b1 b0 (by omega)⟩
theorem OH {a b:Int} (a0:0≤a) (a1:a≤1000) (b0:0≤b) (b1:b≤1000):0≤(a*b).tdiv 1000∧(a*b).tdiv 1000≤1000∧(a*b).tdiv 1000≤a∧(a*b).tdiv 1000≤b∧0≤a*b∧a*b≤1000000∧a+b-1000≤(a*b).tdiv 1000:=by
 have k0:=Int.mul_nonneg (show 0≤1000-a by omega) (show 0≤1000-b by omega);have k9:(1000-a)*(1000-b)=1000000-1000*a-1000*b+a*b:=by rw[Int.sub_mul,Int.mul_sub,Int.mul_sub,Int.mul_comm a 1000];omega
 have k8:a+b-1000≤(a*b).tdiv 1000:=by
  rw[Int.tdiv_eq_ediv_of_nonneg (Int.mul_nonneg a0 b0)];omega
 obtain⟨m0,m1⟩:=FI a0 a1 b0 b1;have k1:a*b≤1000*a:=by rw[Int.mul_comm 1000 a];exact zA1 b1 a0
 have k2:a*b≤1000*b:=Int.mul_le_mul_of_nonneg_right a1 b0;have h1:=sD m0 (by omega) k1;have h2:=sD m0 (by omega) k2;exact⟨h1.1,by omega,h1.2,h2.2,m0,by omega,k8⟩
theorem AN6 {s:Sts} (h:s.ok=true) {a b:Ex} (ha:a.wf s.d.length=true):0≤AT8 s a b∧AT8 s a b≤1000:=by
 unfold AT8;split
 ·omega
 ·rename_i h1
  obtain⟨r0,r1⟩:0≤s.rows∧s.rows≤400:=⟨(Sts.wU.1 h).2.1,(Sts.wU.1 h).2.2.1⟩
  have hk:a.kind=1:=by
   by_cases hk:a.kind=1
   ·exact hk
   ·exact absurd (.inl hk) h1
  obtain⟨c0,c1,_⟩:=Ex.mV ha hk;obtain⟨d,n,e1,e2,n0,n1,d0,d1⟩:=Sts.col h c0 c1;rw[e1,e2];simp only[yP];split
  ·omega
  ·rename_i h2;have hr:0<s.rows:=by omega
   have hd:1≤d:=by omega
   have hm:s.rows*1≤s.rows*d:=zA1 hd (by omega);exact sD (by omega) (by omega) (by omega)
theorem AHB {s:Sts} (h:s.ok=true) {a:Ex} (ha:a.wf s.d.length=true):0≤AD8 s a∧AD8 s a≤1000:=by
 unfold AD8;split
 ·omega
 ·rename_i h1
  have hk:a.kind=1:=by
   by_cases hk:a.kind=1
   ·exact hk
   ·exact absurd (.inl hk) h1
  obtain⟨c0,c1,_⟩:=Ex.mV ha hk;obtain⟨d,n,e1,e2,n0,n1,d0,d1⟩:=Sts.col h c0 c1;rw[e2];simp only[yP];exact sD (by omega) (by omega) (by omega)
theorem AXM (n:Int):n=1∨n=2∨n=3∨n=4∨n=5∨n=6∨n=7∨n=8∨n=9∨n=10∨n=11∨(n≠1∧n≠2∧n≠3∧n≠4∧n≠5∧n≠6∧n≠7∧n≠8∧n≠9∧n≠10∧n≠11):=by omega
theorem vW {e:Ex} {w:Int} (h:e.wf w=true):(e.kind=1∧e.kids=[])∨(e.kind=2∧e.kids=[])∨((e.kind=10∨e.kind=11)∧∃ a,e.kids=[a])∨(e.kind≠1∧e.kind≠2∧e.kind≠10∧e.kind≠11∧∃ a b,e.kids=[a,b]):=by
 rw[Ex.PW]at h;simp at h;have hl:=h.1
 rcases AXM e.kind with k|k|k|k|k|k|k|k|k|k|k|⟨h1,h2,h3,h4,h5,h6,h7,h8,h9,h10,h11⟩
 case inr.inr.inr.inr.inr.inr.inr.inr.inr.inr.inr =>
  have:bZ e.kind=-1:=by unfold bZ;rw[if_neg (by omega),if_neg (by omega),if_neg (by omega)]
  omega
 all_goals (rw[k]at hl;simp[bZ]at hl;simp[k])
 all_goals first
  | exact hl
  | (cases hk:e.kids with
     | nil=>rw[hk]at hl;simp at hl
     | cons a r=>cases r with
      | nil=>first|exact⟨a,rfl⟩|(rw[hk]at hl;simp at hl)
      | cons b r=>cases r with
       | nil=>first|exact⟨a,b,rfl⟩|(rw[hk]at hl;simp at hl)
       | cons c r=>rw[hk]at hl;simp at hl;omega)
theorem AO {s:Sts} (h:s.ok=true):∀ (e:Ex),e.wf s.d.length=true→0≤e.sel s∧e.sel s≤1000:=by
 intro e
 induction e using Ex.ind with
 | h k c v ks ih =>
  intro hw;have hk:=vW hw;have hi:∀ a∈ks,0≤a.sel s∧a.sel s≤1000:=fun a ha=>ih a ha (Ex.gX hw ha)
  rw[Ex.AGE];simp only[Ex.kind,Ex.val,Ex.kids]at hk ⊢;unfold AWJ
  rcases hk with ⟨k1,ck⟩|⟨k1,ck⟩|⟨k1,a,ck⟩|⟨k1,k2,k3,k4,a,b,ck⟩
  ·simp[k1]
  ·simp only[k1,if_true];exact W9 v
  ·subst ck;have h1:=hi a (by simp);have h2:=AHB h (Ex.gX hw (k:=a) (by simp[Ex.kids]))
   rcases k1 with k1|k1
   ·simp[k1];omega
   ·simp[k1];omega
  ·subst ck;have h1:=hi a (by simp);have h2:=hi b (by simp);have h3:=OH h1.1 h1.2 h2.1 h2.2;have h4:=AN6 h (b:=b) (Ex.gX hw (k:=a) (by simp[Ex.kids]));simp only[k2,k3,k4,if_false,yS,zA7,zC5,xZ,yP]
   repeat' split
   all_goals omega
theorem uS {w:Int}:∀ (e:Ex),e.wf w=true→0≤e.fix∧e.fix≤1000:=by
 intro e
 induction e using Ex.ind with
 | h k c v ks ih =>
  intro hw;have hk:=vW hw;have hi:∀ a∈ks,0≤a.fix∧a.fix≤1000:=fun a ha=>ih a ha (Ex.gX hw ha)
  rw[Ex.AIK];simp only[Ex.kind,Ex.val,Ex.kids]at hk ⊢;unfold AY5
  rcases hk with ⟨k1,ck⟩|⟨k1,ck⟩|⟨k1,a,ck⟩|⟨k1,k2,k3,k4,a,b,ck⟩
  ·simp[k1]
  ·simp only[k1,if_true];exact W9 v
  ·rcases k1 with k1|k1<;>simp[k1]
  ·subst ck;have h1:=hi a (by simp);have h2:=hi b (by simp);have h3:=OH h1.1 h1.2 h2.1 h2.2;simp only[k2,if_false,yS,zA7,zC5,xZ,yP]
   repeat' split
   all_goals omega
def AbV (sts:List Sts) (k t:Int) (es:List Ex) (cs:List Int) (ks:List Pn) (xs:List Int):Int :=
 let x0:=(xs[0]?).getD 0
 if k=1 then(((sts[t.toNat]?).map Sts.rows).getD 0)else
 if k=2 then(x0*(if((ks[0]?).getD Pn.zero).kind=1 then((es[0]?).getD Ex.zero).sel ((sts[((ks[0]?).getD Pn.zero).table.toNat]?).getD ⟨0,[],[]⟩)else((es[0]?).getD Ex.zero).fix)).tdiv 1000 else
 if k=4 then(min (x0*(xs[1]?).getD 0) 1000000000*((es[0]?).getD Ex.zero).fix).tdiv 1000 else
 if k=5 then max ((min (x0*(xs[1]?).getD 0) 1000000000*((es[0]?).getD Ex.zero).fix).tdiv 1000) x0 else
 if k=6 then min (x0+(xs[1]?).getD 0) 1000000000 else
 if k=8 then(if cs=[]then min x0 1 else x0)else x0
mutual
def Pn.est (sts:List Sts):Pn→Int
 | .mk k t es cs ks=>AbV sts k t es cs ks (Pn.AYA sts ks)
def Pn.AYA (sts:List Sts):List Pn→List Int
 | []=>[]
 | p::ps=>p.est sts::Pn.AYA sts ps
end
theorem Pn.ABA (sts:List Sts):∀ l,Pn.AYA sts l=l.map (Pn.est sts)
 | []=>rfl
 | e::es=>by simp[Pn.AYA,Pn.ABA sts es]
theorem Pn.MF (sts:List Sts) (p:Pn):p.est sts=AbV sts p.kind p.table p.exprs p.cols p.kids (p.kids.map (Pn.est sts)):=by
 cases p;simp[Pn.est,Pn.ABA,Pn.kind,Pn.table,Pn.exprs,Pn.cols,Pn.kids]
mutual
def Pn.cst (sts:List Sts):Pn→Int
 | .mk k t es cs ks=>AbV sts k t es cs ks (Pn.AYA sts ks)+Pn.JH sts ks
def Pn.JH (sts:List Sts):List Pn→Int
 | []=>0
 | p::ps=>p.cst sts+Pn.JH sts ps
end
theorem Pn.EF (sts:List Sts) (p:Pn):p.cst sts=p.est sts+Pn.JH sts p.kids:=by
 cases p;simp[Pn.cst,Pn.est,Pn.kids]
theorem RB (sts:List Sts) (t:Int):(Pn.scan t).est sts=((sts[t.toNat]?).map Sts.rows).getD 0:=by rw[Pn.MF];rfl
theorem RG (sts:List Sts) (e:Ex) (a:Pn):(filt e a).est sts=(a.est sts*(if a.kind=1 then e.sel ((sts[a.table.toNat]?).getD ⟨0,[],[]⟩)else e.fix)).tdiv 1000:=by rw[Pn.MF];rfl
theorem RD (sts:List Sts) (es:List Ex) (a:Pn):(proj es a).est sts=a.est sts:=by rw[Pn.MF];rfl
theorem RF (sts:List Sts) {k:Int} (hk:k=4∨k=5) (e:Ex) (a b:Pn):(bB k e a b).est sts=if k=4 then(min (a.est sts*b.est sts) 1000000000*e.fix).tdiv 1000 else max ((min (a.est sts*b.est sts) 1000000000*e.fix).tdiv 1000) (a.est sts):=by
 rw[Pn.MF];rcases hk with rfl|rfl<;>rfl
theorem MC (sts:List Sts) (a b:Pn):(bX a b).est sts=min (a.est sts+b.est sts) 1000000000:=by rw[Pn.MF];rfl
theorem RH (sts:List Sts) (a:Pn):(Pn.mk 7 0 [] [] [a]).est sts=a.est sts:=by rw[Pn.MF];rfl
theorem ME (sts:List Sts) (cs:List Int) (a:Pn):(Pn.mk 8 0 [] cs [a]).est sts=if cs=[]then min (a.est sts) 1 else a.est sts:=by rw[Pn.MF];rfl
def stW (sts:List Sts):List Int:=sts.map fun s=>(s.d.length:Int)
theorem Q8 {sts:List Sts} (hs:∀ s∈sts,s.ok=true) {a:Pn} {m:Nat} (ha:a.wd (stW sts) m≠0) (hk:a.kind=1):∃ s,sts[a.table.toNat]?=some s∧(s.d.length:Int)=a.wd (stW sts) m∧0≤a.table∧a.table<sts.length:=by
 have hsh:=mX ha
 cases hsh with
 | scan t W h0 h1 hW =>
  have hw:=h1;unfold stW at h1;rw[xJ]at h1;obtain⟨s,q1,q2⟩:=zE0.1 h1;have hl:=(zZ.1 q1).1;refine⟨s,q1,?_,h0,by simp only[Pn.scan,Pn.table];omega⟩;rw[AR6 h0 hw];exact q2
 | filt m e a=>simp[filt,Pn.kind]at hk
 | proj m es a=>simp[proj,Pn.kind]at hk
 | pair m k e a b h1 hk1=>simp[bB,Pn.kind]at hk;omega
 | union m a b=>simp[bX,Pn.kind]at hk
 | dist m a=>simp[Pn.kind]at hk
 | group m cs a=>simp[Pn.kind]at hk
theorem AKY {a b:Int} (a0:0≤a) (a1:a≤1000000000) (b0:0≤b) (b1:b≤1000):0≤a*b∧a*b≤1000000000000∧0≤(a*b).tdiv 1000∧(a*b).tdiv 1000≤1000000000:=by
 obtain⟨m0,m1⟩:=FI a0 a1 b0 b1;have:=sD (c:=1000000000) m0 (show(0:Int)<1000 by omega) (by omega);exact⟨m0,by omega,this.1,this.2⟩
theorem iN {sts:List Sts} (hs:∀ s∈sts,s.ok=true):∀ (p:Pn) (lv:Nat),p.wd (stW sts) lv≠0→0≤p.est sts∧p.est sts≤1000000000:=by
 intro p
 induction p using Pn.ind with
 | h k t es cs ks ih =>
  intro lv h;have hsh:=mX h;generalize hp:Pn.mk k t es cs ks=p at hsh h;have hk:ks=p.kids:=by rw[← hp];rfl
  subst hk
  cases hsh with
  | scan t W h0 h1 hW =>
   rw[RB]
   cases e:sts[t.toNat]? with
   | none=>simp
   | some s=>have:=Sts.wU.1 (hs s (zU e));simp only[xG,yP];omega
  | filt m e a h1 ha he =>
   rw[RG];have h2:=ih a (by simp[filt]) m ha;obtain⟨hwf,_,_⟩:=Ex.tL he;split
   ·rename_i hk1;obtain⟨s,q1,q2⟩:=Q8 hs ha hk1;rw[q1];have h3:=AO (hs s (zU q1)) e (by rw[q2.1];exact hwf);have:=AKY h2.1 h2.2 h3.1 h3.2;exact⟨this.2.2.1,this.2.2.2⟩
   ·have h3:=uS e hwf;have:=AKY h2.1 h2.2 h3.1 h3.2;exact⟨this.2.2.1,this.2.2.2⟩
  | proj m es a h1 ha hl he=>rw[RD];exact ih a (by simp[proj]) m ha
  | pair m k e a b h1 hk ha hb hl he =>
   rw[RF sts hk];have h2:=ih a (by simp[bB]) m ha;have h3:=ih b (by simp[bB]) m hb;have h4:=uS e (Ex.tL he).1;have h5:=Int.mul_nonneg h2.1 h3.1;have:=AKY (show 0≤min (a.est sts*b.est sts) 1000000000 by omega) (by omega) h4.1 h4.2;split<;>omega
  | union m a b h1 ha hb =>
   rw[MC];have h2:=ih a (by simp[bX]) m ha;have h3:=ih b (by simp[bX]) m (by rw[hb];exact ha);omega
  | dist m a h1 ha=>rw[RH];exact ih a (by simp) m ha
  | group m cs a h1 ha hc ho =>
   rw[ME];have h2:=ih a (by simp) m ha;split<;>omega
theorem ZW {ws:List Int} {lv:Nat} {k t:Int} {es:List Ex} {cs:List Int} {ks:List Pn} {a:Pn} (h:(Pn.mk k t es cs ks).wd ws lv≠0) (ha:a∈ks):a.wd ws (lv-1)≠0:=by
 have hsh:=mX h;generalize hp:Pn.mk k t es cs ks=p at hsh;have hk:ks=p.kids:=by rw[← hp];rfl
 rw[hk]at ha
 cases hsh with
 | scan t W h0 h1 hW=>simp[Pn.scan,Pn.kids]at ha
 | filt m e b h1 hb he=>simp[filt,Pn.kids]at ha;subst ha;subst h1;exact hb
 | proj m es b h1 hb hl he=>simp[proj,Pn.kids]at ha;subst ha;subst h1;exact hb
 | pair m k e b c h1 hk hb hc hl he =>
  subst h1;simp[bB,Pn.kids]at ha
  rcases ha with rfl|rfl
  ·exact hb
  ·exact hc
 | union m b c h1 hb hc =>
  subst h1;simp[bX,Pn.kids]at ha
  rcases ha with rfl|rfl
  ·exact hb
  ·show Pn.wd ws m _≠0;rw[hc];exact hb
 | dist m b h1 hb=>simp[Pn.kids]at ha;subst ha;subst h1;exact hb
 | group m cs b h1 hb hc ho=>simp[Pn.kids]at ha;subst ha;subst h1;exact hb
theorem lJ {sts:List Sts} (hs:∀ s∈sts,s.ok=true):∀ (p:Pn) (lv:Nat),p.wd (stW sts) lv≠0→0≤p.cst sts∧p.cst sts≤1000000000*p.size:=by
 intro p
 induction p using Pn.ind with
 | h k t es cs ks ih =>
  intro lv h;have h0:=iN hs _ lv h
  have hl:∀ l:List Pn,(∀ a∈l,0≤a.cst sts∧a.cst sts≤1000000000*a.size)→0≤Pn.JH sts l∧Pn.JH sts l≤1000000000*Pn.aL l:=by
   intro l
   induction l with
   | nil=>intro _;simp[Pn.JH,Pn.aL]
   | cons a l ihl =>
    intro hm;have h1:=hm a (by simp);have h2:=ihl fun x hx=>hm x (by simp[hx])
    simp only[Pn.JH,Pn.aL];omega
  have hk:=hl ks fun a ha=>by
   have hw:=ZW h ha;exact ih a ha _ hw
  rw[Pn.EF,Pn.size_eq];simp only[Pn.kids];omega
structure Bst where
 p:Pn
 s:Stp
 c:Int
def BX (sts:List Sts) (ws:List Int) (p:Pn) (b:Bst) (s:Stp):Bst :=
 match apO p ws s.1 s.2 with
 | none=>b
 | some q=>if q.cst sts<b.c then⟨q,s,q.cst sts⟩else b
def X8 (sts:List Sts) (p:Pn) (l:List Stp):Bst:=l.foldl (BX sts (stW sts) p) ⟨p,(0,[]),p.cst sts⟩
def BOk (sts:List Sts) (p:Pn) (b:Bst):Prop:=(b.p=p∧b.s=(0,[])∧b.c=p.cst sts)∨(apO p (stW sts) b.s.1 b.s.2=some b.p∧b.c=b.p.cst sts∧b.c<p.cst sts)
theorem AT1 {sts:List Sts} {p:Pn} {b:Bst} (h:BOk sts p b) (s:Stp):BOk sts p (BX sts (stW sts) p b s):=by
 unfold BX
 cases hq:apO p (stW sts) s.1 s.2 with
 | none=>exact h
 | some q =>
  simp only;split
  ·rename_i hl;refine .inr ⟨hq,rfl,?_⟩
   rcases h with ⟨h1,h2,h3⟩|⟨h1,h2,h3⟩<;>simp only<;>omega
  ·exact h
theorem AT0 (sts:List Sts) (p:Pn) (l:List Stp):BOk sts p (X8 sts p l):=by
 unfold X8
 have:∀ (l:List Stp) (b:Bst),BOk sts p b→BOk sts p (l.foldl (BX sts (stW sts) p) b):=by
  intro l
  induction l with
  | nil=>intro b h;exact h
  | cons s l ih=>intro b h;exact ih _ (AT1 h s)
 exact this l _ (.inl ⟨rfl,rfl,rfl⟩)
end Go.Av
namespace Go.Av
open Go.Av.Mk
theorem AMJ {call:dI} {g:FuncId} {q:Pn} {a:IV} {n:Int} (h:call g [.i (.agg q.cells), .i a] []=some (.int n,[])):pM call g [rqA q 0, .i a] (rqB q)=some (.int n,rqB q):=by
 unfold pM;have h2:kS (aR (rqB q)) (.i a)=some a:=rfl;simp only[nS,AKP,h2,bnd,h];simp[mfA,mfR,mfC,jM,tst,ADA,iH,ren]
theorem ASC {call:dI} {g:FuncId} {a b:IV} {n:Int} (h:call g [.i a, .i b] []=some (.int n,[])):pM call g [.i a, .i b] []=some (.int n,[]):=by
 unfold pM;have h2:kS (aR []) (.i b)=some b:=rfl;have h1:kS (aR []) (.i a)=some a:=rfl;simp only[nS,h1,h2,bnd,h];simp[mfA,mfR,mfC,jM,tst,ADA,iH,ren]
theorem ASA {call:dI} {g:FuncId} {x:Pn} {a b:IV} {r:Int} {path:List Int} {o:Bool} (h:call g [.i a, .i b, .i (.agg [.int r, .isl (aF path)])] []=some (.tup [rqA x 0, .bool o],rqB x)) :
 pM call g [.i a, .i b, .agg [.int r, .osl 0 1 0 path.length]] [some (.arr 1 (aF path))]=some (.tup [rqA x 1, .bool o],some (.arr 1 (aF path))::rqB x):=by
 unfold pM;have h1:kS (aR [some (.arr 1 (aF path))]) (.i a)=some a:=rfl;have h2:kS (aR [some (.arr 1 (aF path))]) (.i b)=some b:=rfl
 have h3:kS (aR [some (.arr 1 (aF path))]) (.agg [.int r, .osl 0 1 0 path.length])=some (.agg [.int r, .isl (aF path)]):=by
  have hb:=EJ path;simp[kS,sV,CO,aR,A7,bnd,tst,hb]
 simp only[nS,h1,h2,h3,bnd,h,mfA,AMA,AXF,AHN,AA6,ren,DL,AOZ,zP,yT];simp[mfR,mfC,jM,tst]
theorem ASB {call:dI} {g:FuncId} {x:Pn} {a b:IV} {r:Int} {o:Bool} (h:call g [.i a, .i b, .i (.agg [.int r, .isl []])] []=some (.tup [rqA x 0, .bool o],rqB x)) :
 pM call g [.i a, .i b, .agg [.int r, .nils]] []=some (.tup [rqA x 0, .bool o],rqB x):=by
 unfold pM;have h1:kS (aR []) (.i a)=some a:=rfl;have h2:kS (aR []) (.i b)=some b:=rfl;have h3:kS (aR []) (.agg [.int r, .nils])=some (.agg [.int r, .isl []]):=rfl;simp only[nS,h1,h2,h3,bnd,h,mfA,AMA,AXF,AHN,AA6,ren,DL,AOZ];simp[mfR,mfC,jM,tst]
def bsT (R:Rng) (cs:List AV) (pc:List IV) (sv wv:IV) (b:Bst):StL :=
 [some (.loop R cs .ready),some (.fbox pc),some (.box [.i sv]),some (.box [.int b.c]),some (.box [.i wv]),some (.tre 5 [[.int b.p.kind, .int b.p.table, .isl (Ex.aB b.p.exprs), .isl (aF b.p.cols), .isl (Pn.aB b.p.kids)]]),some (.tre 2 [[.int b.s.1, .isl (aF b.s.2)]])]
end Go.Av
namespace Go.Av
def YL (sts:List Sts) (ws:List Int) (p:Pn) (b:Bst) (s:Stp):Bool :=
 match apO p ws s.1 s.2 with
 | none=>false
 | some q=>decide (q.cst sts<b.c)
def fI (sts:List Sts) (ws:List Int) (p:Pn) (x:Bst×Bool) (s:Stp):Bst×Bool:=(BX sts ws p x.1 s,x.2 || YL sts ws p x.1 s)
theorem AT2 {sts:List Sts} {ws:List Int} {p:Pn} {b:Bst} {s:Stp} (h:YL sts ws p b s=false):BX sts ws p b s=b:=by
 unfold YL at h;unfold BX
 cases ha:apO p ws s.1 s.2 with
 | none=>rfl
 | some q=>rw[ha]at h;simp only[decide_eq_false_iff_not]at h;simp only;rw[if_neg h]
theorem AMR {sts:List Sts} {ws:List Int} {p:Pn} {b:Bst} {s:Stp} (h:YL sts ws p b s=true):(BX sts ws p b s).s=s:=by
 unfold YL at h;unfold BX
 cases ha:apO p ws s.1 s.2 with
 | none=>rw[ha]at h;cases h
 | some q=>rw[ha]at h;simp only[zM]at h;simp only;rw[if_pos h]
theorem AY7 {sts:List Sts} {ws:List Int} {p:Pn} {b:Bst} {c:Bool} {s:Stp} (h:YL sts ws p b s=false):fI sts ws p (b,c) s=(b,c):=by
 unfold fI;simp only[h,AT2 h,Bool.or_false]
theorem APL {sts:List Sts} {ws:List Int} {p:Pn} {b:Bst} {c:Bool} {s:Stp} (h:YL sts ws p b s=true):∃ b',fI sts ws p (b,c) s=(b',true)∧BX sts ws p b s=b'∧b'.s=s:=by
 refine⟨_,?_,rfl,AMR h⟩;unfold fI;simp only[h,Bool.or_true]
theorem APM (sts:List Sts) (ws:List Int) (p:Pn):∀ (l:List Stp) (b:Bst) (c:Bool),(l.foldl (fI sts ws p) (b,c)).1=l.foldl (BX sts ws p) b
 | [],_,_=>rfl
 | s::l,b,c=>by simp only[zA8];exact APM sts ws p l _ _
theorem YV (sts:List Sts) (ws:List Int) (p:Pn):∀ (l:List Stp) (b:Bst) {P:Stp→Prop},(∀ s∈l,P s)→P b.s→(l.foldl (fI sts ws p) (b,true)).2=true∧P (l.foldl (fI sts ws p) (b,true)).1.s
 | [],b,P,_,h=>⟨rfl,h⟩
 | s::l,b,P,hl,h=>by
  simp only[zA8]
  cases hi:YL sts ws p b s with
  | false=>rw[AY7 hi];exact YV sts ws p l b (fun x hx=>hl x (by simp[hx])) h
  | true =>
   obtain⟨b',e1,e2,e3⟩:=APL (c:=true) hi;rw[e1];exact YV sts ws p l b' (fun x hx=>hl x (by simp[hx])) (by rw[e3];exact hl s (by simp))
theorem AB6 (sts:List Sts) (ws:List Int) (p:Pn):∀ (l:List Stp) (b:Bst) {P:Stp→Prop},(∀ s∈l,P s)→l.foldl (fI sts ws p) (b,false)=(b,false)∨∃ b',l.foldl (fI sts ws p) (b,false)=(b',true)∧P b'.s
 | [],b,P,_=>.inl rfl
 | s::l,b,P,hl=>by
  simp only[zA8]
  cases hi:YL sts ws p b s with
  | false=>rw[AY7 hi];exact AB6 sts ws p l b fun x hx=>hl x (by simp[hx])
  | true =>
   obtain⟨b',e1,e2,e3⟩:=APL (c:=false) hi;rw[e1];obtain⟨k1,k2⟩:=YV sts ws p l b' (P:=P) (fun x hx=>hl x (by simp[hx])) (by rw[e3];exact hl s (by simp));exact .inr ⟨(l.foldl (fI sts ws p) (b',true)).1,Prod.ext rfl k1,k2⟩
end Go.Av
namespace Go.Proofs.YtgiepjdnkonkgaaGreat
open Go Go.Av
def GS:FuncId→List Nat
 | 3=>[0,1,2,4,5,6,7,8,9,10,11,12,13,14,15,16,21,26,54,59,64,84,95,100,103,121,126,131,134]
 | 4=>[0,1,2,4,10,16,22]
 | 5=>[0,1,4,5,11,15,25]
 | 6=>[0,1,2,4,5,6,7,8,9,10,11,12,13,15,19,26,50,68]
 | 7=>[0,1,2,3]
 | 8=>[0,2,3,4,11]
 | 9=>[0,1,2,3,4,5,6,7,8,9,10,11,12,13,18,26,27,36,42]
 | 10=>[0,1,2,3,4,9,14,20,26,32]
 | 11=>[0,1,2,3,4,9,15]
 | 12=>[0,1,4,5,10,14,26]
 | 13=>[0,1,2,4]
 | 14=>[0,1,4,5,9]
 | 15=>[0,1,2,4]
 | 16=>[0,1,2,4,10,16,22]
 | 17=>[0,1,2,4,10]
 | 18=>[0,1,4,5,11,15,25]
 | 19=>[0,1,4,10]
 | 20=>[0,1,4,5,11,15,25]
 | 21=>[0,1,2,4,10,16]
 | 22=>[0,1,2,4,5,6,11,25]
 | 23=>[0,1,2,3,4,5,19,37]
 | 24=>[0,1,2,4,5,6,14]
 | 25=>[0,1,2,4,5,6,7,8,9,11,20,24,42]
 | 26=>[0,1,2,3,5,6,7,8,9,10,19,30,40]
 | 27=>[0,2,3,4,11]
 | 28=>[0,2,3,4,11]
 | 29=>[0,2,3,4,11]
 | 30=>[0,1,2,3]
 | 31=>[0,1,2,4,6]
 | 32=>[0,2,3,4,6,7,8]
 | 33=>[0,2,3,4,5,6,7,14,38,39,40,76,77,78]
 | 34=>[0,1,2,3,4]
 | 35=>[0,1,2,3,5,6,7,8,9,10,11,15,21,36]
 | 36=>[0,1,4,5,10,14,26]
 | 37=>[0,1,4,5,10,14,25]
 | 38=>[0,1,4,5,10,14,26]
 | 39=>[0,1,2,3,4,9,15,21]
 | 40=>[0,1,4,5,9]
 | 41=>[0,1,4,5,9]
 | 42=>[0,1,4,5,9]
 | 43=>[0,1,4,5,9,18,27,39,49,60]
 | 44=>[0,1,4,5,9,17]
 | 45=>[0,1,4,5,9,18,27,38,47,56]
 | 46=>[0,1,2,4,10]
 | 47=>[0,1,2,4]
 | 48=>[0,1,2,4,7]
 | 49=>[0,1,2,3,4,16]
 | 50=>[0,1,2,4,5,6,9,23,24,31,56,77,82,93,98]
 | 51=>[0,1,2,4,6,7,18]
 | 52=>[0,1,2,4,5,6,10,22]
 | 53=>[0,1,2,3,6,7,8,9,10,11,12,13,14,24,71,99,120]
 | 54=>[0,1,2,3,5,6,7,10]
 | 55=>[0,1,2,3,6,7,8,9,23,28,41,47,48,55,61,70,74,82,106,114,122,126,131,144]
 | 56=>[0,1,2,3]
 | 57=>[0,1,4,5,6,7,8,11,13,14,15,28,36]
 | 58=>[0,2,3,6]
 | 59=>[0,2,3,4,5,6,13,37,38,39]
 | 60=>[0,2,3,6]
 | 61=>[0,2,3,6]
 | 62=>[0,1,2]
 | 63=>[0,1,2,3,8,9,11,12,14,28,35,40,41,42,58]
 | 64=>[0,1,2,4,7]
 | 65=>[0,1,4,6,9,10,11,12,13,26]
 | 66=>[0,1,2,3,8,9,10,11,12,19,37]
 | 67=>[0,1,2,3,4,9,14,20,26]
 | 68=>[0,1,2,6]
 | 69=>[0,1,2,4,5,23,26,54]
 | 70=>[0,2,3,7,15]
 | 71=>[0,1,2,3,4,5,6,8,9,17,26,42,64,88,96,98,110]
 | 72=>[0,1,2,4,5,13,27]
 | 73=>[0,1,2,3,6,7,8,9,10,11,12,13,14,26,42,62,81,112,150,169,190,212]
 | 74=>[0,1,4,5,6,10]
 | 75=>[0,1,2,4,5,6,9,27]
 | 76=>[0,1,2,3,4,6,7,9,12,14,16]
 | 77=>[0,1,2,4]
 | 78=>[0,1,4,5,9,18,21]
 | 79=>[0,1,4,5,9,35]
 | 80=>[0,1,2,3]
 | 81=>[0,1,2,4,5,18,30,31,32,33,50,72]
 | 82=>[0,1,2,6,7,8,9,10,15,16,17,36,37,47,62,82,103,108,116,123]
 | 83=>[0,2,4,12,13,14,15,16,21]
 | 84=>[0,1,2,6,7,8,9,10,31,60,87,92,106,118,119,120,137]
 | 85=>[0,4,5,6,7,8,16]
 | 86=>[0,4,5,6,21]
 | 87=>[0,1,4,5,6,7,8,16,38]
 | 88=>[0,1,4,5,6,7,8,9,10,18,34]
 | 89=>[0,4,5,6,7,8,16]
 | 90=>[0,1,4,5,6,7,8,9,10,15,37,38,39]
 | 91=>[0,1,4,5,6,7,8,9,10,11,19,36,49]
 | 92=>[0,4,5,6,7,8,16]
 | 93=>[0,4,5,30]
 | 94=>[0,1,4,5,6,7,8,9,17]
 | 95=>[0,1,4,5,6,7,8,9,10,11,26,50,51,52,71]
 | 96=>[0,1,2,3,4,9,14]
 | 97=>[0,2,3]
 | 98=>[0,1,2,3,6]
 | 99=>[0,1,2,4,15]
 | 100=>[0,1,2,3,4]
 | 101=>[0,1,2,3,6,7]
 | 102=>[0,1,2,3,6]
 | 103=>[0,1,4,5,6,11]
 | 104=>[0,1,2,3,6,7,24,29,41,43,44,57]
 | 105=>[0,2]
 | 106=>[0,2,6,7,11,27]
 | 107=>[0,1,4,5,6,10,11,15,25,46,59,64,66,82]
 | 108=>[0,2,3,4,5,7,10,13,15]
 | 109=>[0,1,2,6,7,8,13,14,21,22,26,27,35,46,47,48,59,65]
 | 110=>[0,1,4,5,6,22]
 | 111=>[0,1,2,3,4]
 | 112=>[0,1,2,3,4]
 | 113=>[0,2,3,4,9,19,20,21]
 | 114=>[0,1,2,3,5,6,7,8]
 | 115=>[0,1,3,4]
 | 116=>[0,1,3]
 | 117=>[0,1,2,4,7]
 | 118=>[0,2]
 | 119=>[0,1,2,3,6,7,8,10,14,18,19,20,26,27,28,29,38]
 | 120=>[0,1,2,3,4,6,7,8,9,14,20,21,22,30,42]
 | 121=>[0,1,3,4,5,8,17]
 | 122=>[0,1,2,4,5,6,7,9,10,17,29,30,42,46,49,66,76,84,89]
 | 123=>[0,1,4,5,6,7,8,12,18,26]
 | 124=>[0,2,3,4,7,10]
 | 125=>[0,1,2]
 | 126=>[0,2,8]
 | 127=>[0,1,4,5,6,35,53]
 | 128=>[0,1,4,5,7,10,11,12,13,14,24]
 | 129=>[0,1,2,4]
 | 130=>[0,1,4,5,6,12,39,40,41]
 | 131=>[0,1,3,8]
 | 132=>[0,1,4,5,6,10,11,20,37,38,50,54,59]
 | 133=>[0,2,3,4,9,10,11]
 | 134=>[0,1,2,6,7,27,32,33,34,46]
 | 135=>[0,1,3,8]
 | 136=>[0,1,4,5,6,18,32]
 | 137=>[0,1,2,3,6]
 | 138=>[0,1,2,6,7,8,9,11,15,29]
 | 139=>[0,1,2,3,6]
 | 140=>[0,1,2,6,7,8,28,62,90,95,96,97,109]
 | 141=>[0,1,2,3,6]
 | 142=>[0,1,2,6,7,9,11,17,19,20,21,22,26,27,28,29,46,54,66]
 | 143=>[0,1,2,4,5,6,7,8,16,32,34,35,43,51,59]
 | 144=>[0,2,3,4,7]
 | 145=>[0,2,3,4,7,10]
 | 146=>[0,1,2,4]
 | 147=>[0,2,3,5,9,10,11,12,19]
 | 148=>[0,1,2,4,5,6,7,16,25,33,34,42,50,58]
 | 149=>[0,2,4]
 | 150=>[0,1,4,5,12]
 | 151=>[0,2,4]
 | 152=>[0,2,5]
 | 153=>[0,2]
 | 154=>[0]
 | 155=>[0,2,4]
 | 156=>[0,2,3,7]
 | 157=>[0,2,3]
 | 173=>[]
 | 174=>[]
 | _=>[]
def bU:FuncId→Bool
 | 51=>true
 | 59=>true
 | 62=>true
 | 116=>true
 | 117=>true
 | 131=>true
 | 135=>true
 | _=>false
def keepR:FuncId→Bool
 | 58=>true
 | 61=>true
 | 60=>true
 | 74=>true
 | 23=>true
 | 51=>true
 | 34=>true
 | _=>false
def ED:TypeId→Bool
 | 78=>true
 | 79=>true
 | 84=>true
 | _=>false
@[simp] theorem gS3:GS 3=[0,1,2,4,5,6,7,8,9,10,11,12,13,14,15,16,21,26,54,59,64,84,95,100,103,121,126,131,134]:=(rfl)
@[simp] theorem oA4:bU 4=false:=(rfl)
@[simp] theorem kR4:keepR 4=false:=(rfl)
@[simp] theorem gS4:GS 4=[0,1,2,4,10,16,22]:=(rfl)
@[simp] theorem kR5:keepR 5=false:=(rfl)
@[simp] theorem gS5:GS 5=[0,1,4,5,11,15,25]:=(rfl)
@[simp] theorem kR6:keepR 6=false:=(rfl)
@[simp] theorem gS6:GS 6=[0,1,2,4,5,6,7,8,9,10,11,12,13,15,19,26,50,68]:=(rfl)
@[simp] theorem oA7:bU 7=false:=(rfl)
@[simp] theorem gS7:GS 7=[0,1,2,3]:=(rfl)
@[simp] theorem gS8:GS 8=[0,2,3,4,11]:=(rfl)
@[simp] theorem gS9:GS 9=[0,1,2,3,4,5,6,7,8,9,10,11,12,13,18,26,27,36,42]:=(rfl)
@[simp] theorem AmR:bU 10=false:=(rfl)
@[simp] theorem AoZ:keepR 10=false:=(rfl)
@[simp] theorem ArO:GS 10=[0,1,2,3,4,9,14,20,26,32]:=(rfl)
@[simp] theorem AoY:keepR 11=false:=(rfl)
@[simp] theorem ArN:GS 11=[0,1,2,3,4,9,15]:=(rfl)
@[simp] theorem AoX:keepR 12=false:=(rfl)
@[simp] theorem ArM:GS 12=[0,1,4,5,10,14,26]:=(rfl)
@[simp] theorem ArL:GS 13=[0,1,2,4]:=(rfl)
@[simp] theorem AoW:keepR 14=false:=(rfl)
@[simp] theorem ArK:GS 14=[0,1,4,5,9]:=(rfl)
@[simp] theorem ArJ:GS 15=[0,1,2,4]:=(rfl)
@[simp] theorem AoV:keepR 16=false:=(rfl)
@[simp] theorem ArI:GS 16=[0,1,2,4,10,16,22]:=(rfl)
@[simp] theorem AoU:keepR 17=false:=(rfl)
@[simp] theorem ArH:GS 17=[0,1,2,4,10]:=(rfl)
@[simp] theorem AmQ:bU 18=false:=(rfl)
@[simp] theorem AoT:keepR 18=false:=(rfl)
@[simp] theorem ArG:GS 18=[0,1,4,5,11,15,25]:=(rfl)
@[simp] theorem AmP:bU 19=false:=(rfl)
@[simp] theorem AoS:keepR 19=false:=(rfl)
@[simp] theorem ArF:GS 19=[0,1,4,10]:=(rfl)
@[simp] theorem AmO:bU 20=false:=(rfl)
@[simp] theorem AoR:keepR 20=false:=(rfl)
@[simp] theorem ArE:GS 20=[0,1,4,5,11,15,25]:=(rfl)
@[simp] theorem AmN:bU 21=false:=(rfl)
@[simp] theorem AoQ:keepR 21=false:=(rfl)
@[simp] theorem ArD:GS 21=[0,1,2,4,10,16]:=(rfl)
@[simp] theorem AmM:bU 22=false:=(rfl)
@[simp] theorem AoP:keepR 22=false:=(rfl)
@[simp] theorem ArC:GS 22=[0,1,2,4,5,6,11,25]:=(rfl)
@[simp] theorem AmL:bU 23=false:=(rfl)
@[simp] theorem AoO:keepR 23=true:=(rfl)
@[simp] theorem ArB:GS 23=[0,1,2,3,4,5,19,37]:=(rfl)
@[simp] theorem AmK:bU 24=false:=(rfl)
@[simp] theorem AoN:keepR 24=false:=(rfl)
@[simp] theorem ArA:GS 24=[0,1,2,4,5,6,14]:=(rfl)
@[simp] theorem AmJ:bU 25=false:=(rfl)
@[simp] theorem AoM:keepR 25=false:=(rfl)
@[simp] theorem Ar9:GS 25=[0,1,2,4,5,6,7,8,9,11,20,24,42]:=(rfl)
@[simp] theorem AmI:bU 26=false:=(rfl)
@[simp] theorem AoL:keepR 26=false:=(rfl)
@[simp] theorem Ar8:GS 26=[0,1,2,3,5,6,7,8,9,10,19,30,40]:=(rfl)
@[simp] theorem AmH:bU 27=false:=(rfl)
@[simp] theorem Ar7:GS 27=[0,2,3,4,11]:=(rfl)
@[simp] theorem AmG:bU 28=false:=(rfl)
@[simp] theorem Ar6:GS 28=[0,2,3,4,11]:=(rfl)
@[simp] theorem AmF:bU 29=false:=(rfl)
@[simp] theorem Ar5:GS 29=[0,2,3,4,11]:=(rfl)
@[simp] theorem AmE:bU 30=false:=(rfl)
@[simp] theorem Ar4:GS 30=[0,1,2,3]:=(rfl)
@[simp] theorem AoK:keepR 31=false:=(rfl)
@[simp] theorem Ar3:GS 31=[0,1,2,4,6]:=(rfl)
@[simp] theorem AmD:bU 32=false:=(rfl)
@[simp] theorem AoJ:keepR 32=false:=(rfl)
@[simp] theorem Ar2:GS 32=[0,2,3,4,6,7,8]:=(rfl)
@[simp] theorem Ar1:GS 33=[0,2,3,4,5,6,7,14,38,39,40,76,77,78]:=(rfl)
@[simp] theorem AmC:bU 34=false:=(rfl)
@[simp] theorem AoI:keepR 34=true:=(rfl)
@[simp] theorem Ar0:GS 34=[0,1,2,3,4]:=(rfl)
@[simp] theorem AqZ:GS 35=[0,1,2,3,5,6,7,8,9,10,11,15,21,36]:=(rfl)
@[simp] theorem AmB:bU 36=false:=(rfl)
@[simp] theorem AoH:keepR 36=false:=(rfl)
@[simp] theorem AqY:GS 36=[0,1,4,5,10,14,26]:=(rfl)
@[simp] theorem AmA:bU 37=false:=(rfl)
@[simp] theorem AoG:keepR 37=false:=(rfl)
@[simp] theorem AqX:GS 37=[0,1,4,5,10,14,25]:=(rfl)
@[simp] theorem Am9:bU 38=false:=(rfl)
@[simp] theorem AoF:keepR 38=false:=(rfl)
@[simp] theorem AqW:GS 38=[0,1,4,5,10,14,26]:=(rfl)
@[simp] theorem Am8:bU 39=false:=(rfl)
@[simp] theorem AoE:keepR 39=false:=(rfl)
@[simp] theorem AqV:GS 39=[0,1,2,3,4,9,15,21]:=(rfl)
@[simp] theorem AoD:keepR 40=false:=(rfl)
@[simp] theorem AqU:GS 40=[0,1,4,5,9]:=(rfl)
@[simp] theorem AoC:keepR 41=false:=(rfl)
@[simp] theorem AqT:GS 41=[0,1,4,5,9]:=(rfl)
@[simp] theorem AoB:keepR 42=false:=(rfl)
@[simp] theorem AqS:GS 42=[0,1,4,5,9]:=(rfl)
@[simp] theorem Am7:bU 43=false:=(rfl)
@[simp] theorem AoA:keepR 43=false:=(rfl)
@[simp] theorem AqR:GS 43=[0,1,4,5,9,18,27,39,49,60]:=(rfl)
@[simp] theorem Am6:bU 44=false:=(rfl)
@[simp] theorem Ao9:keepR 44=false:=(rfl)
@[simp] theorem AqQ:GS 44=[0,1,4,5,9,17]:=(rfl)
@[simp] theorem Am5:bU 45=false:=(rfl)
@[simp] theorem Ao8:keepR 45=false:=(rfl)
@[simp] theorem AqP:GS 45=[0,1,4,5,9,18,27,38,47,56]:=(rfl)
@[simp] theorem Am4:bU 46=false:=(rfl)
@[simp] theorem Ao7:keepR 46=false:=(rfl)
@[simp] theorem AqO:GS 46=[0,1,2,4,10]:=(rfl)
@[simp] theorem Am3:bU 47=false:=(rfl)
@[simp] theorem Ao6:keepR 47=false:=(rfl)
@[simp] theorem AqN:GS 47=[0,1,2,4]:=(rfl)
@[simp] theorem Am2:bU 48=false:=(rfl)
@[simp] theorem Ao5:keepR 48=false:=(rfl)
@[simp] theorem AqM:GS 48=[0,1,2,4,7]:=(rfl)
@[simp] theorem Am1:bU 49=false:=(rfl)
@[simp] theorem Ao4:keepR 49=false:=(rfl)
@[simp] theorem AqL:GS 49=[0,1,2,3,4,16]:=(rfl)
@[simp] theorem Am0:bU 50=false:=(rfl)
@[simp] theorem Ao3:keepR 50=false:=(rfl)
@[simp] theorem AqK:GS 50=[0,1,2,4,5,6,9,23,24,31,56,77,82,93,98]:=(rfl)
@[simp] theorem AlZ:bU 51=true:=(rfl)
@[simp] theorem Ao2:keepR 51=true:=(rfl)
@[simp] theorem AqJ:GS 51=[0,1,2,4,6,7,18]:=(rfl)
@[simp] theorem AlY:bU 52=false:=(rfl)
@[simp] theorem Ao1:keepR 52=false:=(rfl)
@[simp] theorem AqI:GS 52=[0,1,2,4,5,6,10,22]:=(rfl)
@[simp] theorem AlX:bU 53=false:=(rfl)
@[simp] theorem Ao0:keepR 53=false:=(rfl)
@[simp] theorem AqH:GS 53=[0,1,2,3,6,7,8,9,10,11,12,13,14,24,71,99,120]:=(rfl)
@[simp] theorem AlW:bU 54=false:=(rfl)
@[simp] theorem AnZ:keepR 54=false:=(rfl)
@[simp] theorem AqG:GS 54=[0,1,2,3,5,6,7,10]:=(rfl)
@[simp] theorem AlV:bU 55=false:=(rfl)
@[simp] theorem AnY:keepR 55=false:=(rfl)
@[simp] theorem AqF:GS 55=[0,1,2,3,6,7,8,9,23,28,41,47,48,55,61,70,74,82,106,114,122,126,131,144]:=(rfl)
@[simp] theorem AlU:bU 56=false:=(rfl)
@[simp] theorem AqE:GS 56=[0,1,2,3]:=(rfl)
@[simp] theorem AlT:bU 57=false:=(rfl)
@[simp] theorem AnX:keepR 57=false:=(rfl)
@[simp] theorem AqD:GS 57=[0,1,4,5,6,7,8,11,13,14,15,28,36]:=(rfl)
@[simp] theorem AlS:bU 58=false:=(rfl)
@[simp] theorem AnW:keepR 58=true:=(rfl)
@[simp] theorem AqC:GS 58=[0,2,3,6]:=(rfl)
@[simp] theorem AlR:bU 59=true:=(rfl)
@[simp] theorem AqB:GS 59=[0,2,3,4,5,6,13,37,38,39]:=(rfl)
@[simp] theorem AlQ:bU 60=false:=(rfl)
@[simp] theorem AnV:keepR 60=true:=(rfl)
@[simp] theorem AqA:GS 60=[0,2,3,6]:=(rfl)
@[simp] theorem AlP:bU 61=false:=(rfl)
@[simp] theorem AnU:keepR 61=true:=(rfl)
@[simp] theorem Aq9:GS 61=[0,2,3,6]:=(rfl)
@[simp] theorem AnT:keepR 62=false:=(rfl)
@[simp] theorem Aq8:GS 62=[0,1,2]:=(rfl)
@[simp] theorem AlO:bU 63=false:=(rfl)
@[simp] theorem AnS:keepR 63=false:=(rfl)
@[simp] theorem Aq7:GS 63=[0,1,2,3,8,9,11,12,14,28,35,40,41,42,58]:=(rfl)
@[simp] theorem AlN:bU 64=false:=(rfl)
@[simp] theorem AnR:keepR 64=false:=(rfl)
@[simp] theorem Aq6:GS 64=[0,1,2,4,7]:=(rfl)
@[simp] theorem AlM:bU 65=false:=(rfl)
@[simp] theorem AnQ:keepR 65=false:=(rfl)
@[simp] theorem Aq5:GS 65=[0,1,4,6,9,10,11,12,13,26]:=(rfl)
@[simp] theorem AlL:bU 66=false:=(rfl)
@[simp] theorem AnP:keepR 66=false:=(rfl)
@[simp] theorem Aq4:GS 66=[0,1,2,3,8,9,10,11,12,19,37]:=(rfl)
@[simp] theorem AlK:bU 67=false:=(rfl)
@[simp] theorem AnO:keepR 67=false:=(rfl)
@[simp] theorem Aq3:GS 67=[0,1,2,3,4,9,14,20,26]:=(rfl)
@[simp] theorem AlJ:bU 68=false:=(rfl)
@[simp] theorem AnN:keepR 68=false:=(rfl)
@[simp] theorem Aq2:GS 68=[0,1,2,6]:=(rfl)
@[simp] theorem AlI:bU 69=false:=(rfl)
@[simp] theorem AnM:keepR 69=false:=(rfl)
@[simp] theorem Aq1:GS 69=[0,1,2,4,5,23,26,54]:=(rfl)
@[simp] theorem AlH:bU 70=false:=(rfl)
@[simp] theorem AnL:keepR 70=false:=(rfl)
@[simp] theorem Aq0:GS 70=[0,2,3,7,15]:=(rfl)
@[simp] theorem AlG:bU 71=false:=(rfl)
@[simp] theorem AnK:keepR 71=false:=(rfl)
@[simp] theorem ApZ:GS 71=[0,1,2,3,4,5,6,8,9,17,26,42,64,88,96,98,110]:=(rfl)
@[simp] theorem AlF:bU 72=false:=(rfl)
@[simp] theorem AnJ:keepR 72=false:=(rfl)
@[simp] theorem ApY:GS 72=[0,1,2,4,5,13,27]:=(rfl)
@[simp] theorem AlE:bU 73=false:=(rfl)
@[simp] theorem AnI:keepR 73=false:=(rfl)
@[simp] theorem ApX:GS 73=[0,1,2,3,6,7,8,9,10,11,12,13,14,26,42,62,81,112,150,169,190,212]:=(rfl)
@[simp] theorem AlD:bU 74=false:=(rfl)
@[simp] theorem AnH:keepR 74=true:=(rfl)
@[simp] theorem ApW:GS 74=[0,1,4,5,6,10]:=(rfl)
@[simp] theorem AlC:bU 75=false:=(rfl)
@[simp] theorem AnG:keepR 75=false:=(rfl)
@[simp] theorem ApV:GS 75=[0,1,2,4,5,6,9,27]:=(rfl)
@[simp] theorem AlB:bU 76=false:=(rfl)
@[simp] theorem AnF:keepR 76=false:=(rfl)
@[simp] theorem ApU:GS 76=[0,1,2,3,4,6,7,9,12,14,16]:=(rfl)
@[simp] theorem AlA:bU 77=false:=(rfl)
@[simp] theorem AnE:keepR 77=false:=(rfl)
@[simp] theorem ApT:GS 77=[0,1,2,4]:=(rfl)
@[simp] theorem Al9:bU 78=false:=(rfl)
@[simp] theorem AnD:keepR 78=false:=(rfl)
@[simp] theorem ApS:GS 78=[0,1,4,5,9,18,21]:=(rfl)
@[simp] theorem Al8:bU 79=false:=(rfl)
@[simp] theorem AnC:keepR 79=false:=(rfl)
@[simp] theorem ApR:GS 79=[0,1,4,5,9,35]:=(rfl)
@[simp] theorem Al7:bU 80=false:=(rfl)
@[simp] theorem AnB:keepR 80=false:=(rfl)
@[simp] theorem ApQ:GS 80=[0,1,2,3]:=(rfl)
@[simp] theorem Al6:bU 81=false:=(rfl)
@[simp] theorem AnA:keepR 81=false:=(rfl)
@[simp] theorem ApP:GS 81=[0,1,2,4,5,18,30,31,32,33,50,72]:=(rfl)
@[simp] theorem An9:keepR 82=false:=(rfl)
@[simp] theorem ApO:GS 82=[0,1,2,6,7,8,9,10,15,16,17,36,37,47,62,82,103,108,116,123]:=(rfl)
@[simp] theorem Al5:bU 83=false:=(rfl)
@[simp] theorem An8:keepR 83=false:=(rfl)
@[simp] theorem ApN:GS 83=[0,2,4,12,13,14,15,16,21]:=(rfl)
@[simp] theorem Al4:bU 84=false:=(rfl)
@[simp] theorem An7:keepR 84=false:=(rfl)
@[simp] theorem ApM:GS 84=[0,1,2,6,7,8,9,10,31,60,87,92,106,118,119,120,137]:=(rfl)
@[simp] theorem Al3:bU 85=false:=(rfl)
@[simp] theorem An6:keepR 85=false:=(rfl)
@[simp] theorem ApL:GS 85=[0,4,5,6,7,8,16]:=(rfl)
@[simp] theorem Al2:bU 86=false:=(rfl)
@[simp] theorem An5:keepR 86=false:=(rfl)
@[simp] theorem ApK:GS 86=[0,4,5,6,21]:=(rfl)
@[simp] theorem Al1:bU 87=false:=(rfl)
@[simp] theorem An4:keepR 87=false:=(rfl)
@[simp] theorem ApJ:GS 87=[0,1,4,5,6,7,8,16,38]:=(rfl)
@[simp] theorem Al0:bU 88=false:=(rfl)
@[simp] theorem An3:keepR 88=false:=(rfl)
@[simp] theorem ApI:GS 88=[0,1,4,5,6,7,8,9,10,18,34]:=(rfl)
@[simp] theorem AkZ:bU 89=false:=(rfl)
@[simp] theorem An2:keepR 89=false:=(rfl)
@[simp] theorem ApH:GS 89=[0,4,5,6,7,8,16]:=(rfl)
@[simp] theorem AkY:bU 90=false:=(rfl)
@[simp] theorem An1:keepR 90=false:=(rfl)
@[simp] theorem ApG:GS 90=[0,1,4,5,6,7,8,9,10,15,37,38,39]:=(rfl)
@[simp] theorem AkX:bU 91=false:=(rfl)
@[simp] theorem An0:keepR 91=false:=(rfl)
@[simp] theorem ApF:GS 91=[0,1,4,5,6,7,8,9,10,11,19,36,49]:=(rfl)
@[simp] theorem AkW:bU 92=false:=(rfl)
@[simp] theorem AmZ:keepR 92=false:=(rfl)
@[simp] theorem ApE:GS 92=[0,4,5,6,7,8,16]:=(rfl)
@[simp] theorem AkV:bU 93=false:=(rfl)
@[simp] theorem AmY:keepR 93=false:=(rfl)
@[simp] theorem ApD:GS 93=[0,4,5,30]:=(rfl)
@[simp] theorem AkU:bU 94=false:=(rfl)
@[simp] theorem AmX:keepR 94=false:=(rfl)
@[simp] theorem ApC:GS 94=[0,1,4,5,6,7,8,9,17]:=(rfl)
@[simp] theorem AkT:bU 95=false:=(rfl)
@[simp] theorem AmW:keepR 95=false:=(rfl)
@[simp] theorem ApB:GS 95=[0,1,4,5,6,7,8,9,10,11,26,50,51,52,71]:=(rfl)
@[simp] theorem AkS:bU 96=false:=(rfl)
@[simp] theorem AmV:keepR 96=false:=(rfl)
@[simp] theorem Ap9:GS 96=[0,1,2,3,4,9,14]:=(rfl)
@[simp] theorem AkR:bU 97=false:=(rfl)
@[simp] theorem AmU:keepR 97=false:=(rfl)
@[simp] theorem Ap8:GS 97=[0,2,3]:=(rfl)
@[simp] theorem AkQ:bU 98=false:=(rfl)
@[simp] theorem AmT:keepR 98=false:=(rfl)
@[simp] theorem Ap7:GS 98=[0,1,2,3,6]:=(rfl)
@[simp] theorem AkP:bU 99=false:=(rfl)
@[simp] theorem AmS:keepR 99=false:=(rfl)
@[simp] theorem Ap6:GS 99=[0,1,2,4,15]:=(rfl)
@[simp] theorem AfU:bU 100=false:=(rfl)
@[simp] theorem AhF:keepR 100=false:=(rfl)
@[simp] theorem Aj9:GS 100=[0,1,2,3,4]:=(rfl)
@[simp] theorem AfT:bU 101=false:=(rfl)
@[simp] theorem AhE:keepR 101=false:=(rfl)
@[simp] theorem Aj8:GS 101=[0,1,2,3,6,7]:=(rfl)
@[simp] theorem AfS:bU 102=false:=(rfl)
@[simp] theorem AhD:keepR 102=false:=(rfl)
@[simp] theorem Aj7:GS 102=[0,1,2,3,6]:=(rfl)
@[simp] theorem AfR:bU 103=false:=(rfl)
@[simp] theorem AhC:keepR 103=false:=(rfl)
@[simp] theorem Aj6:GS 103=[0,1,4,5,6,11]:=(rfl)
@[simp] theorem AfQ:bU 104=false:=(rfl)
@[simp] theorem AhB:keepR 104=false:=(rfl)
@[simp] theorem Aj5:GS 104=[0,1,2,3,6,7,24,29,41,43,44,57]:=(rfl)
@[simp] theorem AfP:bU 105=false:=(rfl)
@[simp] theorem AhA:keepR 105=false:=(rfl)
@[simp] theorem Aj4:GS 105=[0,2]:=(rfl)
@[simp] theorem AfO:bU 106=false:=(rfl)
@[simp] theorem Ah9:keepR 106=false:=(rfl)
@[simp] theorem Aj3:GS 106=[0,2,6,7,11,27]:=(rfl)
@[simp] theorem AfN:bU 107=false:=(rfl)
@[simp] theorem Ah8:keepR 107=false:=(rfl)
@[simp] theorem Aj2:GS 107=[0,1,4,5,6,10,11,15,25,46,59,64,66,82]:=(rfl)
@[simp] theorem AfM:bU 108=false:=(rfl)
@[simp] theorem Ah7:keepR 108=false:=(rfl)
@[simp] theorem Aj1:GS 108=[0,2,3,4,5,7,10,13,15]:=(rfl)
@[simp] theorem AfL:bU 109=false:=(rfl)
@[simp] theorem Ah6:keepR 109=false:=(rfl)
@[simp] theorem Aj0:GS 109=[0,1,2,6,7,8,13,14,21,22,26,27,35,46,47,48,59,65]:=(rfl)
@[simp] theorem AfK:bU 110=false:=(rfl)
@[simp] theorem Ah5:keepR 110=false:=(rfl)
@[simp] theorem AiZ:GS 110=[0,1,4,5,6,22]:=(rfl)
@[simp] theorem AfJ:bU 111=false:=(rfl)
@[simp] theorem Ah4:keepR 111=false:=(rfl)
@[simp] theorem AiY:GS 111=[0,1,2,3,4]:=(rfl)
@[simp] theorem AfI:bU 112=false:=(rfl)
@[simp] theorem Ah3:keepR 112=false:=(rfl)
@[simp] theorem AiX:GS 112=[0,1,2,3,4]:=(rfl)
@[simp] theorem AfH:bU 113=false:=(rfl)
@[simp] theorem Ah2:keepR 113=false:=(rfl)
@[simp] theorem AiW:GS 113=[0,2,3,4,9,19,20,21]:=(rfl)
@[simp] theorem AfG:bU 114=false:=(rfl)
@[simp] theorem Ah1:keepR 114=false:=(rfl)
@[simp] theorem AiV:GS 114=[0,1,2,3,5,6,7,8]:=(rfl)
@[simp] theorem AfF:bU 115=false:=(rfl)
@[simp] theorem Ah0:keepR 115=false:=(rfl)
@[simp] theorem AiU:GS 115=[0,1,3,4]:=(rfl)
@[simp] theorem AfE:bU 116=true:=(rfl)
@[simp] theorem AgZ:keepR 116=false:=(rfl)
@[simp] theorem AiT:GS 116=[0,1,3]:=(rfl)
@[simp] theorem AfD:bU 117=true:=(rfl)
@[simp] theorem AgY:keepR 117=false:=(rfl)
@[simp] theorem AiS:GS 117=[0,1,2,4,7]:=(rfl)
@[simp] theorem AfC:bU 118=false:=(rfl)
@[simp] theorem AgX:keepR 118=false:=(rfl)
@[simp] theorem AiR:GS 118=[0,2]:=(rfl)
@[simp] theorem AfB:bU 119=false:=(rfl)
@[simp] theorem AgW:keepR 119=false:=(rfl)
@[simp] theorem AiQ:GS 119=[0,1,2,3,6,7,8,10,14,18,19,20,26,27,28,29,38]:=(rfl)
@[simp] theorem AfA:bU 120=false:=(rfl)
@[simp] theorem AgV:keepR 120=false:=(rfl)
@[simp] theorem AiP:GS 120=[0,1,2,3,4,6,7,8,9,14,20,21,22,30,42]:=(rfl)
@[simp] theorem Af9:bU 121=false:=(rfl)
@[simp] theorem AgU:keepR 121=false:=(rfl)
@[simp] theorem AiO:GS 121=[0,1,3,4,5,8,17]:=(rfl)
@[simp] theorem Af8:bU 122=false:=(rfl)
@[simp] theorem AgT:keepR 122=false:=(rfl)
@[simp] theorem AiN:GS 122=[0,1,2,4,5,6,7,9,10,17,29,30,42,46,49,66,76,84,89]:=(rfl)
@[simp] theorem Af7:bU 123=false:=(rfl)
@[simp] theorem AgS:keepR 123=false:=(rfl)
@[simp] theorem AiM:GS 123=[0,1,4,5,6,7,8,12,18,26]:=(rfl)
@[simp] theorem Af6:bU 124=false:=(rfl)
@[simp] theorem AgR:keepR 124=false:=(rfl)
@[simp] theorem AiL:GS 124=[0,2,3,4,7,10]:=(rfl)
@[simp] theorem Af5:bU 125=false:=(rfl)
@[simp] theorem AgQ:keepR 125=false:=(rfl)
@[simp] theorem AiK:GS 125=[0,1,2]:=(rfl)
@[simp] theorem Af4:bU 126=false:=(rfl)
@[simp] theorem AgP:keepR 126=false:=(rfl)
@[simp] theorem AiJ:GS 126=[0,2,8]:=(rfl)
@[simp] theorem Af3:bU 127=false:=(rfl)
@[simp] theorem AgO:keepR 127=false:=(rfl)
@[simp] theorem AiI:GS 127=[0,1,4,5,6,35,53]:=(rfl)
@[simp] theorem Af2:bU 128=false:=(rfl)
@[simp] theorem AgN:keepR 128=false:=(rfl)
@[simp] theorem AiH:GS 128=[0,1,4,5,7,10,11,12,13,14,24]:=(rfl)
@[simp] theorem Af1:bU 129=false:=(rfl)
@[simp] theorem AgM:keepR 129=false:=(rfl)
@[simp] theorem AiG:GS 129=[0,1,2,4]:=(rfl)
@[simp] theorem Af0:bU 130=false:=(rfl)
@[simp] theorem AgL:keepR 130=false:=(rfl)
@[simp] theorem AiF:GS 130=[0,1,4,5,6,12,39,40,41]:=(rfl)
@[simp] theorem AeZ:bU 131=true:=(rfl)
@[simp] theorem AgK:keepR 131=false:=(rfl)
@[simp] theorem AiE:GS 131=[0,1,3,8]:=(rfl)
@[simp] theorem AeY:bU 132=false:=(rfl)
@[simp] theorem AgJ:keepR 132=false:=(rfl)
@[simp] theorem AiD:GS 132=[0,1,4,5,6,10,11,20,37,38,50,54,59]:=(rfl)
@[simp] theorem AeX:bU 133=false:=(rfl)
@[simp] theorem AgI:keepR 133=false:=(rfl)
@[simp] theorem AiC:GS 133=[0,2,3,4,9,10,11]:=(rfl)
@[simp] theorem AeW:bU 134=false:=(rfl)
@[simp] theorem AgH:keepR 134=false:=(rfl)
@[simp] theorem AiB:GS 134=[0,1,2,6,7,27,32,33,34,46]:=(rfl)
@[simp] theorem AeV:bU 135=true:=(rfl)
@[simp] theorem AgG:keepR 135=false:=(rfl)
@[simp] theorem AiA:GS 135=[0,1,3,8]:=(rfl)
@[simp] theorem AeU:bU 136=false:=(rfl)
@[simp] theorem AgF:keepR 136=false:=(rfl)
@[simp] theorem Ai9:GS 136=[0,1,4,5,6,18,32]:=(rfl)
@[simp] theorem AeT:bU 137=false:=(rfl)
@[simp] theorem AgE:keepR 137=false:=(rfl)
@[simp] theorem Ai8:GS 137=[0,1,2,3,6]:=(rfl)
@[simp] theorem AeS:bU 138=false:=(rfl)
@[simp] theorem AgD:keepR 138=false:=(rfl)
@[simp] theorem Ai7:GS 138=[0,1,2,6,7,8,9,11,15,29]:=(rfl)
@[simp] theorem AeR:bU 139=false:=(rfl)
@[simp] theorem AgC:keepR 139=false:=(rfl)
@[simp] theorem Ai6:GS 139=[0,1,2,3,6]:=(rfl)
@[simp] theorem AeQ:bU 140=false:=(rfl)
@[simp] theorem AgB:keepR 140=false:=(rfl)
@[simp] theorem Ai5:GS 140=[0,1,2,6,7,8,28,62,90,95,96,97,109]:=(rfl)
@[simp] theorem AeP:bU 141=false:=(rfl)
@[simp] theorem AgA:keepR 141=false:=(rfl)
@[simp] theorem Ai4:GS 141=[0,1,2,3,6]:=(rfl)
@[simp] theorem AeO:bU 142=false:=(rfl)
@[simp] theorem Ag9:keepR 142=false:=(rfl)
@[simp] theorem Ai3:GS 142=[0,1,2,6,7,9,11,17,19,20,21,22,26,27,28,29,46,54,66]:=(rfl)
@[simp] theorem AeN:bU 143=false:=(rfl)
@[simp] theorem Ag8:keepR 143=false:=(rfl)
@[simp] theorem Ai2:GS 143=[0,1,2,4,5,6,7,8,16,32,34,35,43,51,59]:=(rfl)
@[simp] theorem AeM:bU 144=false:=(rfl)
@[simp] theorem Ag7:keepR 144=false:=(rfl)
@[simp] theorem Ai1:GS 144=[0,2,3,4,7]:=(rfl)
@[simp] theorem AeL:bU 145=false:=(rfl)
@[simp] theorem Ag6:keepR 145=false:=(rfl)
@[simp] theorem Ai0:GS 145=[0,2,3,4,7,10]:=(rfl)
@[simp] theorem AeK:bU 146=false:=(rfl)
@[simp] theorem Ag5:keepR 146=false:=(rfl)
@[simp] theorem AhZ:GS 146=[0,1,2,4]:=(rfl)
@[simp] theorem AeJ:bU 147=false:=(rfl)
@[simp] theorem Ag4:keepR 147=false:=(rfl)
@[simp] theorem AhY:GS 147=[0,2,3,5,9,10,11,12,19]:=(rfl)
@[simp] theorem AeI:bU 148=false:=(rfl)
@[simp] theorem Ag3:keepR 148=false:=(rfl)
@[simp] theorem AhX:GS 148=[0,1,2,4,5,6,7,16,25,33,34,42,50,58]:=(rfl)
@[simp] theorem AeH:bU 149=false:=(rfl)
@[simp] theorem Ag2:keepR 149=false:=(rfl)
@[simp] theorem AhW:GS 149=[0,2,4]:=(rfl)
@[simp] theorem AeG:bU 150=false:=(rfl)
@[simp] theorem Ag1:keepR 150=false:=(rfl)
@[simp] theorem AhV:GS 150=[0,1,4,5,12]:=(rfl)
@[simp] theorem AeF:bU 151=false:=(rfl)
@[simp] theorem Ag0:keepR 151=false:=(rfl)
@[simp] theorem AhU:GS 151=[0,2,4]:=(rfl)
@[simp] theorem AeE:bU 153=false:=(rfl)
@[simp] theorem AfZ:keepR 153=false:=(rfl)
@[simp] theorem AhT:GS 153=[0,2]:=(rfl)
@[simp] theorem AeD:bU 154=false:=(rfl)
@[simp] theorem AfY:keepR 154=false:=(rfl)
@[simp] theorem AhS:GS 154=[0]:=(rfl)
@[simp] theorem AeC:bU 155=false:=(rfl)
@[simp] theorem AfX:keepR 155=false:=(rfl)
@[simp] theorem AhR:GS 155=[0,2,4]:=(rfl)
@[simp] theorem AeB:bU 156=false:=(rfl)
@[simp] theorem AfW:keepR 156=false:=(rfl)
@[simp] theorem AhQ:GS 156=[0,2,3,7]:=(rfl)
@[simp] theorem AeA:bU 157=false:=(rfl)
@[simp] theorem AfV:keepR 157=false:=(rfl)
@[simp] theorem AhP:GS 157=[0,2,3]:=(rfl)
@[simp] theorem ArP:ED 84=true:=(rfl)
noncomputable def ARR:FuncId→Option (List AV→StL→Option (AV×StL))
 | 59=>some Z6
 | 33=>some ANC
 | _=>none
noncomputable def C0:Ctx:={ P:=Tryz.prog,G:=GS,ownArgs:=bU,keepRes:=keepR,eqT:=ED,prim:=ARR }
@[simp] theorem dk3:bJ Tryz.prog 3=some (.int .i64):=by kernel_rfl
@[simp] theorem sz3:iF Tryz.prog 3=some 1:=by kernel_rfl
@[simp] theorem by3:ZG Tryz.prog 3=some 8:=by kernel_rfl
@[simp] theorem ze3:zeroOf Tryz.prog 3=some [(.int .i64 0)]:=by kernel_rfl
@[simp] theorem dk4:bJ Tryz.prog 4=some .bool:=by kernel_rfl
@[simp] theorem sz4:iF Tryz.prog 4=some 1:=by kernel_rfl
@[simp] theorem sz6:iF Tryz.prog 6=some 1:=by kernel_rfl
@[simp] theorem AcD:iF Tryz.prog 10=some 1:=by kernel_rfl
@[simp] theorem AcC:iF Tryz.prog 11=some 1:=by kernel_rfl
@[simp] theorem As9:bJ Tryz.prog 22=some (.slice 81):=by kernel_rfl
@[simp] theorem AkM:iF Tryz.prog 22=some 1:=by kernel_rfl
@[simp] theorem As8:bJ Tryz.prog 23=some (.slice 3):=by kernel_rfl
@[simp] theorem AkL:iF Tryz.prog 23=some 1:=by kernel_rfl
@[simp] theorem AsG:ZG Tryz.prog 23=some 24:=by kernel_rfl
@[simp] theorem Ak6:zeroOf Tryz.prog 23=some [(.slice none 0 0)]:=by kernel_rfl
@[simp] theorem As7:bJ Tryz.prog 24=some (.slice 26):=by kernel_rfl
@[simp] theorem AkK:iF Tryz.prog 24=some 1:=by kernel_rfl
@[simp] theorem As6:bJ Tryz.prog 26=some .strct:=by kernel_rfl
@[simp] theorem AkJ:iF Tryz.prog 26=some 5:=by kernel_rfl
@[simp] theorem AdM:dM Tryz.prog 26 0=some (3,0):=by kernel_rfl
@[simp] theorem AdL:dM Tryz.prog 26 1=some (3,1):=by kernel_rfl
@[simp] theorem AdK:dM Tryz.prog 26 2=some (22,2):=by kernel_rfl
@[simp] theorem AdJ:dM Tryz.prog 26 3=some (23,3):=by kernel_rfl
@[simp] theorem AdI:dM Tryz.prog 26 4=some (24,4):=by kernel_rfl
@[simp] theorem As5:bJ Tryz.prog 27=some (.slice 53):=by kernel_rfl
@[simp] theorem As4:bJ Tryz.prog 30=some (.slice 86):=by kernel_rfl
@[simp] theorem AkI:iF Tryz.prog 30=some 1:=by kernel_rfl
@[simp] theorem As3:bJ Tryz.prog 31=some (.slice 33):=by kernel_rfl
@[simp] theorem AkH:iF Tryz.prog 31=some 1:=by kernel_rfl
@[simp] theorem As2:bJ Tryz.prog 33=some .strct:=by kernel_rfl
@[simp] theorem AkG:iF Tryz.prog 33=some 5:=by kernel_rfl
@[simp] theorem AsF:ZG Tryz.prog 33=some 88:=by kernel_rfl
@[simp] theorem Ak5:zeroOf Tryz.prog 33=some [(.int .i64 0),(.int .i64 0),(.slice none 0 0),(.slice none 0 0),(.slice none 0 0)]:=by kernel_rfl
@[simp] theorem AdH:dM Tryz.prog 33 0=some (3,0):=by kernel_rfl
@[simp] theorem AdG:dM Tryz.prog 33 1=some (3,1):=by kernel_rfl
@[simp] theorem AdF:dM Tryz.prog 33 2=some (30,2):=by kernel_rfl
@[simp] theorem AdE:dM Tryz.prog 33 3=some (23,3):=by kernel_rfl
@[simp] theorem AdD:dM Tryz.prog 33 4=some (31,4):=by kernel_rfl
@[simp] theorem As1:bJ Tryz.prog 35=some .strct:=by kernel_rfl
@[simp] theorem AkF:iF Tryz.prog 35=some 2:=by kernel_rfl
@[simp] theorem AsE:ZG Tryz.prog 35=some 32:=by kernel_rfl
@[simp] theorem Ak4:zeroOf Tryz.prog 35=some [(.int .i64 0),(.slice none 0 0)]:=by kernel_rfl
@[simp] theorem AdC:dM Tryz.prog 35 0=some (3,0):=by kernel_rfl
@[simp] theorem AdB:dM Tryz.prog 35 1=some (23,1):=by kernel_rfl
@[simp] theorem As0:bJ Tryz.prog 39=some (.slice 55):=by kernel_rfl
@[simp] theorem AkE:iF Tryz.prog 39=some 1:=by kernel_rfl
@[simp] theorem ArZ:bJ Tryz.prog 53=some .strct:=by kernel_rfl
@[simp] theorem AkD:iF Tryz.prog 53=some 3:=by kernel_rfl
@[simp] theorem AdA:dM Tryz.prog 53 0=some (3,0):=by kernel_rfl
@[simp] theorem Ad9:dM Tryz.prog 53 1=some (23,1):=by kernel_rfl
@[simp] theorem Ad8:dM Tryz.prog 53 2=some (23,2):=by kernel_rfl
@[simp] theorem ArY:bJ Tryz.prog 55=some .strct:=by kernel_rfl
@[simp] theorem AkC:iF Tryz.prog 55=some 3:=by kernel_rfl
@[simp] theorem AsD:ZG Tryz.prog 55=some 56:=by kernel_rfl
@[simp] theorem Ak3:zeroOf Tryz.prog 55=some [(.int .i64 0),(.slice none 0 0),(.slice none 0 0)]:=by kernel_rfl
@[simp] theorem Ad7:dM Tryz.prog 55 0=some (3,0):=by kernel_rfl
@[simp] theorem Ad6:dM Tryz.prog 55 1=some (23,1):=by kernel_rfl
@[simp] theorem Ad5:dM Tryz.prog 55 2=some (23,2):=by kernel_rfl
@[simp] theorem ArX:bJ Tryz.prog 58=some (.slice 35):=by kernel_rfl
@[simp] theorem ArW:bJ Tryz.prog 79=some .strct:=by kernel_rfl
@[simp] theorem AkB:iF Tryz.prog 79=some 2:=by kernel_rfl
@[simp] theorem Ad4:dM Tryz.prog 79 0=some (4,0):=by kernel_rfl
@[simp] theorem Ad3:dM Tryz.prog 79 1=some (3,1):=by kernel_rfl
@[simp] theorem ArV:bJ Tryz.prog 81=some .strct:=by kernel_rfl
@[simp] theorem AkA:iF Tryz.prog 81=some 5:=by kernel_rfl
@[simp] theorem Ad2:dM Tryz.prog 81 0=some (3,0):=by kernel_rfl
@[simp] theorem Ad1:dM Tryz.prog 81 1=some (3,1):=by kernel_rfl
@[simp] theorem Ad0:dM Tryz.prog 81 2=some (79,2):=by kernel_rfl
@[simp] theorem AcZ:dM Tryz.prog 81 3=some (22,4):=by kernel_rfl
@[simp] theorem ArU:bJ Tryz.prog 84=some .strct:=by kernel_rfl
@[simp] theorem Ak9:iF Tryz.prog 84=some 2:=by kernel_rfl
@[simp] theorem AsC:ZG Tryz.prog 84=some 16:=by kernel_rfl
@[simp] theorem Ak2:zeroOf Tryz.prog 84=some [(.bool false),(.int .i64 0)]:=by kernel_rfl
@[simp] theorem AcY:dM Tryz.prog 84 0=some (4,0):=by kernel_rfl
@[simp] theorem AcX:dM Tryz.prog 84 1=some (3,1):=by kernel_rfl
@[simp] theorem ArT:bJ Tryz.prog 86=some .strct:=by kernel_rfl
@[simp] theorem Ak8:iF Tryz.prog 86=some 5:=by kernel_rfl
@[simp] theorem AsB:ZG Tryz.prog 86=some 56:=by kernel_rfl
@[simp] theorem Ak1:zeroOf Tryz.prog 86=some [(.int .i64 0),(.int .i64 0),(.bool false),(.int .i64 0),(.slice none 0 0)]:=by kernel_rfl
@[simp] theorem AcW:dM Tryz.prog 86 0=some (3,0):=by kernel_rfl
@[simp] theorem AcV:dM Tryz.prog 86 1=some (3,1):=by kernel_rfl
@[simp] theorem AcU:dM Tryz.prog 86 2=some (84,2):=by kernel_rfl
@[simp] theorem AcT:dM Tryz.prog 86 3=some (30,4):=by kernel_rfl
@[simp] theorem ArS:bJ Tryz.prog 88=some (.slice 23):=by kernel_rfl
@[simp] theorem ArR:bJ Tryz.prog 97=some .other:=by kernel_rfl
@[simp] theorem Ap5:VI Tryz.prog 97=true:=by kernel_rfl
@[simp] theorem Ak7:iF Tryz.prog 97=some 1:=by kernel_rfl
@[simp] theorem AsA:ZG Tryz.prog 97=some 8:=by kernel_rfl
@[simp] theorem Ak0:zeroOf Tryz.prog 97=some [(.pointer none)]:=by kernel_rfl
@[simp] theorem ArQ:bJ Tryz.prog 98=some (.slice 97):=by kernel_rfl
@[simp] theorem AjG:bJ Tryz.prog 119=some .other:=by kernel_rfl
@[simp] theorem Ae3:iF Tryz.prog 119=some 1:=by kernel_rfl
@[simp] theorem AjJ:ZG Tryz.prog 119=some 8:=by kernel_rfl
@[simp] theorem AdX:zeroOf Tryz.prog 119=some [(.pointer none)]:=by kernel_rfl
@[simp] theorem AjF:bJ Tryz.prog 120=some (.slice 119):=by kernel_rfl
@[simp] theorem AjE:bJ Tryz.prog 121=some .other:=by kernel_rfl
@[simp] theorem Ae2:iF Tryz.prog 121=some 1:=by kernel_rfl
@[simp] theorem AjD:bJ Tryz.prog 122=some (.array 12 121):=by kernel_rfl
@[simp] theorem Ae1:iF Tryz.prog 122=some 12:=by kernel_rfl
@[simp] theorem AdW:zeroOf Tryz.prog 122=some [(.nilFunc),(.nilFunc),(.nilFunc),(.nilFunc),(.nilFunc),(.nilFunc),(.nilFunc),(.nilFunc),(.nilFunc),(.nilFunc),(.nilFunc),(.nilFunc)]:=by kernel_rfl
@[simp] theorem AjC:bJ Tryz.prog 132=some (.array 2 3):=by kernel_rfl
@[simp] theorem AdV:zeroOf Tryz.prog 132=some [(.int .i64 0),(.int .i64 0)]:=by kernel_rfl
@[simp] theorem AjB:bJ Tryz.prog 143=some .other:=by kernel_rfl
@[simp] theorem Ae0:iF Tryz.prog 143=some 1:=by kernel_rfl
@[simp] theorem AjA:bJ Tryz.prog 163=some (.slice 84):=by kernel_rfl
end Go.Proofs.YtgiepjdnkonkgaaGreat
namespace Go.Av
def fnT (fn:Func):Bool:=(fn.name != "runtime.NumGoroutine") && match fn.body with
 | some c=>codeOk fn.ntmps c
 | none=>true
theorem AEU {α:Type} {p:α→Bool} {l:List α} (c n:Nat) (hc:0<c) (hl:l.length≤c*n) (h:∀ i,i<n→((l.drop (c*i)).take c).all p=true):l.all p=true:=by
 rw[zQ];intro x hx;obtain⟨j,hj,rfl⟩:=List.getElem_of_mem hx;have hd:c*(j / c)+j % c=j:=Nat.div_add_mod j c;have hm:j % c<c:=Nat.mod_lt _ hc
 have hi:j / c<n:=by
  rw[Nat.div_lt_iff_lt_mul hc,yU];omega
 refine zQ.1 (h (j / c) hi) _ ?_;refine zU (i:=j % c) ?_;rw[zF,if_pos hm,yJ,hd,zX hj]
theorem AIJ {P:Program} (h:P.funcs.toList.all fnT=true):AB4 P=true:=h
end Go.Av
namespace Go.Proofs.YtgiepjdnkonkgaaGreat
open Go Go.Av
set_option maxHeartbeats 2000000
theorem ft:M7 Tryz.prog=true:=by kernel_rfl
theorem nt0:((Tryz.prog.funcs.toList.drop (25*0)).take 25).all fnT=true:=by kernel_rfl
theorem nt1:((Tryz.prog.funcs.toList.drop (25*1)).take 25).all fnT=true:=by kernel_rfl
theorem nt2:((Tryz.prog.funcs.toList.drop (25*2)).take 25).all fnT=true:=by kernel_rfl
theorem nt3:((Tryz.prog.funcs.toList.drop (25*3)).take 25).all fnT=true:=by kernel_rfl
theorem nt4:((Tryz.prog.funcs.toList.drop (25*4)).take 25).all fnT=true:=by kernel_rfl
theorem nt5:((Tryz.prog.funcs.toList.drop (25*5)).take 25).all fnT=true:=by kernel_rfl
theorem nt6:((Tryz.prog.funcs.toList.drop (25*6)).take 25).all fnT=true:=by kernel_rfl
theorem nt7:((Tryz.prog.funcs.toList.drop (25*7)).take 25).all fnT=true:=by kernel_rfl
theorem ntl:Tryz.prog.funcs.toList.length≤25*8:=zR (by kernel_rfl)
theorem nt:AB4 Tryz.prog=true:=AIJ (AEU 25 8 (by decide) ntl fun i hi=>by
 have h:i=0∨i=1∨i=2∨i=3∨i=4∨i=5∨i=6∨i=7:=by omega
 rcases h with rfl|rfl|rfl|rfl|rfl|rfl|rfl|rfl
 ·exact nt0
 ·exact nt1
 ·exact nt2
 ·exact nt3
 ·exact nt4
 ·exact nt5
 ·exact nt6
 ·exact nt7)
theorem mo:Tryz.prog.follows .mixedOrders=true:=by kernel_rfl
theorem eqS:∀ t,ED t=true→ABB Tryz.prog t=true:=by
 intro t h;unfold ED at h;split at h
 ·kernel_rfl
 ·kernel_rfl
 ·kernel_rfl
 ·cases h
@[simp] theorem C_P:C0.P=Tryz.prog:=(rfl)
@[simp] theorem C_G (f):C0.G f=GS f:=(rfl)
@[simp] theorem C_o (f):C0.ownArgs f=bU f:=(rfl)
@[simp] theorem C_k (f):C0.keepRes f=keepR f:=(rfl)
@[simp] theorem C_e (f):C0.eqT f=ED f:=(rfl)
@[simp] theorem C_t:C0.tree=false:=(rfl)
theorem wrap64 {x:Int} (h1:-9223372036854775808≤x) (h2:x<9223372036854775808):IntKind.i64.wrap x=x:=by
 unfold IntKind.wrap;simp[IntKind.signed,IntKind.bits];omega
theorem wrO {n:Int} (h1:-9223372036854775808≤n:=by omega) (h2:n<9223372036854775808:=by omega):IntKind.i64.wrap n=n:=wrap64 h1 h2
set_option maxHeartbeats 4000000
set_option maxRecDepth 4000
theorem VH (n:Int):n=1∨n=2∨n=3∨n=4∨n=5∨n=6∨n=7∨n=8∨n=9∨n=10∨n=11∨(n≠1∧n≠2∧n≠3∧n≠4∧n≠5∧n≠6∧n≠7∧n≠8∧n≠9∧n≠10∧n≠11):=by omega
@[simp] theorem AMK (n:Int):aH C0 145 [.int n] []=some (.int (bZ n),[]):=by
  rw[aD rfl Tryz.func145 rfl rfl]
  rcases VH n with rfl|rfl|rfl|rfl|rfl|rfl|rfl|rfl|rfl|rfl|rfl|⟨h1,h2,h3,h4,h5,h6,h7,h8,h9,h10,h11⟩
  all_goals first
   | (simp[bZ];done)
   | (have e:bZ n=-1:=by
       unfold bZ;rw[if_neg (by omega),if_neg (by omega),if_neg (by omega)]
      simp[e,h1,h2,h3,h4,h5,h6,h7,h8,h9,h10,h11])
@[simp] theorem AXL (n:Int):aH C0 124 [.int n] []=some (.int (bZ n),[]):=by
  rw[aD rfl Tryz.func124 rfl rfl]
  rcases VH n with rfl|rfl|rfl|rfl|rfl|rfl|rfl|rfl|rfl|rfl|rfl|⟨h1,h2,h3,h4,h5,h6,h7,h8,h9,h10,h11⟩
  all_goals first
   | (simp[bZ];done)
   | (have e:bZ n=-1:=by
       unfold bZ;rw[if_neg (by omega),if_neg (by omega),if_neg (by omega)]
      simp[e,h1,h2,h3,h4,h5,h6,h7,h8,h9,h10,h11])
@[simp] theorem Q0 (n:Int):aH C0 105 [.int n] []=some (.bool (bH n),[]):=by
  rw[aD rfl Tryz.func105 rfl rfl];by_cases h1:1≤n<;>by_cases h2:n≤6<;>simp[bH,h1,h2]
@[simp] theorem OW (n a b:Int):aH C0 68 [.int n, .int a, .int b] []=some (.bool (decide (a≤n∧n≤b)),[]):=by
  rw[aD rfl Tryz.func68 rfl rfl];by_cases h1:a≤n<;>by_cases h2:n≤b<;>simp[h1,h2]
@[simp] theorem valid_eq (b:Bool) (n:Int):aH C0 146 [.i (.agg [.bool b, .int n])] []=some (.bool (Val.ok ⟨b,n⟩),[]):=by
  rw[aD rfl Tryz.func146 rfl rfl]
  cases b
  ·by_cases h1:-9999≤n<;>by_cases h2:n≤9999<;>simp[Val.ok,h1,h2]
  ·by_cases h1:n=0<;>simp[Val.ok,h1]
@[simp] theorem AKQ (b:Bool) (n:Int):aH C0 125 [.i (.agg [.bool b, .int n])] []=some (.bool (Val.ok ⟨b,n⟩),[]):=by
  rw[aD rfl Tryz.func125 rfl rfl]
  cases b
  ·by_cases h1:-9999≤n<;>by_cases h2:n≤9999<;>simp[Val.ok,h1,h2]
  ·by_cases h1:n=0
   ·subst h1;simp[Val.ok]
   ·by_cases h2:-9999≤n<;>by_cases h3:n≤9999<;>simp[Val.ok,h1,h2,h3]
theorem AOC {e:Ex} {w:Int} (n:Nat) (hk:¬ (e.kids.length:Int)=bZ e.kind):aH C0 140 [.i (.iref e.cells), .int w, .int n] []=some (.bool false,[]):=by
 rw[aD rfl Tryz.func140 rfl rfl,Ex.aA];simp[Ex.bA,hk]
theorem AQ9 {e:Ex} {w:Int} (hk:(e.kids.length:Int)=bZ e.kind) (hz:0<bZ e.kind):aH C0 140 [.i (.iref e.cells), .int w, .int 0] []=some (.bool false,[]):=by
 rw[aD rfl Tryz.func140 rfl rfl,Ex.aA];simp[Ex.bA,hk,hz]
theorem AFL {e:Ex} {w:Int} (n:Nat) (hk:(e.kids.length:Int)=bZ e.kind) (hz:0<bZ e.kind→n≠0) (hh:e.headOk w=false) :
 aH C0 140 [.i (.iref e.cells), .int w, .int n] []=some (.bool false,[]):=by
 rw[aD rfl Tryz.func140 rfl rfl,Ex.aA];unfold Ex.headOk at hh;by_cases h1:e.kind=1
 ·rw[h1]at hz hk;simp[h1,bZ]at hh hk;by_cases h2:0≤e.col
  ·by_cases h3:e.col<w
   ·cases h4:e.val.null with
    | true=>simp[Ex.bA,hk,h1,zB6.2 h2,zF1.2 h3,h4,bZ]
    | false=>simp[Ex.bA,hk,h1,zB6.2 h2,zF1.2 h3,h4,hh h2 h3 h4,bZ]
   ·simp[Ex.bA,hk,h1,zB6.2 h2,zB6.1 h3,bZ]
  ·simp[Ex.bA,hk,h1,zF1.1 h2,bZ]
 ·by_cases h2:e.kind=2
  ·rw[h2]at hz hk;simp[h2,bZ]at hh hk;by_cases h3:e.col=0
   ·have h4:Val.ok ⟨e.val.null,e.val.n⟩=false:=hh h3;simp[Ex.bA,hk,h2,h3,h4,bZ]
   ·simp[Ex.bA,hk,h2,h3,bZ]
  ·simp[h1,h2]at hh;by_cases h0:0<bZ e.kind
   ·have hn:=hz h0;by_cases h3:e.col=0
    ·cases h4:e.val.null with
     | true=>simp[Ex.bA,hk,h1,h2,h3,h4,h0,hn,hz h0]
     | false=>simp[Ex.bA,hk,h1,h2,h3,h4,hh h3 h4,h0,hn,hz h0]
    ·simp[Ex.bA,hk,h1,h2,h3,h0,hn,hz h0]
   ·by_cases h3:e.col=0
    ·cases h4:e.val.null with
     | true=>simp[Ex.bA,hk,h1,h2,h3,h4,h0]
     | false=>simp[Ex.bA,hk,h1,h2,h3,h4,hh h3 h4,h0]
    ·simp[Ex.bA,hk,h1,h2,h3,h0]
def VX (e:Ex) (w n:Int) (i:Nat):AS :=
 { env:=[(0, .i (.iref [.int e.kind, .int 0, .bool false, .int 0, .isl (Ex.aB e.kids)])),(1, .int w),(2, .int n),(6, .bool false),(7, .int (bZ e.kind)),(8,jk i (.int (i-1))),(28, .bool (n == 0)),(62, .bool false),(90, .bool false),(95, .int (bZ e.kind)),(96, .int i),(97,jk i (.bool true)),(109,jk i (.bool false))],st:=[] }
theorem AV9 {e:Ex} {w:Int} (n:Nat) (hn:n≤8) (hk:(e.kids.length:Int)=bZ e.kind) (hz:0<bZ e.kind→n≠0) (hh:e.headOk w=true) (ih:∀ k∈e.kids,0<bZ e.kind→aH C0 140 [.i (.iref k.cells), .int w, .int ((n:Int)-1)] []=some (.bool (Ex.vB w (n-1) k),[])) :
 aH C0 140 [.i (.iref e.cells), .int w, .int n] []=some (.bool (e.kids.all (Ex.vB w (n-1))),[]):=by
 rw[aD rfl Tryz.func140 rfl rfl,Ex.aA]
 rcases Ex.ADR w e with h|⟨-,⟨hA,hB,hC,hD,hE,hF⟩|⟨hA,hB,hC,hD,hE,hF⟩|⟨hA,hB,hC,hD,hE,hF⟩⟩
 ·simp[h]at hh
 ·have h2:e.kids=[]:=by rw[hF]at hk;simpa using hk
  simp[h2,Ex.aB,hA,hD,hE,zB6.2 hB,zF1.2 hC,bZ];rw[aG];simp
 ·have h2:e.kids=[]:=by rw[hF]at hk;simpa using hk
  simp[h2,Ex.aB,hA,hB,hC,bZ];rw[aG];simp
 ·by_cases h0:0<bZ e.kind
  ·have hn:=hz h0;simp[Ex.bA,hk,hA,hB,hC,hD,hE,h0,hn,hz h0];obtain⟨j,h1,h2⟩:=gG (Ex.vB w (n-1)) e.kids;have w1:IntKind.i64.wrap ((n:Int)-1)=n-1:=wrO
   have rd:∀ (i:Nat) (k:Ex),e.kids[i]?=some k→k∈e.kids→i<e.kids.length∧fT (Ex.aB e.kids) i=some k.cells∧aH C0 140 [.i (.iref k.cells), .int w, .int ((n:Int)-1)] []=some (.bool (Ex.vB w (n-1) k),[]) :=
    fun i k a b=>⟨(zZ.1 a).1,Ex.aO a,ih k b h0⟩
   have hlen:e.kids.length≤2:=by have:bZ e.kind≤2:=by
                                  unfold bZ;split;· omega
                                  split;· omega
                                  split<;>omega
                                 omega
   rw[aS (VX e w n) j (by simp[VX])]
   ·rw[aG]
    rcases h2 with ⟨hj,ha⟩|⟨k,h3,h4,h5,ha⟩
    ·have l1:¬ ((j:Int)<bZ e.kind):=by omega
     simp[VX,l1,ha]
    ·obtain⟨r1,r2,r3⟩:=rd j k h3 h4;have l1:(j:Int)<bZ e.kind:=by omega
     rw[Ex.aA]at r2 r3;simp[VX,l1,r1,ha,r2,r3,w1,h5]
   ·intro i hi;obtain⟨k,h3,h4,h5⟩:=h1 i hi;obtain⟨r1,r2,r3⟩:=rd i k h3 h4;have l1:(i:Int)<bZ e.kind:=by omega
    have w2:IntKind.i64.wrap ((i:Int)+1)=i+1:=wrO;rw[Ex.aA]at r2 r3;simp[VX,l1,r1,r2,r3,w1,w2,h5]
  ·have h2:e.kids=[]:=by cases h:e.kids with
    | nil=>rfl
    | cons a l=>rw[h]at hk;simp at hk;omega
   rw[h2]at hk;simp at hk;simp[h2,Ex.aB,hA,hB,hC,hD,hE,← hk];rw[aG];simp
@[simp] theorem CQ {w:Int}:∀ (n:Nat) (e:Ex),n≤8→aH C0 140 [.i (.iref e.cells), .int w, .int n] []=some (.bool (Ex.vB w n e),[])
  | 0,e,hn=>by
   by_cases hk:(e.kids.length:Int)=bZ e.kind
   ·by_cases hz:0<bZ e.kind
    ·rw[show((0:Nat):Int)=0 from rfl,AQ9 hk hz];simp[Ex.vB,zF1.2 hz]
    ·cases hh:e.headOk w with
     | false=>rw[AFL 0 hk (fun h=>absurd h hz) hh];simp[Ex.vB,hh]
     | true =>
      rw[AV9 0 hn hk (fun h=>absurd h hz) hh (fun k _ h=>absurd h hz)]
      have:e.kids=[]:=by cases h:e.kids with
       | nil=>rfl
       | cons a l=>rw[h]at hk;simp at hk;omega
      have h3:bZ e.kind=0:=by rw[this]at hk;simpa using hk.symm
      simp[Ex.vB,hh,h3,this]
   ·rw[AOC 0 hk];simp[Ex.vB,hk]
  | n+1,e,hn=>by
   by_cases hk:(e.kids.length:Int)=bZ e.kind
   ·cases hh:e.headOk w with
    | false=>rw[AFL (n+1) hk (fun _=>by omega) hh];simp[Ex.vB,hh]
    | true =>
     rw[AV9 (n+1) hn hk (fun _=>by omega) hh (fun k _ _=>by
      have:=CQ (w:=w) n k (by omega);rw[show(((n+1:Nat):Int)-1)=(n:Int)by omega]
      exact this)]
     simp[Ex.vB,hh,hk]
   ·rw[AOC (n+1) hk];simp[Ex.vB,hk]
theorem AOB {e:Ex} {w:Int} (n:Nat) (hk:¬ (e.kids.length:Int)=bZ e.kind):aH C0 104 [.i (.agg e.cells), .int w, .int n] []=some (.bool false,[]):=by
 rw[aD rfl Tryz.func104 rfl rfl,Ex.aA];simp[hk]
theorem AQ8 {e:Ex} {w:Int} (hk:(e.kids.length:Int)=bZ e.kind) (hz:0<bZ e.kind):aH C0 104 [.i (.agg e.cells), .int w, .int 0] []=some (.bool false,[]):=by
 rw[aD rfl Tryz.func104 rfl rfl,Ex.aA];simp[hk,hz]
def EX (e:Ex) (w n:Int) (v:AV) (i:Nat):AS :=
 { env:=[(0, .i (.agg [.int e.kind, .int e.col, .bool e.val.null, .int e.val.n, .isl (Ex.aB e.kids)])),(1, .int w),(2, .int n),(3, .own 0 0),(6, .bool false),(7, .int i),(24,v),(29,jk i (.bool true)),(41,jk i (.bool false)),(43, .junk),(44, .junk),(57, .junk)],
   st:=[some (.box [.int e.kind, .int e.col, .bool e.val.null, .int e.val.n, .i (.isl (Ex.aB e.kids))])] }
theorem AV8 {e:Ex} {w:Int} (n:Nat) (hn:n≤8) (hk:(e.kids.length:Int)=bZ e.kind) (hz:0<bZ e.kind→n≠0)  (hw:1≤w∧w≤6)
 (ih:∀ k∈e.kids,0<bZ e.kind→aH C0 104 [.i (.agg k.cells), .int w, .int ((n:Int)-1)] []=some (.bool (Ex.vB w (n-1) k),[])) :
  aH C0 104 [.i (.agg e.cells), .int w, .int n] []=some (.bool (e.kids.all (Ex.vB w (n-1)) && e.headOk w),[]):=by
 rw[aD rfl Tryz.func104 rfl rfl,Ex.aA];have w0:IntKind.i64.wrap (w-1)=w-1:=wrO;by_cases h0:0<bZ e.kind
 ·have hn:=hz h0;simp[hk,h0,hn];obtain⟨j,h1,h2⟩:=gG (Ex.vB w (n-1)) e.kids;have w1:IntKind.i64.wrap ((n:Int)-1)=n-1:=wrO
  have rd:∀ (i:Nat) (k:Ex),e.kids[i]?=some k→k∈e.kids→i<e.kids.length∧fT (Ex.aB e.kids) i=some k.cells∧aH C0 104 [.i (.agg k.cells), .int w, .int ((n:Int)-1)] []=some (.bool (Ex.vB w (n-1) k),[]) :=
   fun i k a b=>⟨(zZ.1 a).1,Ex.aO a,ih k b h0⟩
  have hlen:e.kids.length≤2:=by have:bZ e.kind≤2:=by
                                 unfold bZ;split;· omega
                                 split;· omega
                                 split<;>omega
                                omega
  have hk1:e.kind≠1:=fun h=>by rw[h]at h0;simp[bZ]at h0
  have hk2:e.kind≠2:=fun h=>by rw[h]at h0;simp[bZ]at h0
  rw[aS (EX e w n (.bool ((n:Int) == 0)) ) j (by simp[EX])]
  ·rw[aG]
   rcases h2 with ⟨hj,ha⟩|⟨k,h3,h4,h5,ha⟩
   ·have l1:¬ ((j:Int)<bZ e.kind):=by omega
    by_cases h6:e.col=0
    ·cases h7:e.val.null with
     | true=>simp[EX,l1,hk,ha,Ex.headOk,hk1,hk2,h6,h7]
     | false=>simp[EX,l1,hk,ha,Ex.headOk,hk1,hk2,h6,h7]
    ·simp[EX,l1,hk,ha,Ex.headOk,hk1,hk2,h6]
   ·obtain⟨r1,r2,r3⟩:=rd j k h3 h4;have l1:(j:Int)<bZ e.kind:=by omega
    rw[Ex.aA]at r2 r3;simp[EX,l1,r1,hk,ha,r2,r3,w1,h5]
  ·intro i hi;obtain⟨k,h3,h4,h5⟩:=h1 i hi;obtain⟨r1,r2,r3⟩:=rd i k h3 h4;have l1:(i:Int)<bZ e.kind:=by omega
   have w2:IntKind.i64.wrap ((i:Int)+1)=i+1:=wrO;rw[Ex.aA]at r2 r3;simp[EX,l1,r1,hk,r2,r3,w1,w2,h5]
 ·have h2:e.kids=[]:=by cases h:e.kids with
   | nil=>rfl
   | cons a l=>rw[h]at hk;simp at hk;omega
  rw[h2]at hk;simp at hk;simp[h2,Ex.aB,← hk];rw[aG];by_cases h1:e.kind=1
  ·by_cases h4:0≤e.col
   ·by_cases h5:e.col<w
    ·cases h7:e.val.null with
     | true=>simp[h1,w0,Ex.headOk,h4,h5,h7,show e.col≤w-1 by omega]
     | false=>simp[h1,w0,Ex.headOk,h4,h5,h7,show e.col≤w-1 by omega]
    ·simp[h1,w0,Ex.headOk,h4,h5,show ¬ e.col≤w-1 by omega]
   ·simp[h1,w0,Ex.headOk,h4]
  ·by_cases h3:e.kind=2
   ·by_cases h4:e.col=0
    ·simp[h3,Ex.headOk,h4]
    ·simp[h3,Ex.headOk,h4]
   ·by_cases h4:e.col=0
    ·cases h7:e.val.null with
     | true=>simp[h1,h3,Ex.headOk,h4,h7]
     | false=>simp[h1,h3,Ex.headOk,h4,h7]
    ·simp[h1,h3,Ex.headOk,h4]
theorem GU {w:Int} (hw:1≤w∧w≤6):∀ (n:Nat) (e:Ex),n≤8→aH C0 104 [.i (.agg e.cells), .int w, .int n] []=some (.bool (Ex.vB w n e),[])
 | 0,e,hn=>by
  by_cases hk:(e.kids.length:Int)=bZ e.kind
  ·by_cases hz:0<bZ e.kind
   ·rw[show((0:Nat):Int)=0 from rfl,AQ8 hk hz];simp[Ex.vB,zF1.2 hz]
   ·rw[AV8 0 hn hk (fun h=>absurd h hz) hw (fun k _ h=>absurd h hz)]
    have:e.kids=[]:=by cases h:e.kids with
     | nil=>rfl
     | cons a l=>rw[h]at hk;simp at hk;omega
    have h3:bZ e.kind=0:=by rw[this]at hk;simpa using hk.symm
    simp[Ex.vB,h3,this]
  ·rw[AOB 0 hk];simp[Ex.vB,hk]
 | n+1,e,hn=>by
  by_cases hk:(e.kids.length:Int)=bZ e.kind
  ·rw[AV8 (n+1) hn hk (fun _=>by omega) hw (fun k _ _=>by
      have:=GU (w:=w) hw n k (by omega);rw[show(((n+1:Nat):Int)-1)=(n:Int)by omega]
      exact this)]
   simp[Ex.vB,hk,Bool.and_comm]
  ·rw[AOB (n+1) hk];simp[Ex.vB,hk]
theorem ok_eq (w:Int) (e:Ex):aH C0 129 [.i (.agg e.cells), .int w] []=some (.bool (e.ok w),[]):=by
 rw[aD rfl Tryz.func129 rfl rfl];have h:=CQ (w:=w) 8 e (by omega);rw[Ex.aA]at h ⊢;have e8:((8:Nat):Int)=8:=rfl;rw[e8]at h
 cases hw:bH w with
 | false=>simp[hw,Ex.ok]
 | true=>simp[hw,Ex.ok,h]
theorem U9 (w:Int) (e:Ex):aH C0 77 [.i (.agg e.cells), .int w] []=some (.bool (e.ok w),[]):=by
 rw[aD rfl Tryz.func77 rfl rfl];by_cases hw:1≤w∧w≤6
 ·have h:=GU hw 8 e (by omega);rw[Ex.aA]at h ⊢;have e8:((8:Nat):Int)=8:=rfl;rw[e8]at h;simp[hw,Ex.ok,bH,h]
 ·rw[Ex.aA];simp[hw,Ex.ok,bH]
theorem dA:IntKind.i64.wrap 1=1:=wrO
def CX (e:Ex) (i:Nat):AS :=
 { env:=[(0, .i (.agg [.int e.kind, .int e.col, .bool e.val.null, .int e.val.n, .isl (Ex.aB e.kids)])),(1, .own 0 0),(2, .own 1 0),(3, .own 2 0),(4, .int i),(16,jk i (.bool true))],
   st:=some (.box [.int e.kind, .int e.col, .bool e.val.null, .int e.val.n, .i (.isl (Ex.aB e.kids))])::some (.box [.int 0, .int 0, .bool false, .int 0, .nils]) ::
    some (.box [.int e.kind, .int e.col, .bool e.val.null, .int e.val.n,gro 3 5 i])::ADS 5 (Ex.aB (e.kids.take i)) i }
theorem ATB {e:Ex} (hl:e.kids.length<1000000000) (ih:∀ a∈e.kids,aH C0 49 [.i (.agg a.cells)] []=some (.i (.agg a.cells),[])) :
 aH C0 49 [.i (.agg e.cells)] []=some (.i (.agg e.cells),[]):=by
 rw[aD rfl Tryz.func49 rfl rfl,Ex.aA];simp;rw[aS (CX e) e.kids.length (by simp[CX])]
 ·rw[aG]
  cases hn:e.kids.length with
  | zero =>
   have:e.kids=[]:=zW.1 hn;simp[CX,this,Ex.aB]
  | succ n =>
   have:e.kids.take (n+1)=e.kids:=zY (by omega);simp[CX,hn,this]
 ·intro i hi;have h3:=zX hi;have hc:=ih _ (zU h3);have r2:=Ex.aO h3;generalize e.kids[i]=a at h3 hc r2;have w2:IntKind.i64.wrap ((i:Int)+1)=i+1:=wrO;by_cases h0:i=0
  ·subst h0;simp[CX,hi,r2,hc,dA,aN h3,Ex.aB]
  ·simp[CX,aP h0,aM h0,bT h0,hi,r2,hc,w2,aN h3,Ex.aZ,show min i e.kids.length=i by omega,show(i+1)*56≤140737488355328 by omega,zK]
theorem BM:∀ (e:Ex),e.thin→aH C0 49 [.i (.agg e.cells)] []=some (.i (.agg e.cells),[]):=by
 intro e
 induction e using Ex.ind with
 | h k c v ks ih =>
  intro ht;have ht':=(Ex.bM _).1 ht;exact ATB ht'.1 fun a ha=>ih a ha (ht'.2 a ha)
def SX (e:Ex) (l:List Ex) (f:Ex→Ex) (i:Nat):AS :=
 { env:=[(0, .i (.agg [.int e.kind, .int e.col, .bool e.val.null, .int e.val.n, .isl (Ex.aB e.kids)])),(1, .i (.isl (Ex.aB l))),(2, .own 0 0),(4, .own 1 0),(5, .own 2 0),(6, .int i),(9, .bool false),(27,jk i (.bool true))],
   st:=some (.box [.int e.kind, .int e.col, .bool e.val.null, .int e.val.n, .i (.isl (Ex.aB e.kids))])::some (.box [.int 0, .int 0, .bool false, .int 0, .nils]) ::
    some (.box [.int e.kind, .int e.col, .bool e.val.null, .int e.val.n,gro 3 5 i])::ADS 5 (Ex.aB ((e.kids.take i).map f)) i }
theorem AC {e b:Ex} {l:List Ex} (h1:e.kind=1) (h0:0≤e.col) (hb:l[e.col.toNat]?=some b) (ht:b.thin) :
 aH C0 75 [.i (.agg e.cells), .i (.isl (Ex.aB l))] []=some (.i (.agg b.cells),[]):=by
 rw[aD rfl Tryz.func75 rfl rfl,Ex.aA];have hc:=BM b ht;have r2:=Ex.aO hb;have r1:=(zZ.1 hb).1;rw[Ex.aA]at hc r2 ⊢;simp[h1,h0,r2,hc,show e.col<l.length by omega]
theorem AKZ {e:Ex} {l:List Ex} {f:Ex→Ex} (h1:e.kind≠1) (hl:e.kids.length<1000000000) (ih:∀ a∈e.kids,aH C0 75 [.i (.agg a.cells), .i (.isl (Ex.aB l))] []=some (.i (.agg (f a).cells),[])) :
 aH C0 75 [.i (.agg e.cells), .i (.isl (Ex.aB l))] []=some (.i (.agg (Ex.mk e.kind e.col e.val (e.kids.map f)).cells),[]):=by
 rw[aD rfl Tryz.func75 rfl rfl,Ex.aA];simp[h1];rw[aS (SX e l f) e.kids.length (by simp[SX,h1])]
 ·rw[aG]
  cases hn:e.kids.length with
  | zero =>
   have:e.kids=[]:=zW.1 hn;simp[SX,this,Ex.aB,Ex.cells]
  | succ n =>
   have:e.kids.take (n+1)=e.kids:=zY (by omega);simp[SX,hn,this,Ex.cells,← List.map_take]
 ·intro i hi;have h3:=zX hi;have hc:=ih _ (zU h3);have r2:=Ex.aO h3;generalize e.kids[i]=a at h3 hc r2;have w2:IntKind.i64.wrap ((i:Int)+1)=i+1:=wrO;by_cases h0:i=0
  ·subst h0;simp[SX,hi,r2,hc,dA,aN h3,Ex.aB]
  ·simp[SX,aP h0,aM h0,bT h0,hi,r2,hc,w2,aN h3,Ex.aZ,show min i e.kids.length=i by omega,show(i+1)*56≤140737488355328 by omega,← List.map_take,zK]
theorem mZ (l:List Ex) (hlt:∀ b∈l,b.thin):∀ (e:Ex),e.thin→e.ZE l.length→aH C0 75 [.i (.agg e.cells), .i (.isl (Ex.aB l))] []=some (.i (.agg (e.sub l).cells),[]):=by
 intro e
 induction e using Ex.ind with
 | h k c v ks ih =>
  intro ht hc;have ht':=(Ex.bM _).1 ht;have hc':=(Ex.WB _ _).1 hc;by_cases hk:k=1
  ·obtain⟨h0,h1⟩:=hc'.1 hk;have hi:c.toNat<l.length:=by simp[Ex.col]at h0 h1;omega
   have hb:=zX hi;rw[Ex.AC l (e:=.mk k c v ks) hk hb];exact AC hk h0 hb (hlt _ (zA3 hi))
  ·rw[Ex.AB l (e:=.mk k c v ks) hk];exact AKZ hk ht'.1 fun a ha=>ih a ha (ht'.2 a ha) (hc'.2 hk a ha)
def HX (e:Ex) (i:Nat):AS :=
 { env:=[(0, .i (.iref [.int e.kind, .int e.col, .bool e.val.null, .int e.val.n, .isl (Ex.aB e.kids)])),(2, .int 0),(3, .int (Ex.htL (e.kids.take i):Nat)),(4,jk i (.int (i-1))),(9, .int e.kids.length),(10, .int i),(11,jk i (.bool true))],st:=[] }
theorem YO {e:Ex} (hs:e.size<1000000000) (ih:∀ k∈e.kids,aH C0 133 [.i (.iref k.cells)] []=some (.int (k.ht:Nat),[])) :
 aH C0 133 [.i (.iref e.cells)] []=some (.int (e.ht:Nat),[]):=by
 rw[aD rfl Tryz.func133 rfl rfl,Ex.aA];simp;have hl:=Ex.bN e.kids;rw[Ex.size_eq]at hs;rw[aS (HX e) e.kids.length (by simp[HX,Ex.htL])]
 ·rw[aG];simp[HX,Ex.AMS e]
 ·intro i hi;have h3:=zX hi;have hm:=zU h3;have hc:=ih _ hm;have r2:=Ex.aO h3;have hz:=Ex.jE hm;generalize e.kids[i]=a at h3 hc r2 hz;have ha:=Ex.AIA a;have w2:IntKind.i64.wrap ((i:Int)+1)=i+1:=wrO;have w1:IntKind.i64.wrap (1+(a.ht:Int))=1+a.ht:=wrO;rw[Ex.aA]at hc r2;have hmax:Ex.htL (e.kids.take (i+1))=max (Ex.htL (e.kids.take i)) (1+a.ht):=by rw[aN h3,Ex.AB0]
  by_cases hg:1+a.ht > Ex.htL (e.kids.take i)
  ·simp[HX,hi,r2,hc,w1,w2,hmax,show max (Ex.htL (e.kids.take i)) (1+a.ht)=1+a.ht by omega,show(Ex.htL (e.kids.take i):Int)<1+a.ht by omega]
  ·simp[HX,hi,r2,hc,w1,w2,hmax,show max (Ex.htL (e.kids.take i)) (1+a.ht)=Ex.htL (e.kids.take i)by omega,show ¬ (Ex.htL (e.kids.take i):Int)<1+a.ht by omega]
theorem AIF:∀ (e:Ex),e.size<1000000000→aH C0 133 [.i (.iref e.cells)] []=some (.int (e.ht:Nat),[]):=by
 intro e
 induction e using Ex.ind with
 | h k c v ks ih =>
  intro hs;exact YO hs fun a ha=>ih a ha (by have:=Ex.jE ha;simp only[Ex.size,Ex.kids]at hs this;omega)
theorem AMZ {e:Ex} {hs:List Nat} {n:Int} (hn:n<0):aH C0 134 [.i (.iref e.cells), .i (.isl (qD hs)), .int n] []=some (.bool false,[]):=by
 rw[aD rfl Tryz.func134 rfl rfl,Ex.aA];simp[hn]
theorem AN0 {e:Ex} {hs:List Nat} {n:Int} {h:Nat} (hn:0≤n) (hk:e.kind=1) (hks:e.kids=[]) (h0:0≤e.col) (hh:hs[e.col.toNat]?=some h) :
 aH C0 134 [.i (.iref e.cells), .i (.isl (qD hs)), .int n] []=some (.bool (decide ((h:Int)≤n)),[]):=by
 rw[aD rfl Tryz.func134 rfl rfl,Ex.aA];have r2:=V4 hh;have r1:=(zZ.1 hh).1;by_cases hc:n<h
 ·simp[zB6.2 hn,hk,h0,r2,hc,show e.col<hs.length by omega]
 ·simp[zB6.2 hn,hk,h0,r2,hc,zB6.1 hc,show e.col<hs.length by omega,hks,Ex.aB];rw[aG];simp
def FX (e:Ex) (hs:List Nat) (n:Int) (i:Nat):AS :=
 { env:=[(0, .i (.iref [.int e.kind, .int e.col, .bool e.val.null, .int e.val.n, .isl (Ex.aB e.kids)])),(1, .i (.isl (qD hs))),(2, .int n),(6, .bool false),(7,jk i (.int (i-1))),(27, .bool false),(32, .int e.kids.length),(33, .int i),(34,jk i (.bool true)),(46,jk i (.bool false))],st:=[] }
theorem AIL {e:Ex} {hs:List Nat} {n:Int} (hn:0≤n) (hn8:n≤8) (hl:e.kids.length<1000000000) (hk:e.kind≠1)
 (ih:∀ k∈e.kids,aH C0 134 [.i (.iref k.cells), .i (.isl (qD hs)), .int (n-1)] []=some (.bool (decide ((k.htS hs:Int)≤n-1)),[])) :
  aH C0 134 [.i (.iref e.cells), .i (.isl (qD hs)), .int n] []=some (.bool (e.kids.all fun k=>decide ((k.htS hs:Int)≤n-1)),[]):=by
 rw[aD rfl Tryz.func134 rfl rfl,Ex.aA];simp[zB6.2 hn,hk];obtain⟨j,h1,h2⟩:=gG (fun k:Ex=>decide ((k.htS hs:Int)≤n-1)) e.kids;have w1:IntKind.i64.wrap (n-1)=n-1:=wrO;rw[aS (FX e hs n) j (by simp[FX])]
 ·rw[aG]
  rcases h2 with ⟨hj,ha⟩|⟨k,h3,h4,h5,ha⟩
  ·simp[FX,hj,ha]
  ·have r1:=(zZ.1 h3).1;have r2:=Ex.aO h3;have r3:=ih k h4;rw[Ex.aA]at r2 r3;rw[h5]at r3;simp[FX,r1,ha,r2,r3,w1]
 ·intro i hi;obtain⟨k,h3,h4,h5⟩:=h1 i hi;have r1:=(zZ.1 h3).1;have r2:=Ex.aO h3;have r3:=ih k h4;have w2:IntKind.i64.wrap ((i:Int)+1)=i+1:=wrO;rw[Ex.aA]at r2 r3;rw[h5]at r3;simp[FX,r1,r2,r3,w1,w2]
theorem AT6 {m:Int} {hs:List Nat} (hm:m=hs.length):∀ (e:Ex),e.wf m=true→e.size<1000000000→∀ n:Int,n≤8→aH C0 134 [.i (.iref e.cells), .i (.isl (qD hs)), .int n] []=some (.bool (decide ((e.htS hs:Int)≤n)),[]):=by
 intro e
 induction e using Ex.ind with
 | h k c v ks ih =>
  intro hw hs' n hn;by_cases h0:n<0
  ·rw[AMZ h0,show decide ((Ex.htS hs (.mk k c v ks):Int)≤n)=false by simp;omega]
  ·by_cases hk:k=1
   ·obtain⟨c0,c1,ck⟩:=Ex.mV hw hk;have hi:c.toNat<hs.length:=by simp[Ex.col]at c0 c1;omega
    have hb:=zX hi;rw[Ex.AIC hs (e:=.mk k c v ks) (h:=hs[c.toNat]) hk hb];exact AN0 (by omega) hk ck c0 hb
   ·have hl:=Ex.bN ks;have hsz:Ex.aL ks<1000000000:=by simp[Ex.size]at hs';omega
    have hn0:=zB6.1 h0;rw[AIL (e:=.mk k c v ks) (n:=n) hn0 hn (by simp only[Ex.kids];omega) hk fun x hx=>ih x hx (Ex.gX hw hx) (by have:=Ex.jE hx;simp only[Ex.kids]at this;omega) (n-1) (by omega)];rw[Ex.AIB hs (e:=.mk k c v ks) hk]
    suffices hsf:(ks.all fun x=>decide ((x.htS hs:Int)≤n-1))=decide ((Ex.AKC hs ks:Int)≤n)by simp only[Ex.kids];rw[hsf];rfl
    rw[zC9];have:=Ex.AID hs (n:=n.toNat) ks;simp only[zQ,zM];constructor
    ·intro h;have h2:=this.2 fun x hx=>by have:=h x hx;omega
     omega
    ·intro h x hx;have h2:=this.1 (by omega) x hx;omega
@[simp] theorem VW {e:Ex} (h:e.size<1000000000):aH C0 59 [.i (.iref e.cells)] []=some (.i (.agg e.cells),[]):=by
  rw[aT (p:=Z6) rfl];exact ABH h
theorem AL1 {e b:Ex} {l:List Ex} (hk:e.kind=1) (h0:0≤e.col) (hb:l[e.col.toNat]?=some b) (hs:b.size<1000000000) :
 aH C0 135 [.i (.iref e.cells), .own 0 0] [some (.box [.i (.isl (Ex.aB l))])]=some (.i (.agg b.cells),[some (.box [.i (.isl (Ex.aB l))])]):=by
 rw[aD rfl Tryz.func135 rfl rfl];have hc:=VW hs;have r2:=Ex.aO hb;have r1:=(zZ.1 hb).1;rw[Ex.aA]at hc r2 ⊢;rw[Ex.aA];simp[hk,h0,r2,hc,show e.col<l.length by omega]
theorem AL0 {e:Ex} {l:List Ex} (hk:e.kind≠1) (hs:e.size<1000000000) :
 aH C0 135 [.i (.iref e.cells), .own 0 0] [some (.box [.i (.isl (Ex.aB l))])]=some (.i (.agg e.cells),[some (.box [.i (.isl (Ex.aB l))])]):=by
 rw[aD rfl Tryz.func135 rfl rfl];have hc:=VW hs;rw[Ex.aA]at hc ⊢;simp[hk,hc]
def AF8:List IV:=[.int 0, .int 0, .bool false, .int 0, .isl []]
def RX (e:Ex) (l:List Ex) (f:Ex→Ex) (i:Nat):AS :=
 { env:=[(0, .i (.iref [.int e.kind, .int e.col, .bool e.val.null, .int e.val.n, .isl (Ex.aB e.kids)])),(1, .fn (.func 135) [.own 0 0]),(4, .own 1 0),(5, .own 2 0),(6,jk i (.int (i-1))),(12, .bool ((e.kids.length:Int) == 0)),(39, .int e.kids.length),(40, .int i),(41,jk i (.bool true))],
   st:=[some (.box [.i (.isl (Ex.aB l))]),some (.box [.int 0, .int 0, .bool false, .int 0, .nils]),some (.box [.int e.kind, .int e.col, .bool e.val.null, .int e.val.n, .osl 3 5 0 e.kids.length]),some (.arr 5 (Ex.aB ((e.kids.map f).take i)++List.replicate (e.kids.length-i) AF8))] }
theorem ALM {e:Ex} {l:List Ex} {f:Ex→Ex} (hk:e.kids≠[]) (hl:e.kids.length<1000000000) (ih:∀ a∈e.kids,aH C0 130 [.i (.iref a.cells), .fn (.func 135) [.own 0 0]] [some (.box [.i (.isl (Ex.aB l))])]=some (.i (.agg (f a).cells),[some (.box [.i (.isl (Ex.aB l))])])) :
 aH C0 130 [.i (.iref e.cells), .fn (.func 135) [.own 0 0]] [some (.box [.i (.isl (Ex.aB l))])]=some (.i (.agg (Ex.mk e.kind e.col e.val (e.kids.map f)).cells),[some (.box [.i (.isl (Ex.aB l))])]):=by
 rw[aD rfl Tryz.func130 rfl rfl,Ex.aA];have hb:56*(e.kids.length:Int)≤281474976710656:=by omega
 simp[hk,hb];rw[aS (RX e l f) e.kids.length (by simp[RX,Ex.aB,AF8])]
 ·rw[aG];have ht:(e.kids.map f).take e.kids.length=e.kids.map f:=zY (by simp);simp[RX,Ex.cells,ht]
 ·intro i hi;have h3:=zX hi;have hm:=zU h3;have hc:=ih _ hm;have r2:=Ex.aO h3;generalize e.kids[i]=a at h3 hc r2;have w2:IntKind.i64.wrap ((i:Int)+1)=i+1:=wrO;rw[Ex.aA]at hc r2;have hD:(Ex.aB ((e.kids.map f).take i)).length=i:=by simp;omega
  have hS:Ex.aB ((e.kids.map f).take i)++[(f a).cells]=Ex.aB ((e.kids.map f).take (i+1)):=by rw[aN (a:=f a) (by simp[h3]),Ex.aZ]
  have g1:=vY (n:=e.kids.length) (z:=AF8) hD hi;have g2:=vX (n:=e.kids.length) (z:=AF8) (x:=(f a).cells) hD hi;have g3:splice AF8 0 (f a).cells=some (f a).cells:=jP (by simp[AF8]);rw[hS]at g2;simp[RX,hi,r2,hc,w2,g1,g2,g3]
theorem AAF {e x:Ex} {l:List Ex} (hk:e.kids=[]) (h:aH C0 135 [.i (.iref e.cells), .own 0 0] [some (.box [.i (.isl (Ex.aB l))])]=some (.i (.agg x.cells),[some (.box [.i (.isl (Ex.aB l))])])) :
 aH C0 130 [.i (.iref e.cells), .fn (.func 135) [.own 0 0]] [some (.box [.i (.isl (Ex.aB l))])]=some (.i (.agg x.cells),[some (.box [.i (.isl (Ex.aB l))])]):=by
 rw[aD rfl Tryz.func130 rfl rfl];rw[Ex.aA e]at h ⊢;rw[Ex.aA x]at h ⊢;simp[hk,Ex.aB]at h ⊢;simp[h]
theorem UL {m:Int} (l:List Ex) (hm:m=l.length) (hl:∀ b∈l,b.size<1000000000):∀ (e:Ex),e.wf m=true→e.size<1000000000 →
 aH C0 130 [.i (.iref e.cells), .fn (.func 135) [.own 0 0]] [some (.box [.i (.isl (Ex.aB l))])]=some (.i (.agg (e.sub l).cells),[some (.box [.i (.isl (Ex.aB l))])]):=by
 intro e
 induction e using Ex.ind with
 | h k c v ks ih =>
  intro hw hs;have hsz:=hs;rw[Ex.size_eq]at hsz;have hkl:=Ex.bN ks;by_cases hk:k=1
  ·obtain⟨c0,c1,ck⟩:=Ex.mV hw hk;have hi:c.toNat<l.length:=by simp[Ex.col]at c0 c1;omega
   have hb:=zX hi;rw[Ex.AC l (e:=.mk k c v ks) hk hb];exact AAF ck (AL1 (e:=.mk k c v ks) hk c0 hb (hl _ (zA3 hi)))
  ·cases ks with
   | nil =>
    have hn:=AL0 (e:=.mk k c v []) (l:=l) hk hs;rw[Ex.AB l (e:=.mk k c v []) hk];exact AAF (e:=.mk k c v []) rfl hn
   | cons a ks =>
    rw[Ex.AB l (e:=.mk k c v (a::ks)) hk];refine ALM (e:=.mk k c v (a::ks)) (by simp[Ex.kids]) (by simp only[Ex.kids]at hsz ⊢;omega) fun x hx=>ih x hx (Ex.gX hw hx) ?_
    have:=Ex.jE hx;omega
end Go.Proofs.YtgiepjdnkonkgaaGreat
namespace Go.Av
def Ex.subst (e:Ex) (l:List Ex) (w:Int):Option Ex:=if e.ok l.length && (l.all (Ex.ok w) && (e.sub l).ok w)then some (e.sub l)else none
def ARF:Option Ex→AV
 | some e=>.tup [.i (.agg e.cells), .bool true]
 | none=>.tup [.i (.agg Ex.zero.cells), .bool false]
theorem aV:Ex.zero.cells=[.int 0, .int 0, .bool false, .int 0, .isl []]:=by simp[Ex.zero,Ex.cells,Ex.aB,Val.zero]
end Go.Av
namespace Go.Proofs.YtgiepjdnkonkgaaGreat
open Go Go.Av
set_option maxRecDepth 4000
theorem ASF {e:Ex} {l:List Ex} {w:Int} (h:e.ok l.length=false):aH C0 120 [.i (.agg e.cells), .i (.isl (Ex.aB l)), .int w] []=some (ARF (e.subst l w),[]):=by
 rw[aD rfl Tryz.func120 rfl rfl];have hc:=ok_eq l.length e;rw[h]at hc;rw[Ex.aA e]at hc ⊢;simp[hc,Ex.subst,h,ARF,aV]
theorem OM:∀ (hs:List Nat) (h:Nat),qD hs++[[.int h]]=qD (hs++[h])
 | [],_=>rfl
 | _::hs,h=>by simp[qD,OM hs h]
def IX (e:Ex) (l:List Ex) (w:Int) (i:Nat):AS :=
 { env:=[(0, .i (.agg [.int e.kind, .int e.col, .bool e.val.null, .int e.val.n, .isl (Ex.aB e.kids)])),(1, .i (.isl (Ex.aB l))),(2, .int w),(3, .own 0 0),(4, .own 1 0),(6, .own 2 0),(7, .bool false),(8, .osl 3 1 0 l.length),(9,jk i (.int (i-1))),(14, .bool false),(20, .int l.length),(21, .int i),(22,jk i (.bool true)),(30,jk i (.bool false)),(42, .junk)],
   st:=[some (.box [.int e.kind, .int e.col, .bool e.val.null, .int e.val.n, .i (.isl (Ex.aB e.kids))]),some (.box [.i (.isl (Ex.aB l))]),some (.box [.int 0, .int 0, .bool false, .int 0, .nils]),some (.arr 1 (qD ((l.map Ex.ht).take i)++List.replicate (l.length-i) [.int 0]))] }
theorem ASG {e:Ex} {l:List Ex} {w:Int} (h:e.ok l.length=true):aH C0 120 [.i (.agg e.cells), .i (.isl (Ex.aB l)), .int w] []=some (ARF (e.subst l w),[]):=by
 rw[aD rfl Tryz.func120 rfl rfl];have hc:=ok_eq l.length e;rw[h]at hc;have hw:1≤(l.length:Int)∧(l.length:Int)≤6:=by simp[Ex.ok,bH]at h;omega
 have hwf:e.wf l.length=true:=by simp[Ex.ok,Ex.TU]at h;exact h.2.1
 have hsz:=Ex.gK h;rw[Ex.aA e]at hc ⊢;have hb:8*(l.length:Int)≤281474976710656:=by omega
 simp[hc,hb];obtain⟨j,h1,h2⟩:=gG (Ex.ok w) l;rw[aS (IX e l w) j (by simp[IX,qD])]
 ·rw[aG]
  rcases h2 with ⟨hj,ha⟩|⟨k,h3,h4,h5,ha⟩
  ·have ht:(l.map Ex.ht).take l.length=l.map Ex.ht:=zY (by simp);have ht2:(qD (l.map Ex.ht)).take l.length=qD (l.map Ex.ht):=zY (by simp);have hf:=AT6 (m:=l.length) (hs:=l.map Ex.ht) (by simp) e hwf (by omega) 8 (by omega);have hr:=UL (m:=l.length) l rfl (fun b hb=>by have:=Ex.gK (zQ.1 ha b hb);omega) e hwf (by omega)
   have hwl:∀ b∈l,b.wf w=true:=fun b hb=>by
    have:=zQ.1 ha b hb;simp[Ex.ok,Ex.TU]at this;exact this.2.1
   have hww:bH w=true:=by
    cases l with
    | nil=>simp at hw
    | cons b l=>simp[Ex.ok]at ha;exact ha.1.1
   have hq:(e.sub l).ok w=decide ((e.htS (l.map Ex.ht):Int)≤8):=by
    simp only[Ex.ok,Ex.TU,Ex.AV6 (m:=l.length) l rfl hwl e hwf,Ex.AY1 (w:=l.length) l rfl e hwf,hww,Bool.true_and];rw[zC9];simp;omega
   rw[Ex.aA e]at hf hr;rw[← hq]at hf
   cases hq':(e.sub l).ok w with
   | true=>rw[hq']at hf;simp[IX,hj,ht,ht2,hf,hr,Ex.subst,h,ha,hq',ARF]
   | false=>rw[hq']at hf;simp[IX,hj,ht,ht2,hf,Ex.subst,h,ha,hq',ARF,aV]
  ·have r1:=(zZ.1 h3).1;have r2:=Ex.aO h3;have r3:=ok_eq w k;rw[h5]at r3;simp[IX,r1,r2,r3,Ex.subst,h,ha,ARF,aV]
 ·intro i hi;obtain⟨k,h3,h4,h5⟩:=h1 i hi;have r1:=(zZ.1 h3).1;have r2:=Ex.aO h3;have r3:=ok_eq w k;have w2:IntKind.i64.wrap ((i:Int)+1)=i+1:=wrO;have hh:=AIF k (by have:=Ex.gK h5;omega);rw[h5]at r3;have hD:(qD ((l.map Ex.ht).take i)).length=i:=by simp;omega
  have g1:=vY (n:=l.length) (z:=[IV.int 0]) hD r1;have g2:=vX (n:=l.length) (z:=[IV.int 0]) (x:=[IV.int k.ht]) hD r1;rw[OM,← aN (a:=k.ht) (by simp[h3])]at g2;simp[IX,r1,r2,r3,w2,hh,g1,g2]
end Go.Proofs.YtgiepjdnkonkgaaGreat
namespace Go.Av
end Go.Av
namespace Go.Proofs.YtgiepjdnkonkgaaGreat
open Go Go.Av
set_option maxRecDepth 4000
set_option maxHeartbeats 1000000
end Go.Proofs.YtgiepjdnkonkgaaGreat
namespace Go.Av
end Go.Av
namespace Go.Proofs.YtgiepjdnkonkgaaGreat
open Go Go.Av
set_option maxRecDepth 4000
set_option maxHeartbeats 1000000
end Go.Proofs.YtgiepjdnkonkgaaGreat
namespace Go.Av
def AjH (i:Nat):Ex:=.mk 1 i Val.zero []
def Ac3 (n:Nat):List Ex:=(List.range n).map AjH
def AMX (o:Option Ex):Ex:=o.getD Ex.zero
theorem ARD (o:Option Ex):ARF o=.tup [.i (.agg (AMX o).cells), .bool o.isSome]:=by cases o<;>rfl
end Go.Av
namespace Go.Proofs.YtgiepjdnkonkgaaGreat
open Go Go.Av
set_option maxRecDepth 4000
set_option maxHeartbeats 1000000
theorem AI3 (e:Ex) (l:List Ex) (w:Int):aH C0 120 [.i (.agg e.cells), .i (.isl (Ex.aB l)), .int w] []=some (.tup [.i (.agg (AMX (e.subst l w)).cells), .bool (e.subst l w).isSome],[]):=by
 rw[← ARD]
 cases h:e.ok l.length with
 | true=>exact ASG h
 | false=>exact ASF h
def WX (code:List UInt8) (e:Ex) (l:List Ex) (w:Int) (i:Nat):AS :=
 { env:=[(0, .i (.isl (tJ code))),(2, .bool false),(3, .own 0 0),(4, .i (.isl (Ex.aB l))),(5, .int w),(6, .own 1 0),(7, .bool (e.subst l w).isSome),(8, .own 2 0),(9, .bool (e.subst l w).isSome),(10, .osl 3 5 0 i),(11, .int i),(12, .junk),(13, .junk),(16, .bool false),(52, .bool false),(65,jk i (.bool true))],
   st:=[some (.box (lF e.cells)),some (.box (lF (AMX (e.subst l w)).cells)),some (.box (lF (AMX (e.subst l w)).cells)),some (.arr 5 (Ex.aB (Ac3 i)))] }
@[simp] theorem ACA (b:Bool) (n:Int):aH C0 139 [.i (.agg [.bool b, .int n])] []=some (.int (Val.tr ⟨b,n⟩),[]):=by
  rw[aD rfl Tryz.func139 rfl rfl]
  cases b
  ·by_cases h:n=0<;>simp[Val.tr,h]
  ·simp[Val.tr]
@[simp] theorem AbC:aH C0 154 [] []=some (.i (.agg [.bool true, .int 0]),[]):=by
  rw[aD rfl Tryz.func154 rfl rfl];simp
@[simp] theorem number_eq (n:Int):aH C0 153 [.int n] []=some (.i (.agg [.bool false, .int n]),[]):=by
  rw[aD rfl Tryz.func153 rfl rfl];simp
@[simp] theorem AH9 (n:Int):aH C0 156 [.int n] []=some (.i (.agg [.bool (AUB n).null, .int (AUB n).n]),[]):=by
  rw[aD rfl Tryz.func156 rfl rfl];by_cases h:-9999≤n∧n≤9999<;>simp[AUB,Val.ok,h]
@[simp] theorem AbS (b:Bool):aH C0 157 [.bool b] []=some (.i (.agg [.bool (YT b).null, .int (YT b).n]),[]):=by
  rw[aD rfl Tryz.func157 rfl rfl]
  cases b<;>simp[YT]
@[simp] theorem AVB (t:Int):aH C0 155 [.int t] []=some (.i (.agg [.bool (trV t).null, .int (trV t).n]),[]):=by
  rw[aD rfl Tryz.func155 rfl rfl];by_cases h:t=1
  ·simp[trV,h]
  ·by_cases h2:t=2<;>simp[trV,YT,h,h2]
theorem sF (k:Int) (a b:Val) (ha:a.ok=true) (hb:b.ok=true):aH C0 148 [.int k, .i (.agg [.bool a.null, .int a.n]), .i (.agg [.bool b.null, .int b.n])] []=some (.i (.agg [.bool (Val.cmb k a b).null, .int (Val.cmb k a b).n]),[]):=by
 rw[aD rfl Tryz.func148 rfl rfl];obtain⟨an,a⟩:=a;obtain⟨bn,b⟩:=b;have ba:-9999≤a∧a≤9999:=by cases an<;>simp[Val.ok]at ha<;>omega
 have bb:-9999≤b∧b≤9999:=by cases bn<;>simp[Val.ok]at hb<;>omega
 have w1:IntKind.i64.wrap (a+b)=a+b:=wrO;have w2:IntKind.i64.wrap (a-b)=a-b:=wrO
 have w3:IntKind.i64.wrap (a*b)=a*b:=by
  have h1:a*b≤9999*9999:=by
   have:=Int.mul_le_mul_of_natAbs_le (x:=a) (y:=b) (s:=9999) (t:=9999) (by omega) (by omega);omega
  have h2:-(9999*9999)≤a*b:=by
   have:=Int.mul_le_mul_of_natAbs_le (x:=-a) (y:=b) (s:=9999) (t:=9999) (by omega) (by omega);rw[Int.neg_mul]at this;omega
  exact wrO
 by_cases k8:k=8
 ·by_cases hm:Val.tr ⟨bn,b⟩<Val.tr ⟨an,a⟩<;>simp[Val.cmb,k8,hm]
 by_cases k9:k=9
 ·by_cases hm:Val.tr ⟨an,a⟩<Val.tr ⟨bn,b⟩<;>simp[Val.cmb,k9,hm]
 cases an
 ·cases bn
  ·by_cases k3:k=3
   ·simp[Val.cmb,k3,w1]
   by_cases k4:k=4
   ·simp[Val.cmb,k4,w2]
   by_cases k5:k=5
   ·simp[Val.cmb,k5,w3]
   by_cases k6:k=6
   ·simp[Val.cmb,k6]
   ·simp[Val.cmb,k8,k9,k3,k4,k5,k6]
  ·simp[Val.cmb,k8,k9]
 ·simp[Val.cmb,k8,k9]
end Go.Proofs.YtgiepjdnkonkgaaGreat
namespace Go.Av
end Go.Av
namespace Go.Proofs.YtgiepjdnkonkgaaGreat
open Go Go.Av
set_option maxRecDepth 4000
set_option maxHeartbeats 1000000
end Go.Proofs.YtgiepjdnkonkgaaGreat
namespace Go.Av
end Go.Av
namespace Go.Proofs.YtgiepjdnkonkgaaGreat
open Go Go.Av
set_option maxRecDepth 4000
set_option maxHeartbeats 1000000
def SB (e:Ex) (w:Int) (vs:List Val) (i:Nat):AS :=
 { env:=[(0, .i (.agg [.int e.kind, .int e.col, .bool e.val.null, .int e.val.n, .isl (Ex.aB e.kids)])),(1, .int w),(2, .i (.isl (wF vs))),(3, .own 0 0),(6, .own 1 0),(7, .bool false),(8, .int i),(9, .junk),(10, .junk),(14,jk i (.bool true)),(22,jk i (.bool false)),(34, .junk),(41, .junk)],
   st:=[some (.box [.int e.kind, .int e.col, .bool e.val.null, .int e.val.n, .i (.isl (Ex.aB e.kids))]),some (.box [.int 0, .int 0, .bool false, .int 0, .nils])] }
end Go.Proofs.YtgiepjdnkonkgaaGreat
namespace Go.Av
mutual
def Ex.ext (w:Int) (vs:List Val):Ex→Ex×List Val
 | .mk k c v ks=>if k=2 then(.mk 1 (w+vs.length) Val.zero [],vs++[v])else((.mk k c Val.zero (Ex.AZY w vs ks).1),(Ex.AZY w vs ks).2)
def Ex.AZY (w:Int) (vs:List Val):List Ex→List Ex×List Val
 | []=>([],vs)
 | e::es=>(((Ex.ext w vs e).1::(Ex.AZY w (Ex.ext w vs e).2 es).1),(Ex.AZY w (Ex.ext w vs e).2 es).2)
end
end Go.Av
namespace Go.Proofs.YtgiepjdnkonkgaaGreat
open Go Go.Av
set_option maxRecDepth 4000
set_option maxHeartbeats 2000000
def xv (a b:Nat):AV:=if b=a then .osl 0 2 0 a else .osl 1 2 0 b
def wi (n:Nat):Nat:=if n=0 then 1 else 2
end Go.Proofs.YtgiepjdnkonkgaaGreat
namespace Go.Av
end Go.Av
namespace Go.Proofs.YtgiepjdnkonkgaaGreat
open Go Go.Av
set_option maxRecDepth 4000
set_option maxHeartbeats 2000000
end Go.Proofs.YtgiepjdnkonkgaaGreat
namespace Go.Av
end Go.Av
namespace Go.Proofs.YtgiepjdnkonkgaaGreat
open Go Go.Av
set_option maxRecDepth 4000
set_option maxHeartbeats 2000000
set_option maxHeartbeats 4000000
end Go.Proofs.YtgiepjdnkonkgaaGreat
namespace Go.Av
end Go.Av
namespace Go.Proofs.YtgiepjdnkonkgaaGreat
open Go Go.Av
set_option maxRecDepth 4000
set_option maxHeartbeats 2000000
end Go.Proofs.YtgiepjdnkonkgaaGreat
namespace Go.Proofs.YtgiepjdnkonkgaaGreat.P
open Go Go.Av
set_option maxRecDepth 4000
theorem uF (n:Int):n=1∨n=2∨n=3∨n=4∨n=5∨n=6∨n=7∨n=8∨(n≠1∧n≠2∧n≠3∧n≠4∧n≠5∧n≠6∧n≠7∧n≠8):=by omega
@[simp] theorem AK7 (n:Int):aH C0 108 [.int n] []=some (.tup [.int (eU n), .int (jJ n)],[]):=by
  rw[aD rfl Tryz.func108 rfl rfl]
  rcases uF n with rfl|rfl|rfl|rfl|rfl|rfl|rfl|rfl|⟨h1,h2,h3,h4,h5,h6,h7,h8⟩
  all_goals first
   | (simp[eU,jJ];done)
   | (have e1:eU n=0:=by unfold eU;rw[if_neg (by omega)]
      have e2:jJ n=-1:=by unfold jJ;rw[if_neg (by omega),if_neg (by omega),if_neg (by omega)]
      simp[e1,e2,h1,h2,h3,h4,h5,h6,h7,h8])
def pv (cs:List Int) (i:Nat):Int:=((-1)::cs)[i]?.getD 0
theorem AGV {cs:List Int} {i:Nat} {c:Int} (h:cs[i]?=some c):pv cs (i+1)=c:=by simp[pv,h]
theorem EH {cs:List Int} {i:Nat} {x:Int×Int} (h:(cs.zip (-1::cs))[i]?=some x):cs[i]?=some x.1∧pv cs i=x.2:=by
 rw[List.getElem?_zip_eq_some]at h;exact⟨h.1,by simp[pv,h.2]⟩
theorem ABL (cs:List Int):(cs.zip (-1::cs)).length=cs.length:=by simp
def GX (cs:List Int) (w:Int) (i:Nat):AS :=
 { env:=[(0, .i (.isl (aF cs))),(1, .int w),(4, .bool false),(5, .int (pv cs i)),(7,jk i (.int (pv cs i))),(10, .bool false),(11, .i (.isl (aF cs))),(12, .int cs.length),(13, .int i),(14,jk i (.bool true)),(24,jk i (.bool false))],st:=[] }
theorem wG (cs:List Int) (w:Int):aH C0 128 [.i (.isl (aF cs)), .int w] []=some (.bool (decide (cs.length<6) && tH w cs),[]):=by
 rw[aD rfl Tryz.func128 rfl rfl];by_cases h6:cs.length<6
 case neg=>simp[h6,show(6:Int)≤cs.length by omega]
 simp[h6,show ¬ (6:Int)≤cs.length by omega];obtain⟨j,h1,h2⟩:=gG (fun x:Int×Int=>decide (x.2<x.1∧x.1<w)) (cs.zip (-1::cs));rw[aS (GX cs w) j (by simp[GX,pv])]
 ·rw[aG]
  rcases h2 with ⟨hj,ha⟩|⟨x,h3,_,h4,ha⟩
  ·rw[ABL]at hj;have ha:tH w cs=true:=ha;simp[GX,hj,ha]
  ·obtain⟨c1,c2⟩:=EH h3;have r1:=(zZ.1 c1).1;have r2:=aX c1;have hb:¬ (x.2<x.1∧x.1<w):=by simpa using h4
   have ha:tH w cs=false:=ha;by_cases hx:x.1≤x.2
   ·simp[GX,r1,r2,c2,hx,ha]
   ·simp[GX,r1,r2,c2,hx,ha,show w≤x.1 by omega]
 ·intro i hi;obtain⟨x,h3,_,h4⟩:=h1 i hi;obtain⟨c1,c2⟩:=EH h3;have r1:=(zZ.1 c1).1;have r2:=aX c1;have c3:=AGV c1;have hb:x.2<x.1∧x.1<w:=by simpa using h4
  have w2:IntKind.i64.wrap ((i:Int)+1)=i+1:=wrO;simp[GX,r1,r2,c2,c3,w2,show ¬ x.1≤x.2 by omega,show ¬ w≤x.1 by omega]
def WX (p:Pn) (a b y:Int) (x14:Bool) (n21 n22:Nat) (x22:Bool) (n26 n27:Nat) (x27:Bool) (i:Nat):AS :=
 { env:=[(0, .i (.iref [.int p.kind, .int p.table, .isl (Ex.aB p.exprs), .isl (aF p.cols), .isl (Pn.aB p.kids)])),(1, .int a),(2, .int b),(6, .int 0),(7, .int y),(8,jk i (.int (i-1))),(13, .int p.kind),(14, .bool x14),(21,jk n21 (.bool false)),(22,jk n22 (.bool x22)),(26,jk n26 (.bool false)),(27,jk n27 (.bool x27)),(35, .junk),(46, .int p.exprs.length),(47, .int i),(48,jk i (.bool true)),(59,jk i (.bool false)),(65, .junk)],st:=[] }
theorem iG (p:Pn) (a b:Int) (ha:0≤a∧a≤6) (hb:0≤b∧b≤6) (hd:p.headOk=true):aH C0 109 [.i (.iref p.cells), .int a, .int b] []=some (.int (dF p.kind p.exprs p.cols a b),[]):=by
 rw[aD rfl Tryz.func109 rfl rfl];have he:=Pn.uN hd;rw[Pn.aA];have hg:=wG p.cols a;have w1:IntKind.i64.wrap (a+b)=a+b:=wrO;by_cases h6:p.kind=6
 ·have h8:p.kind≠8:=by omega
  have h4:p.kind≠5:=by omega
  have hz:p.exprs=[]:=by
   simp only[Pn.headOk,zT,zM,h6]at hd;have:=hd.2.1;simp[eU]at this;exact this
  by_cases hab:a=b
  ·subst hab;simp[h6];rw[aG];simp[hz,h6,dF]
  ·simp[h6,hab,dF]
 by_cases h8:p.kind=8
 ·by_cases h9:p.cols.length<6
  ·have w3:IntKind.i64.wrap ((p.cols.length:Int)+1)=p.cols.length+1:=wrO
   cases hc:tH a p.cols<;>simp[h8,hg,h9,hc,dF,w3]
  ·simp[h8,hg,h9,dF]
 by_cases h45:p.kind=4∨p.kind=5
 ·by_cases hs:a+b≤6
  case neg=>rcases h45 with h4|h4<;>simp[h4,w1,show 6<a+b by omega,dF,hs]
  have h4:True:=trivial
  rcases h45 with h45|h45
  ·simp[h45,w1,show ¬ 6<a+b by omega];obtain⟨j,h1,h2⟩:=gG (Ex.ok (a+b)) p.exprs;rw[aS (WX p a b (a+b) true 1 0 false 0 0 false) j (by simp[WX,h45])]
   ·rw[aG]
    rcases h2 with ⟨hj,hall⟩|⟨x,h3,_,h5,hall⟩
    ·simp[WX,hj,hall,dF,h45,hs]
    ·have r1:=(zZ.1 h3).1;have r2:=Ex.aO h3;have r3:=ok_eq (a+b) x;rw[h5]at r3;rw[Ex.aA]at r2 r3;simp[WX,r1,r2,r3,hall,dF,h45,hs]
   ·intro i hi;obtain⟨x,h3,_,h5⟩:=h1 i hi;have r1:=(zZ.1 h3).1;have r2:=Ex.aO h3;have r3:=ok_eq (a+b) x;rw[h5]at r3;rw[Ex.aA]at r2 r3;have w2:IntKind.i64.wrap ((i:Int)+1)=i+1:=wrO;simp[WX,r1,r2,r3,w2,h45]
  ·simp[h45,w1,show ¬ 6<a+b by omega];obtain⟨j,h1,h2⟩:=gG (Ex.ok (a+b)) p.exprs;rw[aS (WX p a b (a+b) true 1 0 false 0 0 false) j (by simp[WX,h45])]
   ·rw[aG]
    rcases h2 with ⟨hj,hall⟩|⟨x,h3,_,h5,hall⟩
    ·simp[WX,hj,hall,dF,h45,hs]
    ·have r1:=(zZ.1 h3).1;have r2:=Ex.aO h3;have r3:=ok_eq (a+b) x;rw[h5]at r3;rw[Ex.aA]at r2 r3;simp[WX,r1,r2,r3,hall,dF,h45,hs]
   ·intro i hi;obtain⟨x,h3,_,h5⟩:=h1 i hi;have r1:=(zZ.1 h3).1;have r2:=Ex.aO h3;have r3:=ok_eq (a+b) x;rw[h5]at r3;rw[Ex.aA]at r2 r3;have w2:IntKind.i64.wrap ((i:Int)+1)=i+1:=wrO;simp[WX,r1,r2,r3,w2,h45]
 have h4:p.kind≠4:=by omega
 have h5':p.kind≠5:=by omega
 simp[h6,h8,h4,h5'];obtain⟨j,h1,h2⟩:=gG (Ex.ok (a)) p.exprs;rw[aS (WX p a b a false 0 1 false 0 1 false) j (by simp[WX,h6,h8,h5'])]
 ·rw[aG]
  rcases h2 with ⟨hj,hall⟩|⟨x,h3,_,h5,hall⟩
  ·by_cases h3':p.kind=3
   ·simp[WX,hj,hall,dF,h3']
   ·simp[WX,hj,hall,dF,h6,h8,h4,h5',h3']
  ·have r1:=(zZ.1 h3).1;have r2:=Ex.aO h3;have r3:=ok_eq (a) x;rw[h5]at r3;rw[Ex.aA]at r2 r3;by_cases h3':p.kind=3
   ·simp[WX,r1,r2,r3,hall,dF,h3']
   ·simp[WX,r1,r2,r3,hall,dF,h6,h8,h4,h5',h3']
 ·intro i hi;obtain⟨x,h3,_,h5⟩:=h1 i hi;have r1:=(zZ.1 h3).1;have r2:=Ex.aO h3;have r3:=ok_eq (a) x;rw[h5]at r3;rw[Ex.aA]at r2 r3;have w2:IntKind.i64.wrap ((i:Int)+1)=i+1:=wrO;simp[WX,r1,r2,r3,w2]
set_option maxHeartbeats 2000000
@[simp] theorem AbK:jJ 1=0:=by decide
@[simp] theorem AZO:eU 1=0:=by decide
@[simp] theorem AbJ:jJ 2=1:=by decide
@[simp] theorem AZN:eU 2=1:=by decide
@[simp] theorem AbI:jJ 3=1:=by decide
@[simp] theorem AZM:eU 3=1:=by decide
@[simp] theorem AbH:jJ 4=2:=by decide
@[simp] theorem AZL:eU 4=1:=by decide
@[simp] theorem AbG:jJ 5=2:=by decide
@[simp] theorem AZK:eU 5=1:=by decide
@[simp] theorem AbF:jJ 6=2:=by decide
@[simp] theorem AZJ:eU 6=0:=by decide
@[simp] theorem AbE:jJ 7=1:=by decide
@[simp] theorem AZI:eU 7=0:=by decide
@[simp] theorem AbD:jJ 8=1:=by decide
@[simp] theorem AZH:eU 8=0:=by decide
theorem AAL {k:Int} (h:k≠1∧k≠2∧k≠3∧k≠4∧k≠5∧k≠6∧k≠7∧k≠8):jJ k=-1:=by
 unfold jJ;rw[if_neg (by omega),if_neg (by omega),if_neg (by omega)]
theorem ZI {ws:List Int} {t:Int} {es:List Ex} {cs:List Int} {ks:List Pn} {lv:Nat} {k:Int} (h:k≠1∧k≠2∧k≠3∧k≠4∧k≠5∧k≠6∧k≠7∧k≠8):aH C0 84 [.i (.iref [.int k, .int t, .isl (Ex.aB es), .isl (aF cs), .isl (Pn.aB ks)]), .i (.isl (aF ws)), .int lv] []=some (.int 0,[]):=by
 rw[aD rfl Tryz.func84 rfl rfl];have c1:¬ (ks.length:Int)=-1:=by omega
 have hn:=AAL h;simp[h.2.2.1,hn,c1]
theorem AJK {ws:List Int} {t:Int} {es:List Ex} {cs:List Int} {ks:List Pn} {lv:Nat} (h:¬ ((ks.length:Int)=0∧(es.length:Int)=0∧True∧cs=[])):aH C0 84 [.i (.iref [.int 1, .int t, .isl (Ex.aB es), .isl (aF cs), .isl (Pn.aB ks)]), .i (.isl (aF ws)), .int lv] []=some (.int 0,[]):=by
 rw[aD rfl Tryz.func84 rfl rfl];by_cases c1:(ks.length:Int)=0
 case neg=>simp at c1;simp[c1]
 by_cases c2:(es.length:Int)=0
 case neg=>simp at c2;simp[c1,c2]
 by_cases c5:cs=[]
 case neg=>simp[c1,c2,c5]
 exact absurd (by simp[c1,c2,c5]) h
theorem AJJ {ws:List Int} {t:Int} {es:List Ex} {cs:List Int} {ks:List Pn} {lv:Nat} (h:¬ ((ks.length:Int)=1∧(es.length:Int)=1∧lv≠0∧t=0∧cs=[])):aH C0 84 [.i (.iref [.int 2, .int t, .isl (Ex.aB es), .isl (aF cs), .isl (Pn.aB ks)]), .i (.isl (aF ws)), .int lv] []=some (.int 0,[]):=by
 rw[aD rfl Tryz.func84 rfl rfl];by_cases c1:(ks.length:Int)=1
 case neg=>simp[c1]
 by_cases c2:(es.length:Int)=1
 case neg=>simp[c1,c2]
 by_cases c3:lv=0
 case pos=>subst c3;simp[c1,c2]
 have c3':¬ (lv:Int)=0:=by omega
 by_cases c4:t=0
 case neg=>simp[c1,c2,c3,c3',c4]
 by_cases c5:cs=[]
 case neg=>simp[c1,c2,c3,c3',c4,c5]
 exact absurd (by simp[c1,c2,c3,c3',c4,c5]) h
theorem AJI {ws:List Int} {t:Int} {es:List Ex} {cs:List Int} {ks:List Pn} {lv:Nat} (h:¬ ((ks.length:Int)=1∧(es.length:Int)=(if bH es.length=true then(es.length:Int)else 1)∧lv≠0∧t=0∧cs=[])):aH C0 84 [.i (.iref [.int 3, .int t, .isl (Ex.aB es), .isl (aF cs), .isl (Pn.aB ks)]), .i (.isl (aF ws)), .int lv] []=some (.int 0,[]):=by
 rw[aD rfl Tryz.func84 rfl rfl]
 cases hv:bH es.length
 ·have hq:(es.length:Int)≠1:=fun hq=>by rw[hq]at hv;simp[bH]at hv
  by_cases c1:(ks.length:Int)=1
  case neg=>simp[hv,c1]
  simp[hv,c1,hq]
 by_cases c1:(ks.length:Int)=1
 case neg=>simp[hv,c1]
 by_cases c3:lv=0
 case pos=>subst c3;simp[hv,c1]
 have c3':¬ (lv:Int)=0:=by omega
 by_cases c4:t=0
 case neg=>simp[hv,c1,c3,c3',c4]
 by_cases c5:cs=[]
 case neg=>simp[hv,c1,c3,c3',c4,c5]
 exact absurd (by simp[hv,c1,c3,c4,c5]) h
theorem AJH {ws:List Int} {t:Int} {es:List Ex} {cs:List Int} {ks:List Pn} {lv:Nat} (h:¬ ((ks.length:Int)=2∧(es.length:Int)=1∧lv≠0∧t=0∧cs=[])):aH C0 84 [.i (.iref [.int 4, .int t, .isl (Ex.aB es), .isl (aF cs), .isl (Pn.aB ks)]), .i (.isl (aF ws)), .int lv] []=some (.int 0,[]):=by
 rw[aD rfl Tryz.func84 rfl rfl];by_cases c1:(ks.length:Int)=2
 case neg=>simp[c1]
 by_cases c2:(es.length:Int)=1
 case neg=>simp[c1,c2]
 by_cases c3:lv=0
 case pos=>subst c3;simp[c1,c2]
 have c3':¬ (lv:Int)=0:=by omega
 by_cases c4:t=0
 case neg=>simp[c1,c2,c3,c3',c4]
 by_cases c5:cs=[]
 case neg=>simp[c1,c2,c3,c3',c4,c5]
 exact absurd (by simp[c1,c2,c3,c3',c4,c5]) h
theorem AJG {ws:List Int} {t:Int} {es:List Ex} {cs:List Int} {ks:List Pn} {lv:Nat} (h:¬ ((ks.length:Int)=2∧(es.length:Int)=1∧lv≠0∧t=0∧cs=[])):aH C0 84 [.i (.iref [.int 5, .int t, .isl (Ex.aB es), .isl (aF cs), .isl (Pn.aB ks)]), .i (.isl (aF ws)), .int lv] []=some (.int 0,[]):=by
 rw[aD rfl Tryz.func84 rfl rfl];by_cases c1:(ks.length:Int)=2
 case neg=>simp[c1]
 by_cases c2:(es.length:Int)=1
 case neg=>simp[c1,c2]
 by_cases c3:lv=0
 case pos=>subst c3;simp[c1,c2]
 have c3':¬ (lv:Int)=0:=by omega
 by_cases c4:t=0
 case neg=>simp[c1,c2,c3,c3',c4]
 by_cases c5:cs=[]
 case neg=>simp[c1,c2,c3,c3',c4,c5]
 exact absurd (by simp[c1,c2,c3,c3',c4,c5]) h
theorem AJF {ws:List Int} {t:Int} {es:List Ex} {cs:List Int} {ks:List Pn} {lv:Nat} (h:¬ ((ks.length:Int)=2∧(es.length:Int)=0∧lv≠0∧t=0∧cs=[])):aH C0 84 [.i (.iref [.int 6, .int t, .isl (Ex.aB es), .isl (aF cs), .isl (Pn.aB ks)]), .i (.isl (aF ws)), .int lv] []=some (.int 0,[]):=by
 rw[aD rfl Tryz.func84 rfl rfl];by_cases c1:(ks.length:Int)=2
 case neg=>simp[c1]
 by_cases c2:(es.length:Int)=0
 case neg=>simp at c2;simp[c1,c2]
 by_cases c3:lv=0
 case pos=>subst c3;simp[c1,c2]
 have c3':¬ (lv:Int)=0:=by omega
 by_cases c4:t=0
 case neg=>simp[c1,c2,c3,c3',c4]
 by_cases c5:cs=[]
 case neg=>simp[c1,c2,c3,c3',c4,c5]
 exact absurd (by simp[c1,c2,c3,c3',c4,c5]) h
theorem AJE {ws:List Int} {t:Int} {es:List Ex} {cs:List Int} {ks:List Pn} {lv:Nat} (h:¬ ((ks.length:Int)=1∧(es.length:Int)=0∧lv≠0∧t=0∧cs=[])):aH C0 84 [.i (.iref [.int 7, .int t, .isl (Ex.aB es), .isl (aF cs), .isl (Pn.aB ks)]), .i (.isl (aF ws)), .int lv] []=some (.int 0,[]):=by
 rw[aD rfl Tryz.func84 rfl rfl];by_cases c1:(ks.length:Int)=1
 case neg=>simp[c1]
 by_cases c2:(es.length:Int)=0
 case neg=>simp at c2;simp[c1,c2]
 by_cases c3:lv=0
 case pos=>subst c3;simp[c1,c2]
 have c3':¬ (lv:Int)=0:=by omega
 by_cases c4:t=0
 case neg=>simp[c1,c2,c3,c3',c4]
 by_cases c5:cs=[]
 case neg=>simp[c1,c2,c3,c3',c4,c5]
 exact absurd (by simp[c1,c2,c3,c3',c4,c5]) h
theorem AJD {ws:List Int} {t:Int} {es:List Ex} {cs:List Int} {ks:List Pn} {lv:Nat} (h:¬ ((ks.length:Int)=1∧(es.length:Int)=0∧lv≠0∧t=0)):aH C0 84 [.i (.iref [.int 8, .int t, .isl (Ex.aB es), .isl (aF cs), .isl (Pn.aB ks)]), .i (.isl (aF ws)), .int lv] []=some (.int 0,[]):=by
 rw[aD rfl Tryz.func84 rfl rfl];by_cases c1:(ks.length:Int)=1
 case neg=>simp[c1]
 by_cases c2:(es.length:Int)=0
 case neg=>simp at c2;simp[c1,c2]
 by_cases c3:lv=0
 case pos=>subst c3;simp[c1,c2]
 have c3':¬ (lv:Int)=0:=by omega
 by_cases c4:t=0
 case neg=>simp[c1,c2,c3,c3',c4]
 exact absurd (by simp[c1,c2,c3,c3',c4]) h
theorem AEO {ws:List Int} {t:Int} {lv:Nat}:aH C0 84 [.i (.iref [.int 1, .int t, .isl (Ex.aB []), .isl (aF []), .isl (Pn.aB [])]), .i (.isl (aF ws)), .int lv] []=some (.int (if 0≤t then(ws[t.toNat]?).getD 0 else 0),[]):=by
 rw[aD rfl Tryz.func84 rfl rfl];by_cases h0:0≤t
 case neg=>simp[Ex.aB,Pn.aB,aF,h0,show t<0 by omega]
 cases hx:ws[t.toNat]? with
 | none =>
  have:=zB7.1 hx;simp[Ex.aB,Pn.aB,aF,h0,show ¬ t<0 by omega,show(ws.length:Int)≤t by omega]
 | some x =>
  have r1:=(zZ.1 hx).1;have r2:=aX hx;simp[Ex.aB,Pn.aB,aF,h0,show ¬ t<0 by omega,show ¬ (ws.length:Int)≤t by omega,r2,show t<ws.length by omega]
theorem AEN {ws:List Int} {es:List Ex} {a:Pn} {lv:Nat} {va:Int} (hl:lv≠0) (hl8:lv≤8) (hd:Pn.headOk (Pn.mk 2 0 es [] [a])=true) (ha:aH C0 84 [.i (.iref a.cells), .i (.isl (aF ws)), .int (lv-1:Nat)] []=some (.int va,[])) (ra:0≤va∧va≤6):aH C0 84 [.i (.iref [.int 2, .int 0, .isl (Ex.aB es), .isl (aF []), .isl (Pn.aB [a])]), .i (.isl (aF ws)), .int lv] []=some (.int (if va=0 then 0 else dF 2 es [] va 0),[]):=by
 rw[aD rfl Tryz.func84 rfl rfl];have c3':¬ (lv:Int)=0:=by omega
 have w1:IntKind.i64.wrap ((lv:Int)-1)=(lv-1:Nat):=by rw[wrO];omega
 have r0:fT [a.cells] 0=some a.cells:=rfl;have hov:=iG (Pn.mk 2 0 es [] [a]) va 0 ra (by omega) hd;rw[Pn.bF]at hov;simp only[Pn.dW,Pn.bR,Pn.dZ,Pn.aB,aF,Ex.aB]at hov;rw[Pn.aA a]at ha hov r0
 have c2:(es.length:Int)=1:=by
  simp only[Pn.headOk,zT,zM,Pn.bR,Pn.dW]at hd;simpa using hd.2.1
 simp[c2,hl,c3',Pn.aB,aF,Ex.aB];rw[Pn.aA a];rw[aG];by_cases z1:va=0
 case pos=>simp[w1,ha,r0,z1]
 simp[w1,ha,r0,z1,dA];rw[aG];simp[hov,z1]
theorem AEM {ws:List Int} {es:List Ex} {a:Pn} {lv:Nat} {va:Int} (hl:lv≠0) (hl8:lv≤8) (hd:Pn.headOk (Pn.mk 3 0 es [] [a])=true) (ha:aH C0 84 [.i (.iref a.cells), .i (.isl (aF ws)), .int (lv-1:Nat)] []=some (.int va,[])) (ra:0≤va∧va≤6):aH C0 84 [.i (.iref [.int 3, .int 0, .isl (Ex.aB es), .isl (aF []), .isl (Pn.aB [a])]), .i (.isl (aF ws)), .int lv] []=some (.int (if va=0 then 0 else dF 3 es [] va 0),[]):=by
 rw[aD rfl Tryz.func84 rfl rfl];have c3':¬ (lv:Int)=0:=by omega
 have w1:IntKind.i64.wrap ((lv:Int)-1)=(lv-1:Nat):=by rw[wrO];omega
 have r0:fT [a.cells] 0=some a.cells:=rfl;have hov:=iG (Pn.mk 3 0 es [] [a]) va 0 ra (by omega) hd;rw[Pn.bF]at hov;simp only[Pn.dW,Pn.bR,Pn.dZ,Pn.aB,aF,Ex.aB]at hov;rw[Pn.aA a]at ha hov r0
 have hv:bH es.length=true∨(es.length:Int)=1:=by
  simp only[Pn.headOk,zT,zM,Pn.bR,Pn.dW]at hd;have:=hd.2.1;split at this
  ·rename_i h;exact .inl h.2
  ·exact .inr (by simpa using this)
 have hv:bH es.length=true:=by
  rcases hv with h|h
  ·exact h
  ·rw[h];decide
 simp[hv,hl,c3',Pn.aB,aF,Ex.aB];rw[Pn.aA a];rw[aG];by_cases z1:va=0
 case pos=>simp[w1,ha,r0,z1]
 simp[w1,ha,r0,z1,dA];rw[aG];simp[hov,z1]
theorem AEL {ws:List Int} {es:List Ex} {a b:Pn} {lv:Nat} {va vb:Int} (hl:lv≠0) (hl8:lv≤8) (hd:Pn.headOk (Pn.mk 4 0 es [] [a,b])=true) (ha:aH C0 84 [.i (.iref a.cells), .i (.isl (aF ws)), .int (lv-1:Nat)] []=some (.int va,[])) (ra:0≤va∧va≤6) (hb:aH C0 84 [.i (.iref b.cells), .i (.isl (aF ws)), .int (lv-1:Nat)] []=some (.int vb,[])) (rb:0≤vb∧vb≤6):aH C0 84 [.i (.iref [.int 4, .int 0, .isl (Ex.aB es), .isl (aF []), .isl (Pn.aB [a,b])]), .i (.isl (aF ws)), .int lv] []=some (.int (if va=0∨vb=0 then 0 else dF 4 es [] va vb),[]):=by
 rw[aD rfl Tryz.func84 rfl rfl];have c3':¬ (lv:Int)=0:=by omega
 have w1:IntKind.i64.wrap ((lv:Int)-1)=(lv-1:Nat):=by rw[wrO];omega
 have r0:fT [a.cells,b.cells] 0=some a.cells:=rfl;have r1:fT [a.cells,b.cells] 1=some b.cells:=rfl;have hov:=iG (Pn.mk 4 0 es [] [a,b]) va vb ra rb hd;rw[Pn.bF]at hov;simp only[Pn.dW,Pn.bR,Pn.dZ,Pn.aB,aF,Ex.aB]at hov;rw[Pn.aA a]at ha hov r0 r1;rw[Pn.aA b]at hb hov r0 r1
 have c2:(es.length:Int)=1:=by
  simp only[Pn.headOk,zT,zM,Pn.bR,Pn.dW]at hd;simpa using hd.2.1
 simp[c2,hl,c3',Pn.aB,aF,Ex.aB];rw[Pn.aA a,Pn.aA b];rw[aG];by_cases z1:va=0
 case pos=>simp[w1,ha,r0,z1]
 simp[w1,ha,r0,z1,dA];rw[aG];by_cases z2:vb=0
 case pos=>simp[w1,hb,r1,z2]
 simp[w1,hb,r1,z1,z2,wrap64 (x:=2) (by omega) (by omega)];rw[aG];simp[hov,z1,z2]
theorem AEK {ws:List Int} {es:List Ex} {a b:Pn} {lv:Nat} {va vb:Int} (hl:lv≠0) (hl8:lv≤8) (hd:Pn.headOk (Pn.mk 5 0 es [] [a,b])=true) (ha:aH C0 84 [.i (.iref a.cells), .i (.isl (aF ws)), .int (lv-1:Nat)] []=some (.int va,[])) (ra:0≤va∧va≤6) (hb:aH C0 84 [.i (.iref b.cells), .i (.isl (aF ws)), .int (lv-1:Nat)] []=some (.int vb,[])) (rb:0≤vb∧vb≤6):aH C0 84 [.i (.iref [.int 5, .int 0, .isl (Ex.aB es), .isl (aF []), .isl (Pn.aB [a,b])]), .i (.isl (aF ws)), .int lv] []=some (.int (if va=0∨vb=0 then 0 else dF 5 es [] va vb),[]):=by
 rw[aD rfl Tryz.func84 rfl rfl];have c3':¬ (lv:Int)=0:=by omega
 have w1:IntKind.i64.wrap ((lv:Int)-1)=(lv-1:Nat):=by rw[wrO];omega
 have r0:fT [a.cells,b.cells] 0=some a.cells:=rfl;have r1:fT [a.cells,b.cells] 1=some b.cells:=rfl;have hov:=iG (Pn.mk 5 0 es [] [a,b]) va vb ra rb hd;rw[Pn.bF]at hov;simp only[Pn.dW,Pn.bR,Pn.dZ,Pn.aB,aF,Ex.aB]at hov;rw[Pn.aA a]at ha hov r0 r1;rw[Pn.aA b]at hb hov r0 r1
 have c2:(es.length:Int)=1:=by
  simp only[Pn.headOk,zT,zM,Pn.bR,Pn.dW]at hd;simpa using hd.2.1
 simp[c2,hl,c3',Pn.aB,aF,Ex.aB];rw[Pn.aA a,Pn.aA b];rw[aG];by_cases z1:va=0
 case pos=>simp[w1,ha,r0,z1]
 simp[w1,ha,r0,z1,dA];rw[aG];by_cases z2:vb=0
 case pos=>simp[w1,hb,r1,z2]
 simp[w1,hb,r1,z1,z2,wrap64 (x:=2) (by omega) (by omega)];rw[aG];simp[hov,z1,z2]
theorem AEJ {ws:List Int} {a b:Pn} {lv:Nat} {va vb:Int} (hl:lv≠0) (hl8:lv≤8) (hd:Pn.headOk (Pn.mk 6 0 [] [] [a,b])=true) (ha:aH C0 84 [.i (.iref a.cells), .i (.isl (aF ws)), .int (lv-1:Nat)] []=some (.int va,[])) (ra:0≤va∧va≤6) (hb:aH C0 84 [.i (.iref b.cells), .i (.isl (aF ws)), .int (lv-1:Nat)] []=some (.int vb,[])) (rb:0≤vb∧vb≤6):aH C0 84 [.i (.iref [.int 6, .int 0, .isl (Ex.aB []), .isl (aF []), .isl (Pn.aB [a,b])]), .i (.isl (aF ws)), .int lv] []=some (.int (if va=0∨vb=0 then 0 else dF 6 [] [] va vb),[]):=by
 rw[aD rfl Tryz.func84 rfl rfl];have c3':¬ (lv:Int)=0:=by omega
 have w1:IntKind.i64.wrap ((lv:Int)-1)=(lv-1:Nat):=by rw[wrO];omega
 have r0:fT [a.cells,b.cells] 0=some a.cells:=rfl;have r1:fT [a.cells,b.cells] 1=some b.cells:=rfl;have hov:=iG (Pn.mk 6 0 [] [] [a,b]) va vb ra rb hd;rw[Pn.bF]at hov;simp only[Pn.dW,Pn.bR,Pn.dZ,Pn.aB,aF,Ex.aB]at hov;rw[Pn.aA a]at ha hov r0 r1;rw[Pn.aA b]at hb hov r0 r1;simp[hl,c3',Pn.aB,aF,Ex.aB];rw[Pn.aA a,Pn.aA b];rw[aG];by_cases z1:va=0
 case pos=>simp[w1,ha,r0,z1]
 simp[w1,ha,r0,z1,dA];rw[aG];by_cases z2:vb=0
 case pos=>simp[w1,hb,r1,z2]
 simp[w1,hb,r1,z1,z2,wrap64 (x:=2) (by omega) (by omega)];rw[aG];simp[hov,z1,z2]
theorem AEI {ws:List Int} {a:Pn} {lv:Nat} {va:Int} (hl:lv≠0) (hl8:lv≤8) (hd:Pn.headOk (Pn.mk 7 0 [] [] [a])=true) (ha:aH C0 84 [.i (.iref a.cells), .i (.isl (aF ws)), .int (lv-1:Nat)] []=some (.int va,[])) (ra:0≤va∧va≤6):aH C0 84 [.i (.iref [.int 7, .int 0, .isl (Ex.aB []), .isl (aF []), .isl (Pn.aB [a])]), .i (.isl (aF ws)), .int lv] []=some (.int (if va=0 then 0 else dF 7 [] [] va 0),[]):=by
 rw[aD rfl Tryz.func84 rfl rfl];have c3':¬ (lv:Int)=0:=by omega
 have w1:IntKind.i64.wrap ((lv:Int)-1)=(lv-1:Nat):=by rw[wrO];omega
 have r0:fT [a.cells] 0=some a.cells:=rfl;have hov:=iG (Pn.mk 7 0 [] [] [a]) va 0 ra (by omega) hd;rw[Pn.bF]at hov;simp only[Pn.dW,Pn.bR,Pn.dZ,Pn.aB,aF,Ex.aB]at hov;rw[Pn.aA a]at ha hov r0;simp[hl,c3',Pn.aB,aF,Ex.aB];rw[Pn.aA a];rw[aG];by_cases z1:va=0
 case pos=>simp[w1,ha,r0,z1]
 simp[w1,ha,r0,z1,dA];rw[aG];simp[hov,z1]
theorem AEH {ws:List Int} {cs:List Int} {a:Pn} {lv:Nat} {va:Int} (hl:lv≠0) (hl8:lv≤8) (hd:Pn.headOk (Pn.mk 8 0 [] cs [a])=true) (ha:aH C0 84 [.i (.iref a.cells), .i (.isl (aF ws)), .int (lv-1:Nat)] []=some (.int va,[])) (ra:0≤va∧va≤6):aH C0 84 [.i (.iref [.int 8, .int 0, .isl (Ex.aB []), .isl (aF cs), .isl (Pn.aB [a])]), .i (.isl (aF ws)), .int lv] []=some (.int (if va=0 then 0 else dF 8 [] cs va 0),[]):=by
 rw[aD rfl Tryz.func84 rfl rfl];have c3':¬ (lv:Int)=0:=by omega
 have w1:IntKind.i64.wrap ((lv:Int)-1)=(lv-1:Nat):=by rw[wrO];omega
 have r0:fT [a.cells] 0=some a.cells:=rfl;have hov:=iG (Pn.mk 8 0 [] cs [a]) va 0 ra (by omega) hd;rw[Pn.bF]at hov;simp only[Pn.dW,Pn.bR,Pn.dZ,Pn.aB,aF,Ex.aB]at hov;rw[Pn.aA a]at ha hov r0;simp[hl,c3',Pn.aB,aF,Ex.aB];rw[Pn.aA a];rw[aG];by_cases z1:va=0
 case pos=>simp[w1,ha,r0,z1]
 simp[w1,ha,r0,z1,dA];rw[aG];simp[hov,z1]
theorem nP (k t:Int) (es:List Ex) (cs:List Int) (ks:List Pn):Pn.headOk (.mk k t es cs ks)=true↔((ks.length:Int)=jJ k∧(es.length:Int)=(if k=3∧bH es.length=true then(es.length:Int)else eU k)∧(k=1∨t=0)∧(k=8∨cs=[])):=by
 unfold Pn.headOk;simp only[zT,zE8,zM];exact Iff.rfl
theorem mQ {α:Type} {l:List α} (h:(l.length:Int)=1):∃ a,l=[a]:=List.length_eq_one_iff.1 (by omega)
theorem FN {α:Type} {l:List α} (h:(l.length:Int)=2):∃ a b,l=[a,b]:=by
 match l,h with
 | [a,b],_=>exact⟨a,b,rfl⟩
 | [],h=>simp at h
 | [_],h=>simp at h
 | _::_::_::_,h=>simp at h;omega
theorem iB {α:Type} {l:List α} (h:(l.length:Int)=0):l=[]:=zW.1 (by omega)
theorem CE {ws:List Int} (hw:∀ w∈ws,0≤w∧w≤6):∀ (p:Pn) (lv:Nat),lv≤8→aH C0 84 [.i (.iref p.cells), .i (.isl (aF ws)), .int lv] []=some (.int (p.wd ws lv),[]):=by
 intro p
 induction p using Pn.ind with
 | h k t es cs ks ih =>
  intro lv hlv;rw[Pn.bF];by_cases hh:Pn.headOk (.mk k t es cs ks)=true∧(ks=[]∨lv≠0)
  case neg =>
   rw[Pn.AC5 hh];rw[nP]at hh
   rcases uF k with rfl|rfl|rfl|rfl|rfl|rfl|rfl|rfl|h
   ·refine AJK fun h=>hh ?_
    have:=iB h.1;simp[h.2.1,h.2.2.2,this]
   ·exact AJJ fun h=>hh (by simp[h.1,h.2.1,h.2.2.1,h.2.2.2.1,h.2.2.2.2])
   ·exact AJI fun h=>hh (by refine⟨⟨by simp[h.1],by simpa using h.2.1,by simp[h.2.2.2.1],by simp[h.2.2.2.2]⟩, .inr h.2.2.1⟩)
   ·exact AJH fun h=>hh (by simp[h.1,h.2.1,h.2.2.1,h.2.2.2.1,h.2.2.2.2])
   ·exact AJG fun h=>hh (by simp[h.1,h.2.1,h.2.2.1,h.2.2.2.1,h.2.2.2.2])
   ·exact AJF fun h=>hh (by simp[h.1,iB h.2.1,h.2.2.1,h.2.2.2.1,h.2.2.2.2])
   ·exact AJE fun h=>hh (by simp[h.1,iB h.2.1,h.2.2.1,h.2.2.2.1,h.2.2.2.2])
   ·exact AJD fun h=>hh (by simp[h.1,iB h.2.1,h.2.2.1,h.2.2.2])
   ·exact ZI h
  have hd:=hh.1;have hx:=Pn.A9 ws lv (.mk k t es cs ks);rw[if_pos (by simpa using hh)]at hx;simp only[Pn.dW,Pn.gH,Pn.bR,Pn.dZ,Pn.fB]at hx;rw[hx];rw[nP]at hh;obtain⟨⟨h1,h2,h3,h4⟩,h5⟩:=hh;have hr:=fun a=>Pn.qV hw a (lv-1)
  rcases uF k with rfl|rfl|rfl|rfl|rfl|rfl|rfl|rfl|h
  ·obtain rfl:=iB (by simpa using h1);obtain rfl:es=[]:=iB (by simpa using h2);obtain rfl:cs=[]:=by simpa using h4
   exact AEO
  ·obtain⟨a,rfl⟩:=mQ (by simpa using h1);obtain rfl:cs=[]:=by simpa using h4
   obtain rfl:t=0:=by simpa using h3
   have hl:lv≠0:=by simpa using h5
   rw[AEN hl hlv hd (ih a (by simp) (lv-1) (by omega)) (hr a)];by_cases z:a.wd ws (lv-1)=0<;>simp[z]
  ·obtain⟨a,rfl⟩:=mQ (by simpa using h1);obtain rfl:cs=[]:=by simpa using h4
   obtain rfl:t=0:=by simpa using h3
   have hl:lv≠0:=by simpa using h5
   rw[AEM hl hlv hd (ih a (by simp) (lv-1) (by omega)) (hr a)];by_cases z:a.wd ws (lv-1)=0<;>simp[z]
  ·obtain⟨a,b,rfl⟩:=FN (by simpa using h1);obtain rfl:cs=[]:=by simpa using h4
   obtain rfl:t=0:=by simpa using h3
   have hl:lv≠0:=by simpa using h5
   rw[AEL hl hlv hd (ih a (by simp) (lv-1) (by omega)) (hr a) (ih b (by simp) (lv-1) (by omega)) (hr b)];by_cases z:a.wd ws (lv-1)=0<;>by_cases z2:b.wd ws (lv-1)=0<;>simp[z,z2]
  ·obtain⟨a,b,rfl⟩:=FN (by simpa using h1);obtain rfl:cs=[]:=by simpa using h4
   obtain rfl:t=0:=by simpa using h3
   have hl:lv≠0:=by simpa using h5
   rw[AEK hl hlv hd (ih a (by simp) (lv-1) (by omega)) (hr a) (ih b (by simp) (lv-1) (by omega)) (hr b)];by_cases z:a.wd ws (lv-1)=0<;>by_cases z2:b.wd ws (lv-1)=0<;>simp[z,z2]
  ·obtain⟨a,b,rfl⟩:=FN (by simpa using h1);obtain rfl:es=[]:=iB (by simpa using h2);obtain rfl:cs=[]:=by simpa using h4
   obtain rfl:t=0:=by simpa using h3
   have hl:lv≠0:=by simpa using h5
   rw[AEJ hl hlv hd (ih a (by simp) (lv-1) (by omega)) (hr a) (ih b (by simp) (lv-1) (by omega)) (hr b)];by_cases z:a.wd ws (lv-1)=0<;>by_cases z2:b.wd ws (lv-1)=0<;>simp[z,z2]
  ·obtain⟨a,rfl⟩:=mQ (by simpa using h1);obtain rfl:es=[]:=iB (by simpa using h2);obtain rfl:cs=[]:=by simpa using h4
   obtain rfl:t=0:=by simpa using h3
   have hl:lv≠0:=by simpa using h5
   rw[AEI hl hlv hd (ih a (by simp) (lv-1) (by omega)) (hr a)];by_cases z:a.wd ws (lv-1)=0<;>simp[z]
  ·obtain⟨a,rfl⟩:=mQ (by simpa using h1);obtain rfl:es=[]:=iB (by simpa using h2);obtain rfl:t=0:=by simpa using h3
   have hl:lv≠0:=by simpa using h5
   rw[AEH hl hlv hd (ih a (by simp) (lv-1) (by omega)) (hr a)];by_cases z:a.wd ws (lv-1)=0<;>simp[z]
  ·exact absurd h1 (by rw[AAL h];omega)
def VX (ws:List Int) (i:Nat):AS :=
 { env:=[(0, .i (.isl (aF ws))),(2, .bool false),(4,jk i (.int (ws[i-1]?.getD 0))),(12, .bool false),(13, .i (.isl (aF ws))),(14, .int ws.length),(15, .int i),(16,jk i (.bool true)),(21,jk i (.bool false))],st:=[] }
theorem N9 (ws:List Int):aH C0 83 [.i (.isl (aF ws))] []=some (.bool (kH ws),[]):=by
 rw[aD rfl Tryz.func83 rfl rfl];by_cases h1:ws.length=0
 ·have:=zW.1 h1;subst this;simp[aF,kH]
 by_cases h4:ws.length≤4
 case neg=>simp[kH,h4,show ¬ (ws.length:Int)<1 by omega,show 4<(ws.length:Int)by omega]
 simp[show ¬ (ws.length:Int)<1 by omega,show ¬ 4<(ws.length:Int)by omega];obtain⟨j,h1',h2⟩:=gG bH ws;rw[aS (VX ws) j (by simp[VX])]
 ·rw[aG]
  rcases h2 with ⟨hj,ha⟩|⟨x,h3,_,h5,ha⟩
  ·simp[VX,hj,kH,h4,ha,show 1≤ws.length by omega]
  ·have r1:=(zZ.1 h3).1;have r2:=aX h3;simp[VX,r1,r2,h5,kH,ha]
 ·intro i hi;obtain⟨x,h3,_,h5⟩:=h1' i hi;have r1:=(zZ.1 h3).1;have r2:=aX h3;have w2:IntKind.i64.wrap ((i:Int)+1)=i+1:=wrO;have h3':ws[i]=x:=(zZ.1 h3).2;simp[VX,r1,r2,h5,w2,h3']
theorem l7 {ws:List Int} (h:kH ws=true):∀ w∈ws,0≤w∧w≤6:=by
 intro w hw;simp only[kH,zT]at h;have:=zQ.1 h.2 w hw;simp[bH]at this;omega
theorem oW (p:Pn) (ws:List Int):aH C0 64 [.i (.agg p.cells), .i (.isl (aF ws))] []=some (.int (p.width ws),[]):=by
 rw[aD rfl Tryz.func64 rfl rfl];have hv:=N9 ws
 cases h:kH ws with
 | false=>rw[h]at hv;rw[Pn.aA];simp[hv,Pn.width,h]
 | true =>
  rw[h]at hv;have hb:=CE (l7 h) p 8 (by omega);rw[show((8:Nat):Int)=8 from rfl]at hb;rw[Pn.aA]at hb ⊢;simp[hv,Pn.width,h,hb]
set_option maxHeartbeats 4000000
def VSX (s:Sts) (i:Nat):AS :=
 { env:=[(0, .i (.agg [.int s.rows, .isl (aF s.d), .isl (aF s.n)])),(1, .int s.d.length),(2, .own 0 0),(4, .bool false),(5,jk i (.int ((i:Int)-1))),(18, .bool false),(30, .bool false),(31, .int s.d.length),(32, .int i),(33,jk i (.bool true)),(50,jk i (.bool false)),(72,jk i (.bool false))],
   st:=[some (.box [.int s.rows, .i (.isl (aF s.d)), .i (.isl (aF s.n))])] }
theorem mY (s:Sts) (hd:s.d.length<1000000000) (hn:s.n.length<1000000000):aH C0 81 [.i (.agg [.int s.rows, .isl (aF s.d), .isl (aF s.n)]), .int s.d.length] []=some (.bool s.ok,[]):=by
 rw[aD rfl Tryz.func81 rfl rfl];have hw:=Q0 (s.d.length:Int);unfold Sts.ok
 cases hq:bH s.d.length with
 | false=>rw[hq]at hw;simp[hw]
 | true =>
  rw[hq]at hw;have hq6:(s.d.length:Int)≤6:=by unfold bH at hq;simp at hq;omega
  by_cases h0:s.rows<0
  ·simp[hw,h0,show ¬ 0≤s.rows by omega]
  by_cases h4:400<s.rows
  ·simp[hw,h0,h4,show ¬ s.rows≤400 by omega,show 400<s.rows from h4]
  by_cases hl:s.n.length=s.d.length
  case neg =>
   have hl':¬ (s.n.length:Int)=s.d.length:=by omega
   have hf:s.okL s.d s.n=false:=by
    cases h:s.okL s.d s.n with
    | false=>rfl
    | true=>exact absurd (Sts.QP h) hl
   simp[hw,h0,h4,hl',hf]
  have r0:0≤s.rows:=by omega
  have r1:s.rows≤400:=by omega
  obtain⟨j,h1,h2⟩:=s.QO s.d s.n hl;simp[hw,h0,h4,hl,r0,r1];rw[aS (VSX s) j (by simp[VSX])]
  ·rw[aG]
   rcases h2 with ⟨hj,ho⟩|⟨d,n,e1,e2,hc,ho⟩
   ·rw[ho];by_cases hz:s.d.length=0
    ·simp[bH,hz]at hq
    ·simp[VSX,hj,hz]
   ·rw[ho];have hjl:=(zZ.1 e1).1;have q1:=aX e1;have q2:=aX e2;have hjn:j<s.n.length:=by omega
    have wr:0≤n→n≤s.rows→IntKind.i64.wrap (s.rows-n)=s.rows-n:=fun a b=>wrO
    unfold Sts.okC at hc;by_cases c1:n<0
    ·simp[VSX,hjl,hjn,q1,q2,c1]
    ·by_cases c2:s.rows<n
     ·simp[VSX,hjl,hjn,q1,q2,c1,c2]
     ·have w:=wr (by omega) (by omega);by_cases c3:d<0
      ·simp[VSX,hjl,hjn,q1,q2,c1,c2,c3,w]
      ·have c4:s.rows-n<d:=by
        simp[show 0≤n by omega,show n≤s.rows by omega,show 0≤d by omega]at hc;omega
       simp[VSX,hjl,hjn,q1,q2,c1,c2,c3,c4,w]
  ·intro i hi;obtain⟨d,n,e1,e2,hc⟩:=h1 i hi;obtain⟨c1,c2,c3,c4⟩:=Sts.Y5.1 hc;have hil:=(zZ.1 e1).1;have q1:=aX e1;have q2:=aX e2;have hin:i<s.n.length:=by omega
   have w:IntKind.i64.wrap (s.rows-n)=s.rows-n:=wrO;have w2:IntKind.i64.wrap ((i:Int)+1)=i+1:=wrO;have n1:¬ n<0:=by omega
   have n2:¬ s.rows<n:=by omega
   have n3:¬ d<0:=by omega
   have n4:¬ s.rows-n<d:=by omega
   simp[VSX,hil,hin,q1,q2,n1,n2,n3,n4,w,w2]
theorem PK (e:Ex):aH C0 126 [.i (.iref e.cells)] []=some (.int (RQ e.val),[]):=by
 have h:=ACA e.val.null e.val.n;rw[aD rfl Tryz.func126 rfl rfl,Ex.aA];unfold RQ;by_cases ht:e.val.tr=2
 ·simp[h,ht]
 ·simp[h,ht]
theorem AE1 {s:Sts} (hs:s.ok=true) {e a b:Ex} (hk:e.kids=[a,b]) (ha:a.wf s.d.length=true):aH C0 127 [.i (.iref e.cells), .i (.iref [.int s.rows, .isl (aF s.d), .isl (aF s.n)])] []=some (.int (AT8 s a b),[]):=by
 rw[aD rfl Tryz.func127 rfl rfl,Ex.aA,hk];unfold AT8;simp only[Ex.aB];rw[Ex.aA a,Ex.aA b];by_cases h1:a.kind=1
 case neg=>simp[h1]
 by_cases h2:b.kind=2
 case neg=>simp[h1,h2]
 cases h3:b.val.null with
 | true=>simp[h1,h2,h3]
 | false =>
  obtain⟨c0,c1,_⟩:=Ex.mV ha h1;obtain⟨d,n,e1,e2,n0,n1,d0,d1⟩:=Sts.col hs c0 c1;have hr:s.rows≤400:=(Sts.wU.1 hs).2.2.1;have q1:=aX e1;have q2:=aX e2;have hl:=(zZ.1 e2).1;have c2:a.col<(s.n.length:Int):=by omega
  have w1:IntKind.i64.wrap (s.rows-n)=s.rows-n:=wrO;have w2:IntKind.i64.wrap (1000*(s.rows-n))=1000*(s.rows-n):=wrO;obtain⟨m0,m1⟩:=FI (show 0≤s.rows by omega) hr d0 (show d≤400 by omega);have w3:IntKind.i64.wrap (s.rows*d)=s.rows*d:=wrO;rw[e1,e2];by_cases r0:s.rows=0
  ·simp[h1,h2,h3,r0,c0,c1,q1]
  by_cases d00:d=0
  ·simp[h1,h2,h3,r0,c0,c1,q1,d00]
  ·have hm:s.rows*d≠0:=by
    intro h
    rcases Int.mul_eq_zero.1 h with h|h
    ·exact r0 h
    ·exact d00 h
   have hm2:(s.rows*d != 0)=true:=by simpa using hm
   have hrg:=sD (c:=1000) (show 0≤1000*(s.rows-n)by omega) (show 0<s.rows*d by omega) (by
    have hm1:s.rows*1≤s.rows*d:=zA1 (show 1≤d by omega) (by omega)
    omega)
   have w4:IntKind.i64.wrap ((1000*(s.rows-n)).tdiv (s.rows*d))=(1000*(s.rows-n)).tdiv (s.rows*d):=wrO;simp[h1,h2,h3,r0,c0,c1,c2,q1,q2,d00,w1,w2,w3,w4,hm2]
theorem NE {s:Sts} (hs:s.ok=true):∀ (e:Ex),e.wf s.d.length=true→aH C0 107 [.i (.iref e.cells), .i (.iref [.int s.rows, .isl (aF s.d), .isl (aF s.n)])] []=some (.int (e.sel s),[]):=by
 intro e
 induction e using Ex.ind with
 | h k c v ks ih =>
  intro hw;have hk:=vW hw
  have hi:∀ a∈ks,aH C0 107 [.i (.iref a.cells), .i (.iref [.int s.rows, .isl (aF s.d), .isl (aF s.n)])] []=some (.int (a.sel s),[])∧0≤a.sel s∧a.sel s≤1000∧a.wf s.d.length=true:=fun a ha =>
   have hwa:=Ex.gX hw ha
   ⟨ih a ha hwa,(AO hs a hwa).1,(AO hs a hwa).2,hwa⟩
  have hcon:=PK (.mk k c v ks);rw[Ex.AGE];generalize hE:Ex.mk k c v ks=E at *
  have hks:ks=E.kids:=by rw[← hE];rfl
  rw[hks]at hi;rw[aD rfl Tryz.func107 rfl rfl];rw[Ex.aA E]at hcon ⊢;unfold AWJ
  rcases hk with ⟨k1,ck⟩|⟨k1,ck⟩|⟨k1,a,ck⟩|⟨k1,k2,k3,k4,a,b,ck⟩
  ·simp[k1]
  ·simp[k1]at hcon;simp[k1,hcon]
  ·rw[ck]at hi hcon ⊢;obtain⟨i1,r0,r1,hwa⟩:=hi a (by simp);have w1:IntKind.i64.wrap (1000-a.sel s)=1000-a.sel s:=wrO
   rcases k1 with k1|k1
   ·simp[k1,Ex.aB,i1,w1]
   ·unfold AD8;simp only[Ex.aB];rw[Ex.aA a];by_cases h1:a.kind=1
    case neg=>simp[k1,h1]
    by_cases h2:s.rows=0
    ·simp[k1,h1,h2]
    ·obtain⟨c0,c1,_⟩:=Ex.mV hwa h1;obtain⟨d,n,e1,e2,n0,n1,d0,d1⟩:=Sts.col hs c0 c1;have hr:s.rows≤400:=(Sts.wU.1 hs).2.2.1;have q2:=aX e2;have hl:=(zZ.1 e2).1;have c2:a.col<(s.n.length:Int):=by omega
     have hrg:=sD (c:=1000) (show 0≤1000*n by omega) (show 0<s.rows by omega) (by omega);have hm2:(s.rows != 0)=true:=by simpa using h2
     have w2:IntKind.i64.wrap (1000*n)=1000*n:=wrO;have w3:IntKind.i64.wrap ((1000*n).tdiv s.rows)=(1000*n).tdiv s.rows:=wrO;have e2':(s.n[a.col.toNat]?).getD 0=n:=by rw[e2];rfl
     simp[k1,h1,h2,c0,c2,q2,w2,w3,hm2];have hg:s.n[a.col.toNat]=n:=(zZ.1 e2).2;rw[hg]
  ·rw[ck]at hi;obtain⟨i1,r0,r1,hwa⟩:=hi a (by simp);obtain⟨i2,r2,r3,hwb⟩:=hi b (by simp);have heq:=AE1 (b:=b) hs (e:=E) ck hwa;rw[Ex.aA E]at heq;rw[ck]at hcon heq ⊢;obtain⟨p1,p2,p3,p4,p5,p6,p7⟩:=OH r0 r1 r2 r3;have w1:IntKind.i64.wrap (a.sel s*b.sel s)=a.sel s*b.sel s:=wrO;have w2:IntKind.i64.wrap ((a.sel s*b.sel s).tdiv 1000)=(a.sel s*b.sel s).tdiv 1000:=wrO;have w3:IntKind.i64.wrap (a.sel s+b.sel s)=a.sel s+b.sel s:=wrO;have w4:IntKind.i64.wrap (a.sel s+b.sel s-(a.sel s*b.sel s).tdiv 1000)=a.sel s+b.sel s-(a.sel s*b.sel s).tdiv 1000:=wrO;simp only[Ex.aB]at heq hcon ⊢;by_cases h8:E.kind=8
   ·simp[h8,i1,i2,w1,w2]
   by_cases h9:E.kind=9
   ·simp[h9,i1,i2,w1,w2,w3,w4]
   by_cases h6:E.kind=6
   ·simp[h6]at heq;simp[h6,heq]
   by_cases h7:E.kind=7
   ·simp[h7]
   ·simp[k1,k2,k3,k4,h8,h9,h6,h7]
theorem P6 {w:Int}:∀ (e:Ex),e.wf w=true→aH C0 106 [.i (.iref e.cells)] []=some (.int e.fix,[]):=by
 intro e
 induction e using Ex.ind with
 | h k c v ks ih =>
  intro hw;have hk:=vW hw
  have hi:∀ a∈ks,aH C0 106 [.i (.iref a.cells)] []=some (.int a.fix,[])∧0≤a.fix∧a.fix≤1000:=fun a ha =>
   have hwa:=Ex.gX hw ha
   ⟨ih a ha hwa,uS a hwa⟩
  have hcon:=PK (.mk k c v ks);rw[Ex.AIK];generalize hE:Ex.mk k c v ks=E at *
  have hks:ks=E.kids:=by rw[← hE];rfl
  rw[hks]at hi;rw[aD rfl Tryz.func106 rfl rfl];rw[Ex.aA E]at hcon ⊢;unfold AY5
  rcases hk with ⟨k1,ck⟩|⟨k1,ck⟩|⟨k1,a,ck⟩|⟨k1,k2,k3,k4,a,b,ck⟩
  ·simp[k1]
  ·simp[k1]at hcon;simp[k1,hcon]
  ·rcases k1 with k1|k1<;>simp[k1]
  ·rw[ck]at hi hcon ⊢;obtain⟨i1,r0,r1⟩:=hi a (by simp);obtain⟨i2,r2,r3⟩:=hi b (by simp);obtain⟨p1,p2,p3,p4,p5,p6,p7⟩:=OH r0 r1 r2 r3;have w1:IntKind.i64.wrap (a.fix*b.fix)=a.fix*b.fix:=wrO;have w2:IntKind.i64.wrap ((a.fix*b.fix).tdiv 1000)=(a.fix*b.fix).tdiv 1000:=wrO;simp only[Ex.aB];by_cases h8:E.kind=8
   ·simp[h8,i1,i2,w1,w2]
   by_cases h6:E.kind=6
   ·simp[h6]
   ·simp[k2,h8,h6]
end Go.Proofs.YtgiepjdnkonkgaaGreat.P
namespace Go.Proofs.YtgiepjdnkonkgaaGreat
open Go Go.Av
set_option maxRecDepth 4000
noncomputable def C1:Ctx:={ P:=Tryz.prog,G:=GS,ownArgs:=bU,keepRes:=keepR,eqT:=ED,prim:=fun _=>none }
@[simp] theorem AtW:C1.P=Tryz.prog:=(rfl)
@[simp] theorem AtX (f):C1.G f=GS f:=(rfl)
@[simp] theorem AtT (f):C1.ownArgs f=bU f:=(rfl)
@[simp] theorem AtU (f):C1.keepRes f=keepR f:=(rfl)
@[simp] theorem AtV (f):C1.eqT f=ED f:=(rfl)
@[simp] theorem AtS:C1.tree=false:=(rfl)
theorem AIW:aH C1 58 [.i (.isl [])] []=some (.nils,[]):=by
 rw[aD rfl Tryz.func58 rfl rfl];simp
theorem ABF {ks:List Ex} (h:ks≠[]) (hl:ks.length<1000000000):aH C1 58 [.i (.isl (Ex.aB ks))] []=some (.osl 0 5 0 ks.length,[some (.arr 5 (Ex.aB ks))]):=by
 rw[aD rfl Tryz.func58 rfl rfl];have h1:56*(ks.length:Int)≤281474976710656:=by omega
 simp[h,h1];unfold over;simp
theorem iA:SoundOk C1:=iU (C:=C1) ft nt eqS mo (AGZ fun _=>rfl)
def ptr (p:Nat×Nat):IV:=.lit (.pointer (some ⟨p.1,p.2,none⟩))
def zc:List AV:=[.int 0, .int 0, .bool false, .int 0, .nils]
def ATW (p:Nat×Nat):AS:={ env:=[(0, .i (ptr p))],st:=[] }
def AcA (e:Ex) (p:Nat×Nat):AS:={ env:=[(0, .i (ptr p)),(2, .own 0 0),(3, .own 1 0),(4, .junk),(5, .junk),(6, .junk),(13, .junk),(37, .junk),(38, .junk),(39, .junk)],st:=[some (.box zc),some (.box (lF e.cells))] }
def SL (b3:Nat) (todo X:KL):AS :=
 { env:=[(0, .junk),(2, .own 0 0),(3, .i (ptr (b3,0))),(4, .osl 1 1 0 todo.length),(5, .junk),(6, .junk),(13, .junk),(37, .junk),(38, .junk),(39, .junk)],st:=[some (.box zc),some (.arr 1 ((todo++X).map fun k=>[ptr k.1]))] }
theorem KM:∀ (l:KL),∀ c∈(l.map fun k=>[ptr k.1]).flatten,∃ v,c=.lit v
 | [],c,h=>by simp at h
 | k::l,c,h=>by
  simp only[yS,z8,zV,zA6]at h
  rcases h with rfl|h
  ·exact⟨_,rfl⟩
  ·exact KM l c h
def PP (b3:Nat) (b o n:Nat) (x:Ex) (ES:List (List IV)) (env:Nat→AV) (st:Store):Prop :=
 env 2=.own 0 0∧env 3=.i (ptr (b3,0))∧env 4=.osl 1 1 0 n∧env 5=.i (ptr (b,o))∧env 32=.i (ptr (b,o+4))∧st 0=some (.box zc)∧st 1=some (.arr 1 ES) ∧
  ((env 30=.nils∧x.kids=[])∨∃ id,env 30=.osl id 5 0 x.kids.length∧x.kids≠[]∧st id=some (.arr 5 (Ex.aB x.kids))∧2≤id)
theorem AFH:IntKind.i64.wrap 1=1:=wrO
def RW (init:KL) (b' i:Nat):List (List IV):=(init.map fun k=>[ptr k.1])++(List.range i).map fun j=>[ptr (b',j*5)]
theorem X4 (init:KL) (b' i:Nat):(RW init b' i).length=init.length+i:=by simp[RW]
theorem N7 (init:KL) (b' i:Nat):RW init b' i++[[ptr (b',i*5)]]=RW init b' (i+1):=by simp[RW,zC8]
theorem qF (b:Nat):∀ (o:Nat) (l:List Ex),(bL b o l).map (fun k=>[ptr k.1])=(List.range l.length).map fun j=>[ptr (b,o+j*5)]
 | _,[]=>by simp[bL]
 | o,a::l=>by
  simp only[bL,yS,qF b (o+5) l,zP,zE1,List.map_map];simp only[List.cons.injEq,Nat.zero_mul,yE,true_and];apply zD4;intro j _;simp only[Function.comp,Nat.succ_eq_add_one];rw[show o+5+j*5=o+(j+1)*5 by omega]
theorem qG (b:Nat):∀ (o:Nat) (l:List Ex),(bL b o l).length=l.length
 | _,[]=>rfl
 | o,a::l=>by simp[bL,qG b (o+5) l]
theorem qE (b:Nat):∀ (o:Nat) (l:List Ex),((bL b o l).map fun k=>k.2.size).sum=Ex.aL l
 | _,[]=>rfl
 | o,a::l=>by simp[bL,Ex.aL,qE b (o+5) l]
def YS (b3 b' cap:Nat) (x:Ex) (init:KL) (ES:List (List IV)) (i:Nat):AS :=
 { env:=[(0, .junk),(2, .own 0 0),(3, .i (ptr (b3,0))),(4,if i=0 then .osl 1 1 0 init.length else .osl 2 1 0 (init.length+i)),(5, .i (.iref [.int x.kind, .int x.col, .bool x.val.null, .int x.val.n, .lit (.slice (some ⟨b',0,none⟩) x.kids.length cap)])),(6,jk i (.int (i-1))),(13, .junk),(37, .int x.kids.length),(38, .int i),(39,jk i (.bool true))],
   st:=some (.box zc)::if i=0 then [some (.arr 1 ES)]else [none,some (.arr 1 (RW init b' i))] }
set_option maxHeartbeats 1000000
theorem VY {e:Ex} (he:e.size<1000000000) {wi:World} {mi:Mem} {b o:Nat} (hi:Inv wi mi (fun _=>none) (aR []))
 (hrun:∀ w',wi.heap.size≤w'.heap.size→(∀ f,f<wi.heap.size→w'.heap[f]?=wi.heap[f]?)→∃ y,(Instr.loadAt 86 (.pointer (some ⟨b,o,none⟩))).run C1.P w'=.ok y w'∧IRep mi (.agg e.cells) y) :
 Calls Tryz.prog 59 #[.pointer (some ⟨b,o,none⟩)] wi (bS wi mi (fun _=>none) (.i (.agg e.cells)) []):=by
 refine calls_of_wp (fn:=Tryz.f59) Tryz.func59 rfl ?_
 have g0:GG wi mi 52 (fun id=>id<(ATW (b,o)).st.length) [] (aJ (ATW (b,o)).env) (aR (ATW (b,o)).st) { tmps:=[Value.pointer (some ⟨b,o,none⟩)].toArray++Array.replicate (52-1) undef,defers:=[] } wi:=by
  refine⟨⟨mi,fun _=>none,hi,?_, .refl _ _ _,fun id h=>absurd rfl h,fun k hk=>by simp at hk⟩,by simp,rfl⟩;intro t;have:=mG (m:=mi) (φ:=fun _=>none) (52-1) (show RepL mi (fun _=>none) [.i (ptr (b,o))] [.pointer (some ⟨b,o,none⟩)]from .cons (.i (.lit _)) .nil) t
  cases t with
  | zero=>simpa [ATW,aJ,sN]using this
  | succ t=>simp only[ATW,aJ];simp;exact .junk _
 refine wp_seq (wp_mono (GG.eF iA (G:=GS 59) (S:=ATW (b,o)) (e:=.normal) (S':={ env:=[(0, .i (ptr (b,o))),(2, .own 0 0),(3, .junk),(4, .junk),(5, .junk),(6, .junk),(13, .junk),(37, .junk),(38, .junk),(39, .junk)],st:=[some (.box zc)] }) (by kernel_rfl) (by simp[ATW,zc,ptr]) g0) ?_);rintro _ a1 w1 ⟨rfl,g1⟩
 refine wp_seq (GG.ARH iA (os1:=[_,_]) (os2:=[_,_]) (G:=GS 59) (S:={ env:=[(0, .i (ptr (b,o))),(2, .own 0 0),(3, .junk),(4, .junk),(5, .junk),(6, .junk),(13, .junk),(37, .junk),(38, .junk),(39, .junk)],st:=[some (.box zc)] }) (S':=AcA e (b,o)) rfl (by
  have h:∀ ops:Array Oper,ops.all (gN 52)=true→∀ o∈ops,gN 52 o=true:=fun ops h o ho=>yG.1 h o ho
  exact h _ (by kernel_rfl)) g1 (by decide) hrun ?_ ?_)
 ·rw[Ex.aA];simp[AcA,zc,ptr,Ex.aA]
 intro a2 w2 g2
 obtain⟨b3,g3⟩:=g2.pub (u:=3) (id:=1) (e:=e) (st':=aR [some (.box zc)]) (ok':=fun id=>id<1) rfl rfl (by
  intro i blk h
  cases i with
  | zero=>simp[aR]at h;subst h;exact⟨by omega,rfl,by simp[gU,zc]⟩
  | succ i=>simp[aR]at h) (by
  intro i h
  cases i with
  | zero=>omega
  | succ i=>simp[aR]at h)
 have g3:=g3 (aJ [(2, .own 0 0),(3, .i (ptr (b3,0)))]) (by
  intro t;simp only[aJ];by_cases h2:t=2
  ·subst h2;exact .inr (.inr ⟨rfl,by simp[AcA,aJ,jV,aR]⟩)
  ·by_cases h3:t=3
   ·subst h3;exact .inr (.inl ⟨rfl,rfl⟩)
   ·simp[h2,h3])
 refine wp_seq (wp_mono (GG.eF iA (G:=GS 59) (S:={ env:=[(2, .own 0 0),(3, .i (ptr (b3,0)))],st:=[some (.box zc)] }) (e:=.normal) (S':=SL b3 [((b3,0),e)] []) (by kernel_rfl) (by simp[SL,ptr,zc]) g3) ?_);rintro _ a3 w3 ⟨rfl,g4⟩;refine wp_seq (wp_block ?_);refine tX (fun n a w=>∃ todo X K:KL,(∀ k∈todo,k∈K)∧((b3,0),e)∈K∧(todo.map fun k=>k.2.size).sum=n∧n<1000000000∧GG wi mi 52 (fun id=>id<(SL b3 todo X).st.length) K (aJ (SL b3 todo X).env) (aR (SL b3 todo X).st) a w) ?_ (n:=e.size) ⟨[((b3,0),e)],[],[((b3,0),e)],fun k hk=>hk,by simp,by simp,he,g4⟩;rintro n a w ⟨todo,X,K,hsub,hb3,hsum,hn,g⟩
 rcases zD2 todo with rfl|⟨init,k,rfl⟩
 ·refine wp_mono (GG.eF iA (G:=GS 59) (S:=SL b3 [] X) (e:=.exit 0) (S':={ env:=[(0, .junk),(2, .own 0 0),(3, .i (ptr (b3,0))),(4, .osl 1 1 0 0),(5, .junk),(6, .junk),(13, .bool false),(37, .junk),(38, .junk),(39, .junk)],st:=[some (.box zc),some (.arr 1 (X.map fun k=>[ptr k.1]))] }) (by kernel_rfl) (by simp[SL,ptr,zc]) g) ?_;rintro _ a5 w5 ⟨rfl,g5⟩;simp only[gQ,Exit.then,Exit.inBlock,if_true]
  have g6:=(g5.see (u:=3) (b:=b3) (o:=0) rfl hb3).envTo (env':=aJ [(2, .own 0 0),(3, .i (.iref e.cells))]) (by
   intro t;simp only[aJ,upd];by_cases h2:t=2
   ·subst h2;simp
   ·by_cases h3:t=3
    ·subst h3;simp
    ·simp[h2,h3])
  refine wp_mono (GG.eF iA (G:=GS 59) (S:={ env:=[(2, .own 0 0),(3, .i (.iref e.cells))],st:=[some (.box zc),some (.arr 1 (X.map fun k=>[ptr k.1]))] }) (e:=.ret) (S':={ env:=[(0, .junk),(2, .own 0 0),(3, .i (.iref e.cells)),(4, .junk),(5, .junk),(6, .junk),(13, .junk),(37, .junk),(38, .junk),(39, .junk)],st:=[some (.box (lF e.cells)),some (.arr 1 (X.map fun k=>[ptr k.1]))] }) (by kernel_rfl) (by simp[zc]) g6) ?_;rintro _ a6 w6 ⟨rfl,g7⟩;obtain⟨⟨m,φ,q1,q2,q3,q4,q5⟩,q6,q7⟩:=g7
  obtain⟨v,k1,k2⟩:=fJ (C:=C1) (fn:=Tryz.f59) (keep:=false) (na:=0) (S:={ env:=[(0, .junk),(2, .own 0 0),(3, .i (.iref e.cells)),(4, .junk),(5, .junk),(6, .junk),(13, .junk),(37, .junk),(38, .junk),(39, .junk)],st:=[some (.box (lF e.cells)),some (.arr 1 (X.map fun k=>[ptr k.1]))] }) (r:=.i (.agg e.cells)) (stl':=[]) (fun id h=>absurd rfl h) ⟨⟨⟨m,φ,q1,q2,q3,q4, .nil _ _ _⟩,q6,q7⟩,zB9 _⟩ (by
   show finish C1 false [ResultVar.cell 2 86] 0 _=_
   simp)
  exact⟨q7,v,k1,k2⟩
 ·clear g0 g4 g3 g1 g2;obtain⟨⟨b,o⟩,x⟩:=k
  have hlen:∀ l:KL,l.length≤(l.map fun k=>k.2.size).sum:=by
   intro l
   induction l with
   | nil=>simp
   | cons a l ih=>have:=Ex.nA a.2;simp;omega
  have hil:=hlen init;simp at hsum;have hxk:((b,o),x)∈K:=hsub _ (by simp);have hxs:=Ex.size_eq x;have hkl:=Ex.bN x.kids;have hne:¬ ((init.length:Int)+1≤0):=by omega
  have hpos:(0:Int)<(init.length:Int)+1:=by omega
  have w1:IntKind.i64.wrap (init.length:Int)=init.length:=wrO;generalize hES:((init++[((b,o),x)]++X).map fun k=>[ptr k.1])=ES
  have hnth:fT ES init.length=some [ptr (b,o)]:=by
   rw[fA,← hES];simp
  have hlit:∀ c∈ES.flatten,∃ v,c=.lit v:=by rw[← hES];exact KM _
  have hlt:(init.length:Int)<(init.length:Int)+1:=by omega
  have hlt2:(init.length:Int)≤(init.length:Int)+1:=by omega
  refine wp_seq (wp_mono (GG.eF iA (G:=GS 59) (S:=SL b3 (init++[((b,o),x)]) X) (e:=.normal) (S':={ env:=[(0, .junk),(2, .own 0 0),(3, .i (ptr (b3,0))),(4, .osl 1 1 0 (init.length+1)),(5, .junk),(6, .junk),(13, .bool true),(37, .junk),(38, .junk),(39, .junk)],st:=[some (.box zc),some (.arr 1 ES)] }) (by kernel_rfl) (by simp only[SL,hES];simp[ptr,zc,hpos]) (by simpa using g)) ?_);rintro _ a5 w5 ⟨rfl,g5⟩;clear g;refine wp_block ?_;refine wp_seq (wp_mono (GG.eF iA (G:=GS 59) (S:={ env:=[(0, .junk),(2, .own 0 0),(3, .i (ptr (b3,0))),(4, .osl 1 1 0 (init.length+1)),(5, .junk),(6, .junk),(13, .bool true),(37, .junk),(38, .junk),(39, .junk)],st:=[some (.box zc),some (.arr 1 ES)] }) (e:=.normal) (S':={ env:=[(0, .junk),(2, .own 0 0),(3, .i (ptr (b3,0))),(4, .osl 1 1 0 (init.length+1)),(5,(.i (ptr (b,o)))),(6, .junk),(13, .bool true),(37, .junk),(38, .junk),(39, .junk)],st:=[some (.box zc),some (.arr 1 ES)] }) (by kernel_rfl) (by simp only[ptr]at hnth;simp[ptr,zc,hnth,w1,hlt]) g5) ?_);rintro _ a6 w6 ⟨rfl,g6⟩;clear g5;refine wp_seq (wp_mono (GG.eF iA (G:=GS 59) (S:={ env:=[(0, .junk),(2, .own 0 0),(3, .i (ptr (b3,0))),(4, .osl 1 1 0 (init.length+1)),(5,(.i (ptr (b,o)))),(6, .junk),(13, .bool true),(37, .junk),(38, .junk),(39, .junk)],st:=[some (.box zc),some (.arr 1 ES)] }) (e:=.normal) (S':={ env:=[(0, .junk),(2, .own 0 0),(3, .i (ptr (b3,0))),(4, .osl 1 1 0 init.length),(5,(.i (ptr (b,o)))),(6, .junk),(13, .bool true),(37, .junk),(38, .junk),(39, .junk)],st:=[some (.box zc),some (.arr 1 ES)] }) (by kernel_rfl) (by simp[ptr,zc,w1,hlt2]) g6) ?_);rintro _ a7 w7 ⟨rfl,g7⟩;clear g6
  refine wp_seq (GG.region iA (os1:=[_,_]) (os2:=[_,_,_,_,_,_]) (u:=26) (PP:=PP b3 b o init.length x ES) rfl (by
   have h:∀ ops:Array Oper,ops.all (gN 52)=true→∀ o∈ops,gN 52 o=true:=fun ops h o ho=>yG.1 h o ho
   exact h _ (by kernel_rfl)) g7 hxk ?_ ?_)
  ·rw[Ex.aA];by_cases hx:x.kids=[]
   ·simp[ptr,zc,hx,PP,Ex.aB,AIW]
   ·simp[ptr,zc,PP,ABF hx (by omega),hx]
  ·rintro env st a8 w8 ⟨p2,p3,p4,p5,p32,q0,q1,p30⟩ g8;clear g7
   obtain⟨w9,b',ao,cap,e1,e2,hrun,hG⟩:=GG.turn (C:=C1) (ok':=fun id=>id<2) (st':=aR [some (.box zc),some (.arr 1 ES)]) (u:=30) (t:=30) g8 (by simp) ⟨hi.mem,hi.kn⟩ hxk rfl (by
    rcases p30 with ⟨h1,h2⟩|⟨id,h1,h2,h3,h4⟩
    ·refine .inl ⟨h1,h2,?_⟩;intro i blk h
     rcases i with _|_|i
     ·simp[aR]at h;subst h;exact q0
     ·simp[aR]at h;subst h;exact q1
     ·simp[aR]at h
    ·refine .inr ⟨id,h1,h2,h3,?_⟩;intro i blk h
     rcases i with _|_|i
     ·simp[aR]at h;subst h;exact⟨by omega,q0⟩
     ·simp[aR]at h;subst h;exact⟨by omega,q1⟩
     ·simp[aR]at h) (by
    intro i blk h
    rcases i with _|_|i
    ·simp[aR]at h;subst h;simp[gU,zc]
    ·simp[aR]at h;subst h;exact hlit
    ·simp[aR]at h) (by
    intro i h
    rcases i with _|_|i
    ·omega
    ·omega
    ·simp[aR]at h)
   have ev5:=g8.ADF (t:=5) p5;have ev32:=g8.ADF (t:=32) p32
   refine NY (C:=C1) (w':=w9) rfl (by
    show(Instr.storeAt 30 (a8.tmps.getD 32 undef) (a8.tmps.getD 30 undef)).run C1.P w8=_
    rw[ev32];exact hrun) ?_
   have g9:=hG (aJ [(2, .own 0 0),(3, .i (ptr (b3,0))),(4, .osl 1 1 0 init.length),(5,(.i (.iref [.int x.kind, .int x.col, .bool x.val.null, .int x.val.n, .lit (.slice ao x.kids.length cap)])))]) (by
    intro t;simp only[aJ];by_cases h2:t=2
    ·subst h2;exact .inr (.inr ⟨by simp[p2],by rw[p2];simp[jV,aR]⟩)
    by_cases h3:t=3
    ·subst h3;exact .inr (.inr ⟨by simp[p3],by rw[p3];simp[jV,ptr]⟩)
    by_cases h4:t=4
    ·subst h4;exact .inr (.inr ⟨by simp[p4],by rw[p4];simp[jV,aR]⟩)
    by_cases h5:t=5
    ·subst h5;exact .inr (.inl ⟨ev5,by simp⟩)
    ·simp[h2,h3,h4,h5])
   clear hG g8;show Code.wp _ _ _ _ _;refine wp_seq (wp_mono (GG.eF iA (G:=GS 59) (S:={ env:=[(2, .own 0 0),(3, .i (ptr (b3,0))),(4, .osl 1 1 0 init.length),(5,(.i (.iref [.int x.kind, .int x.col, .bool x.val.null, .int x.val.n, .lit (.slice ao x.kids.length cap)])))],st:=[some (.box zc),some (.arr 1 ES)] }) (e:=.normal) (S':={ env:=[(0, .junk),(2, .own 0 0),(3, .i (ptr (b3,0))),(4, .osl 1 1 0 init.length),(5,(.i (.iref [.int x.kind, .int x.col, .bool x.val.null, .int x.val.n, .lit (.slice ao x.kids.length cap)]))),(6, .junk),(13, .junk),(37, .int x.kids.length),(38, .int 0),(39, .junk)],st:=[some (.box zc),some (.arr 1 ES)] }) (by kernel_rfl) (by simp[ptr,zc]) g9) ?_);rintro _ a10 w10 ⟨rfl,g10⟩;clear g9;by_cases hx:x.kids=[]
   ·refine wp_mono (GG.eF iA (G:=GS 59) (S:={ env:=[(0, .junk),(2, .own 0 0),(3, .i (ptr (b3,0))),(4, .osl 1 1 0 init.length),(5,(.i (.iref [.int x.kind, .int x.col, .bool x.val.null, .int x.val.n, .lit (.slice ao x.kids.length cap)]))),(6, .junk),(13, .junk),(37, .int x.kids.length),(38, .int 0),(39, .junk)],st:=[some (.box zc),some (.arr 1 ES)] }) (e:=.normal) (S':={ env:=[(0, .junk),(2, .own 0 0),(3, .i (ptr (b3,0))),(4, .osl 1 1 0 init.length),(5,(.i (.iref [.int x.kind, .int x.col, .bool x.val.null, .int x.val.n, .lit (.slice ao x.kids.length cap)]))),(6, .junk),(13, .junk),(37, .int x.kids.length),(38, .int 0),(39, .bool false)],st:=[some (.box zc),some (.arr 1 ES)] }) (by kernel_rfl) (by
     simp only[hx,yT];simp;rw[aG]
     simp[ptr,zc]) g10) ?_
    rintro _ a11 w11 ⟨rfl,g11⟩;simp only[gQ,Exit.then,Exit.inBlock];refine⟨n-1,by omega,init,((b,o),x)::X,K++bL b' 0 x.kids,fun k hk=>yL _ (hsub k (by simp[hk])),yL _ hb3,?_,by omega,?_⟩
    ·rw[hx]at hxs;simp[Ex.aL]at hxs;omega
    ·have hES2:((init++((b,o),x)::X).map fun k=>[ptr k.1])=ES:=by rw[← hES];simp
     simp only[SL,hES2]
     exact g11.envTo (by
      intro t;simp only[aJ];by_cases h2:t=2
      ·subst h2;simp
      by_cases h3:t=3
      ·subst h3;simp
      by_cases h4:t=4
      ·subst h4;simp
      ·simp[h2,h3,h4])
   ·obtain rfl:=e2 hx;have hET:ES.take init.length=RW init b' 0:=by rw[← hES];simp[RW]
    have hEL:init.length≤ES.length:=by rw[← hES];simp
    have hlim:∀ i,i≤x.kids.length→(init.length+i+1)*8≤140737488355328:=fun i hi=>by omega
    have hk0:x.kids.length≠0:=fun h=>hx (zW.1 h)
    refine wp_mono (GG.eF iA (G:=GS 59) (S:={ env:=[(0, .junk),(2, .own 0 0),(3, .i (ptr (b3,0))),(4, .osl 1 1 0 init.length),(5,(.i (.iref [.int x.kind, .int x.col, .bool x.val.null, .int x.val.n, .lit (.slice (some ⟨b',0,none⟩) x.kids.length cap)]))),(6, .junk),(13, .junk),(37, .int x.kids.length),(38, .int 0),(39, .junk)],st:=[some (.box zc),some (.arr 1 ES)] }) (e:=.normal) (S':={ env:=[(0, .junk),(2, .own 0 0),(3, .i (ptr (b3,0))),(4, .osl 2 1 0 (init.length+x.kids.length)),(5,(.i (.iref [.int x.kind, .int x.col, .bool x.val.null, .int x.val.n, .lit (.slice (some ⟨b',0,none⟩) x.kids.length cap)]))),(6, .int (x.kids.length-1)),(13, .junk),(37, .int x.kids.length),(38, .int x.kids.length),(39, .bool false)],st:=[some (.box zc),none,some (.arr 1 (RW init b' x.kids.length))] }) (by kernel_rfl) (by
     simp;rw[aS (YS b3 b' cap x init ES) x.kids.length (by simp[YS])]
     ·rw[aG];simp[YS,hk0,bT hk0,zc,ptr]
     ·intro i hi;have w2:IntKind.i64.wrap ((i:Int)+1)=i+1:=wrO;have hi0:(i:Int)<x.kids.length:=by omega
      by_cases h0:i=0
      ·subst h0;have hl:(init.length+1)*8≤140737488355328:=by omega
       have hR:RW init b' 0++[[.lit (.pointer (some ⟨b',0,none⟩))]]=RW init b' 1:=by simpa [ptr]using N7 init b' 0
       simp[YS,zc,ptr,AFH,hi,hET,hEL,hl,hR]
      ·have hl:=hlim i (by omega);have hT:(RW init b' i).take (init.length+i)=RW init b' i:=zY (by rw[X4];omega);have hR:RW init b' i++[[.lit (.pointer (some ⟨b',i*5,none⟩))]]=RW init b' (i+1):=by simpa [ptr]using N7 init b' i
       simp[YS,h0,bT h0,zc,ptr,w2,hi,hT,X4,hl,hR,← Nat.add_assoc]) g10) ?_
    rintro _ a11 w11 ⟨rfl,g11⟩;simp only[gQ,Exit.then,Exit.inBlock];refine⟨n-1,by omega,init++bL b' 0 x.kids,[],K++bL b' 0 x.kids,?_,yL _ hb3,?_,by omega,?_⟩
    ·intro k hk
     rcases zV.1 hk with h|h
     ·exact yL _ (hsub k (by simp[h]))
     ·exact zD3 _ h
    ·rw[yB,List.sum_append,qE];omega
    ·have g12:=g11.settle [2,3,4]
     have hR:List.map (fun k:(Nat×Nat)×Ex=>[ptr k.1]) (init++bL b' 0 x.kids++[])=RW init b' x.kids.length:=by
      rw[zA,yB,qF];simp[RW]
     have hl:(init++bL b' 0 x.kids).length=init.length+x.kids.length:=by rw[zL,qG]
     simp only[SL,hR,hl]
     have hs:Av.settle [2,3,4] 0 (aJ [(0, .junk),(2, .own 0 0),(3, .i (ptr (b3,0))),(4, .osl 2 1 0 (init.length+x.kids.length)),(5, .i (.iref [.int x.kind, .int x.col, .bool x.val.null, .int x.val.n, .lit (.slice (some ⟨b',0,none⟩) x.kids.length cap)])),(6, .int (x.kids.length-1)),(13, .junk),(37, .int x.kids.length),(38, .int x.kids.length),(39, .bool false)]) (aR [some (.box zc),none,some (.arr 1 (RW init b' x.kids.length))])={ env:=[(2, .own 0 0),(3, .i (ptr (b3,0))),(4, .osl 1 1 0 (init.length+x.kids.length))],st:=[some (.box zc),some (.arr 1 (RW init b' x.kids.length))] }:=by
      simp[zc,ptr]
     rw[hs]at g12
     exact g12.envTo (by
      intro t;simp only[aJ];by_cases h2:t=2
      ·subst h2;simp
      by_cases h3:t=3
      ·subst h3;simp
      by_cases h4:t=4
      ·subst h4;simp
      ·simp[h2,h3,h4])
theorem AAR {w:World} {m:Mem} {φ:Pl} {st:Store} {t:TypeId} {a v:AV} {x:Value} (hi:Inv w m φ st) (hr:Rep m φ a x) (h:L9 C1 t a st=some v):∃ y,(Instr.loadAt t x).run C1.P w=.ok y w∧Rep m φ v y:=by
 obtain⟨ad,y,k1,k2,k3⟩:=BA hi hr h;exact⟨y,by subst k1;simpa [Instr.loadAt,Instr.sureAddr]using k2,k3⟩
theorem AMN {w:World} {m:Mem} (h:kR w m) (hk:oD w m):Inv w m (fun _=>none) (aR []):=⟨h,fun id blk e=>(by simp[aR]at e),fun i j b b' n n' b1 b2 f e=>(by simp[aR]at e),(fun _ _ _ _ e=>(by cases e)),hk⟩
theorem IG {e:Ex} (he:e.size<1000000000) {wi:World} {mi:Mem} {φ:Pl} {vs:List Value} (hi:Inv wi mi φ (aR [])) (hr:RepL mi φ [.i (.iref e.cells)] vs) (h0:∀ id,φ id≠none→id<0) :
 Calls Tryz.prog 59 vs.toArray wi (bS wi mi φ (.i (.agg e.cells)) []):=by
 obtain rfl:φ=fun _=>none:=by
  funext id
  cases h:φ id with
  | none=>rfl
  | some p=>exact absurd (h0 id (by rw[h];simp)) (xS _)
 cases hr with
 | cons h1 h2 =>
  cases h2
  have hp:=h1
  cases h1 with
  | i h1=>cases h1 with
   | iref ha =>
    refine VY he hi fun w' hs hw=>?_
    obtain⟨y,k1,k2⟩:=AAR (t:=86) (v:=.i (.agg e.cells)) (hi.later hs hw) hp (by rw[Ex.aA];simp)
    cases k2 with
    | i k2=>exact⟨y,k1,k2⟩
theorem AE8 {e:Ex} (he:e.size<1000000000) {w:World} {m:Mem} {φ:Pl} {vs:List Value} {es:List (List IV)} {j:Nat} (hes:es[j]?=some e.cells) (hi:Inv w m φ (aR [some (.arr 5 es)])) (hr:RepL m φ [.ownE 0 5 j 0] vs) (h0:∀ id,φ id≠none→id<1) :
 Calls Tryz.prog 59 vs.toArray w (bS w m φ (.i (.agg e.cells)) [some (.arr 5 es)]):=by
 cases hr with
 | cons h1 h2 =>
  cases h2
  have hp:=h1
  cases h1 with
  | ownE hφ =>
   refine(VY he (AMN hi.mem hi.kn) fun w' hs hw=>?_).mono ?_
   ·obtain⟨y,k1,k2⟩:=AAR (t:=86) (v:=.i (.agg e.cells)) (hi.later hs hw) hp (by
     have h5:=hes;rw[← fA]at h5
     rw[Ex.aA]at h5 ⊢;simp[h5])
    cases k2 with
    | i k2=>exact⟨y,k1,k2⟩
   ·rintro en w' ⟨v,m',φ',rfl,j1,j2,j3,j4⟩;have free0:∀ b,eD (fun _=>none) b:=fun b id r n e=>by cases e
    have hsame:∀ f,f<w.heap.size→w'.heap[f]?=w.heap[f]?:=fun f hf=>j3.block f hf (free0 f)
    refine⟨v,m',φ,rfl,?_,⟨j2.mem,fun id blk hb=>?_,hi.inj,(fun id b n f e ho=>zI (hi.low id b n f e ho) j3.size),j2.kn⟩,⟨j3.size,j3.os,j3.tape,j3.output,fun b hb' _=>hsame b hb',j3.mle,fun b hb' _ o=>j3.mnew b hb' (free0 b) o, .refl _,fun _ _ _ _ e ho=>.inr (eD.not e ho)⟩,h0⟩
    ·cases j1 with
     | i j1=>exact .i j1
    ·obtain⟨b,n,k1,k2,k3⟩:=hi.live id blk hb;exact⟨b,n,k1,⟨k2.1,fun f hf=>zI (k2.2 f hf) j3.size⟩,k3.mono k2.1 (fun f hf=>hsame f (k2.2 f hf)) j3.mle (.refl _) fun f hf o=>j3.mnew f (k2.2 f hf) (free0 f) o⟩
end Go.Proofs.YtgiepjdnkonkgaaGreat
namespace Go.Av.V
open Go.Av
def RL (w:World) (b n:Nat):Prop:=∃ (vs:List Value) (T:TypeId),w.heap[b]?=some (.cells vs.toArray T (0,0))∧n≤vs.length∧∀ v∈vs,v.oneCell'=true
theorem RL.lt {w:World} {b n:Nat} (h:RL w b n):b<w.heap.size:=by
 obtain⟨vs,T,e,_⟩:=h;exact(zN.1 e).1
abbrev Nd:=Ex×Option (Nat×Nat)
structure PF (B:Nat) (w:World) (m:Mem) (φ:Pl) (b o:Nat) (y:Nd):Prop where
 new:B≤b
 row:∃ (vs:List Value) (T:TypeId),w.heap[b]?=some (.cells vs.toArray T (0,0))
 free:eD φ b
 cel:IAt m b o y.1.cells
 lit:∀ b' cap,y.2=some (b',cap)→m b (o+4)=some (.slice (some ⟨b',0,none⟩) y.1.kids.length cap)∧B≤b'∧eD φ b'∧RL w b' (5*cap)
abbrev KL:=List ((Nat×Nat)×Nd)
theorem PF.lt {B:Nat} {w:World} {m:Mem} {φ:Pl} {b o:Nat} {x:Nd} (h:PF B w m φ b o x):b<w.heap.size:=by
 obtain⟨vs,T,e⟩:=h.row;exact(zN.1 e).1
theorem PF.adv {B:Nat} {w w':World} {m m':Mem} {φ φ':Pl} {b o:Nat} {x:Nd} (h:PF B w m φ b o x) (k:Adv w m φ w' m' φ'):PF B w' m' φ' b o x:=by
 refine⟨h.new,?_,k.range h.lt h.free,h.cel.mono k.mle,fun b' cap e=>?_⟩
 ·rw[k.block b h.lt h.free];exact h.row
 ·obtain⟨h1,h2,h3,h4⟩:=h.lit b' cap e;refine⟨k.mle _ _ _ h1,h2,k.range h4.lt h3,?_⟩;obtain⟨vs,T,e1,e2⟩:=h4;exact⟨vs,T,by rw[k.block b' (zN.1 e1).1 h3];exact e1,e2⟩
structure GG (wi:World) (mi:Mem) (nt:Nat) (ok:Nat→Prop) (K:KL) (env:Nat→AV) (st:Store) (a:Act) (w:World):Prop where
 out:∃ m φ,Inv w m φ st∧(∀ t,Rep m φ (env t) (a.tmps.getD t undef))∧Adv wi mi (fun _=>none) w m φ∧(∀ id,φ id≠none→ok id)∧∀ k∈K,PF wi.heap.size w m φ k.1.1 k.1.2 k.2
 size:nt≤a.tmps.size
 defers:a.defers=[]
section
variable {C:Ctx} {wi:World} {mi:Mem} {nt:Nat}
theorem GG.ofA {ok ok':Nat→Prop} {K:KL} {env env':Nat→AV} {st st':Store} {a a':Act} {w w':World} {m:Mem} {φ:Pl} (h3:Adv wi mi (fun _=>none) w m φ) (h5:∀ k∈K,PF wi.heap.size w m φ k.1.1 k.1.2 k.2) (h:ARel [] w m φ nt ok' env' st' a' w'):GG wi mi nt ok' K env' st' a' w':=by
 obtain⟨⟨m',φ',k1,k2,k3,k4,_⟩,k5,k6⟩:=h;exact⟨⟨m',φ',k1,k2,h3.trans k3,k4,fun k hk=>(h5 k hk).adv k3⟩,k5,k6⟩
theorem GG.code (hC:CtxOk C) {call:dI} (hcall:CallOk C call) (hdraw:X5 C call) {G:List Nat} {n:Nat} {c:Code} {S S':AS} {e:AExit} {a:Act} {w:World} {K:KL} (hc:codeOk nt c=true) (hx:exec C call G S.st.length n c S=some (e,S')) (h:GG wi mi nt (fun id=>id<S.st.length) K (aJ S.env) (aR S.st) a w) (hnr:bK c=true:=by rfl) :
 c.wp C.P (fun e' a' w'=>e'=gQ e∧GG wi mi nt (fun id=>id<S'.st.length) K (aJ S'.env) (aR S'.st) a' w') a w:=by
 obtain⟨⟨m,φ,h1,h2,h3,h4,h5⟩,h6,h7⟩:=h;refine wpIn_wide.1 (wpIn_mono (bW (ρ:=none) hC hcall hdraw h4 n c S S' e [] a w hc (.inl rfl) hx ⟨⟨⟨m,φ,h1,h2, .refl _ _ _,h4, .nil _ _ _⟩,h6,h7⟩,zO _⟩) ?_);rintro e' a' w' ⟨rfl,ds,k,kd⟩;have kd:=kd hnr;subst kd;exact⟨rfl, .ofA (ok:=fun _=>True) (env:=fun _=>.junk) (st:=st0) (a:=a) h3 h5 k.1⟩
where st0:Store:=fun _=>none
theorem GG.ops (hC:CtxOk C) {call:dI} (hcall:CallOk C call) {ops:Array Oper} {Q:Exit→Act→World→Prop} {base:Nat} {js:List Nat} {K:KL} (hs:∀ o∈ops,gN nt o=true) {os:List Oper} {i:Nat} {R R':RS} {a:Act} {w:World} (hl:∀ j,j<os.length→os[j]?=ops[i+j]?) (hx:dC C call ops.toList false base os i R=some R')
 (h:GG wi mi nt (J9 base fun j=>j<i) K R.env R.st a w) (hQ:∀ a' w',GG wi mi nt (J9 base fun j=>j<i+os.length) K R'.env R'.st a' w'→wpOpsIn (FR none) 0 C.P ops Q js a' w'):wpOpsIn (FR none) 0 C.P ops Q (List.range' i os.length++js) a w:=by
 obtain⟨⟨m,φ,h1,h2,h3,h4,h5⟩,h6,h7⟩:=h;exact iV hC hcall hs os i R R' a w hl hx ⟨⟨m,φ,h1,h2, .refl _ _ _,h4, .nil _ _ _⟩,h6,h7⟩ fun a' w' k=>hQ a' w' (.ofA (ok:=fun _=>True) (env:=fun _=>.junk) (st:=fun _=>none) (a:=a) h3 h5 k)
theorem GG.settle {ok:Nat→Prop} {K:KL} {env:Nat→AV} {st:Store} {a:Act} {w:World} (G:List Nat) (h:GG wi mi nt ok K env st a w) :
 GG wi mi nt (fun id=>id<(settle G 0 env st).st.length) K (aJ (settle G 0 env st).env) (aR (settle G 0 env st).st) a w:=by
 obtain⟨⟨m,φ,hi,henv,hadv,hok,hK⟩,hsz,hdf⟩:=h;unfold Av.settle AL;generalize hids:jL st 0 (EE env G)=ids;have hd:ids.Nodup:=by rw[← hids];exact iX _ _ _
 have hfree:∀ b,eD φ b→eD (eX ids φ) b:=by
  intro b hb id r n e;unfold eX at e
  cases hx:ids[id]? with
  | none=>rw[hx]at e;cases e
  | some j=>rw[hx]at e;exact hb j r n e
 refine⟨⟨m,eX ids φ,hi.keep hd,?_,hadv.keep (fun id h=>absurd rfl h) (fun j hj=>absurd hj (xS j)),?_,fun k hk=>⟨(hK k hk).new,(hK k hk).row,hfree _ (hK k hk).free,(hK k hk).cel,fun b' cap e=>by
  obtain⟨h1,h2,h3,h4⟩:=(hK k hk).lit b' cap e
  exact⟨h1,h2,hfree _ h3,h4⟩⟩⟩,hsz,hdf⟩
 ·intro t
  have key:∀ G:List Nat,Rep m (eX ids φ) (aJ (mR (iD ids) env G) t) (a.tmps.getD t undef):=by
   intro G
   induction G with
   | nil=>exact .junk _
   | cons u G ih =>
    simp only[mR,aJ];by_cases e:t=u
    ·subst e;simp only[if_true];exact(henv t).ren (nZ ids φ)
    ·simp only[e,if_false];exact ih
  exact key G
 ·intro id hne;simp only[iT];unfold eX at hne
  cases hx:ids[id]? with
  | none=>rw[hx]at hne;exact absurd rfl hne
  | some i=>exact(zZ.1 hx).1
theorem GG.see {ok:Nat→Prop} {K:KL} {env:Nat→AV} {st:Store} {a:Act} {w:World} {u b o:Nat} {x:Nd} (h:GG wi mi nt ok K env st a w) (hu:env u=.i (.lit (.pointer (some ⟨b,o,none⟩)))) (hk:((b,o),x)∈K):GG wi mi nt ok K (upd env u (.i (.iref x.1.cells))) st a w:=by
 obtain⟨⟨m,φ,hi,henv,hadv,hok,hK⟩,hsz,hdf⟩:=h;refine⟨⟨m,φ,hi,fun t=>?_,hadv,hok,hK⟩,hsz,hdf⟩;simp only[upd];split
 ·rename_i e;subst e;have:=henv t;rw[hu]at this;rw[this.lit_eq];exact .i (.iref (hK _ hk).cel)
 ·exact henv t
theorem GG.envTo {ok:Nat→Prop} {K:KL} {env env':Nat→AV} {st:Store} {a:Act} {w:World} (h:GG wi mi nt ok K env st a w) (he:∀ t,env' t=.junk∨env' t=env t):GG wi mi nt ok K env' st a w:=by
 obtain⟨⟨m,φ,hi,henv,hadv,hok,hK⟩,hsz,hdf⟩:=h;refine⟨⟨m,φ,hi,fun t=>?_,hadv,hok,hK⟩,hsz,hdf⟩
 rcases he t with e|e
 ·rw[e];exact .junk _
 ·rw[e];exact henv t
theorem GG.ok' {ok ok':Nat→Prop} {K:KL} {env:Nat→AV} {st:Store} {a:Act} {w:World} (h:GG wi mi nt ok K env st a w) (he:∀ id,ok id→ok' id):GG wi mi nt ok' K env st a w:=by
 obtain⟨⟨m,φ,hi,henv,hadv,hok,hK⟩,hsz,hdf⟩:=h;exact⟨⟨m,φ,hi,henv,hadv,fun id h=>he id (hok id h),hK⟩,hsz,hdf⟩
end
section
variable {C:Ctx} {wi:World} {mi:Mem}
theorem F6 {w:World} {m:Mem} {φ:Pl} {st:Store} {K:KL} {b o:Nat} {y:Nd} {x:Ex} (hyx:y.1=x) {v:Value} {t:TypeId} (ht:iF C.P t=some 1) (hi:Inv w m φ st) (hst:AO6 st) (hadv:Adv wi mi (fun _=>none) w m φ) (hmi:kR wi mi∧oD wi mi)
 (hK:∀ k∈K,PF wi.heap.size w m φ k.1.1 k.1.2 k.2) (hk:((b,o),y)∈K) (hnl:∀ k∈K,k.1=(b,o)→k.2.2=none) (hv:IRep m (.isl (Ex.aB x.kids)) v) :
 ∃ w' m',(Instr.storeAt t (.pointer (some ⟨b,o+4,none⟩)) v).run C.P w=.ok () w'∧Inv w' m' φ st∧Adv wi mi (fun _=>none) w' m' φ∧(∀ k∈K,PF wi.heap.size w' m' φ k.1.1 k.1.2 k.2) ∧
   IAt m' b o [.int x.kind, .int x.col, .bool x.val.null, .int x.val.n, .lit v]∧(∀ c n,RL w c n→RL w' c n):=by
 have hp:=hK _ hk;subst hyx;obtain⟨u,hx⟩:=FY hp.cel;obtain⟨vs,T,hrow⟩:=hp.row;have hone:=pO hv
 have hcells:v.cells.toList=[v]:=by
  rcases l9 hv with ⟨_,ao,cap,rfl⟩|⟨_,b',off,k',cap,rfl,_⟩<;>rfl
 have hcsz:v.cells.size=1:=by rw[← Array.length_toList,hcells];rfl
 have hlen:o+4<vs.length:=by
  have:=hi.mem _ _ _ hx.c4;simp only[World.cell?,hrow,zA5]at this;have h2:vs.toArray[o+4]?=some u:=by simpa using this
  have:=(zN.1 h2).1;simpa using this
 have hrun:=jO (P:=C.P) (t:=t) (v:=v) (off:=o+4) (by rw[hcsz];exact ht) hrow (by omega) (by rw[hcells];simpa using hone);rw[hcells,hcsz]at hrun;generalize hvs':vs.take (o+4)++[v]++vs.drop (o+4+1)=vs' at hrun;have hheap:(w.setRow b vs'.toArray).heap[b]?=some (.cells vs'.toArray T (0,0)):=setRow_heap w b _ _ T (0,0) hrow;have hother:∀ k,k≠b→(w.setRow b vs'.toArray).heap[k]?=w.heap[k]?:=fun k hk=>setRow_other w b k _ hk
 have hget:∀ j,vs'[j]?=if j=o+4 then some v else vs[j]?:=by
  intro j;subst hvs'
  have hs:vs.take (o+4)++[v]++vs.drop (o+4+1)=vs.set (o+4) v:=by
   rw[List.set_eq_take_append_cons_drop];simp[hlen]
  rw[hs,List.getElem?_set];by_cases e:o+4=j
  ·subst e;simp[hlen]
  ·simp[e,Ne.symm e]
 have hall:(∀ u∈vs,u.oneCell'=true)→∀ u∈vs',u.oneCell'=true:=by
  intro h u hu;obtain⟨j,hj⟩:=List.getElem?_of_mem hu;rw[hget]at hj;split at hj
  ·injection hj with hj;subst hj;exact hone
  ·exact h u (zU hj)
 refine⟨w.setRow b vs'.toArray,turn m b (o+4) v,?_,?_,?_,?_,?_,?_⟩
 ·simp only[Instr.storeAt,Instr.sureAddr,Sem.run_bind,Sem.run_pure,Result.andThen_ok];exact hrun
 ·refine⟨?_,?_,hi.inj,(fun i b n f e ho=>by simpa [World.setRow]using hi.low i b n f e ho),fun p hp'=>?_⟩
  ·intro b1 o1 q hq;unfold turn at hq;by_cases e1:b1=b
   ·subst e1;simp only[World.cell?,hheap,zA5]
    have:vs'.toArray[o1]?=some q:=by
     rw[List.getElem?_toArray,hget];split at hq
     ·rename_i e;rw[if_pos e.2];exact hq
     ·rename_i e;have e2:o1≠o+4:=fun h=>e ⟨rfl,h⟩
      rw[if_neg e2];have:=hi.mem _ _ _ hq;simp only[World.cell?,hrow,zA5]at this;simpa using this
    simpa using this
   ·rw[if_neg (fun h=>e1 h.1)]at hq;have:=hi.mem _ _ _ hq;simp only[World.cell?]at this ⊢;rw[hother b1 e1];exact this
  ·intro id blk hb;obtain⟨b2,n2,h1,h2,h3⟩:=hi.live id blk hb;have hne:b2≠b:=fun e=>hp.free id b2 n2 h1 (by rw[← e];exact h2.1)
   refine⟨b2,n2,h1,⟨h2.1,fun f hf=>by simpa [World.setRow]using h2.2 f hf⟩,h3.X6 (hst id blk hb) (hother b2 hne) fun o' ho'=>?_⟩;unfold turn;rw[if_neg (fun h=>hne h.1)];exact ho'
  ·obtain⟨⟨T0,r0,q1⟩,_⟩:=hmi.2 p hp';obtain⟨⟨T1,r1,q2⟩,q3⟩:=hi.kn p hp';have h3:wi.heap.size≤b:=hp.new;have h4:=(zN.1 q1).1;refine⟨⟨T1,r1,by rw[hother _ (by omega)];exact q2⟩,?_⟩;unfold turn;rw[if_neg (fun h=>by have:=h.1;omega)];exact q3
 ·refine⟨by simpa [World.setRow]using hadv.size,hadv.os,⟨hadv.tape.tape,hadv.tape.fwd⟩,hadv.output,?_,?_,?_,hadv.ple,hadv.pnew⟩
  ·intro k hk hn;rw[hother k (by have h3:wi.heap.size≤b:=hp.new;omega)];exact hadv.block k hk hn
  ·intro b1 o1 q hq;have h1:=hadv.mle _ _ _ hq;unfold turn;rw[if_neg ?_];· exact h1
   rintro⟨rfl,_⟩;have h2:=hmi.1 _ _ _ hq;have h3:wi.heap.size≤b1:=hp.new;simp only[World.cell?]at h2
   cases h4:wi.heap[b1]? with
   | none=>rw[h4]at h2;cases h2
   | some z=>have:=(zN.1 h4).1;omega
  ·intro k hk hn o';have h3:wi.heap.size≤b:=hp.new;unfold turn;rw[if_neg (fun h=>by have:=h.1;omega)];exact hadv.mnew k hk hn o'
 ·intro k hk;have h:=hK k hk;have hvl:vs'.length=vs.length:=by subst hvs';simp;omega
  refine⟨h.new,?_,h.free,AFQ hx hv _ _ _ h.cel,fun b' cap e=>?_⟩
  ·by_cases e:k.1.1=b
   ·rw[e];exact⟨vs',T,hheap⟩
   ·rw[hother _ e];exact h.row
  ·obtain⟨h1,h2,h3,h4⟩:=h.lit b' cap e;refine⟨?_,h2,h3,?_⟩
   ·unfold turn;rw[if_neg]
    ·exact h1
    ·rintro⟨e1,e2⟩;have:=hnl k hk (by rw[← e1,show o=k.1.2 by omega]);rw[this]at e;cases e
   ·obtain⟨vs2,T2,e1,e2,e3⟩:=h4;by_cases eb:b'=b
    ·subst eb;rw[hrow]at e1;injection e1 with e1;injection e1 with e1 _;have:vs=vs2:=by simpa using congrArg Array.toList e1
     subst this;exact⟨vs',T,hheap,by omega,hall e3⟩
    ·exact⟨vs2,T2,by rw[hother _ eb];exact e1,e2,e3⟩
 ·have low:∀ i,i<4→∀ q,m b (o+i)=some q→turn m b (o+4) v b (o+i)=some q:=by
   intro i hi q hq;unfold turn;rw[if_neg (by rintro⟨_,h⟩;omega)];exact hq
  refine .cons (by simpa using low 0 (by omega) _ (by simpa using hx.c0)) (.lit _) rfl (.cons (low 1 (by omega) _ hx.c1) (.lit _) rfl (.cons (low 2 (by omega) _ hx.c2) (.lit _) rfl (.cons (low 3 (by omega) _ hx.c3) (.lit _) rfl (.cons ?_ (.lit _) hone (.nil _ _)))));unfold turn;rw[if_pos ⟨rfl,rfl⟩]
 ·rintro c n ⟨vs2,T2,e1,e2,e3⟩;have hvl:vs'.length=vs.length:=by subst hvs';simp;omega
  by_cases eb:c=b
  ·subst eb;rw[hrow]at e1;injection e1 with e1;injection e1 with e1 _;have:vs=vs2:=by simpa using congrArg Array.toList e1
   subst this;exact⟨vs',T,hheap,by omega,hall e3⟩
  ·exact⟨vs2,T2,by rw[hother _ eb];exact e1,e2,e3⟩
end
def bL (b:Nat):Nat→List Ex→KL
 | _,[]=>[]
 | o,x::l=>((b,o),(x,none))::bL b (o+5) l
theorem vV {b:Nat}:∀ {o:Nat} {l:List Ex} {i:Nat} {x:Ex},l[i]?=some x→((b,o+5*i),(x,none))∈bL b o l
 | _,[],_,_,h=>by simp at h
 | o,a::l,0,x,h=>by simp at h;subst h;simp[bL]
 | o,a::l,i+1,x,h=>by
  have:=vV (b:=b) (o:=o+5) (l:=l) (i:=i) (x:=x) (by simpa using h);simp only[bL,zS];exact .inr (by rw[show o+5*(i+1)=o+5+5*i by omega];exact this)
theorem qH {m:Mem} {b:Nat}:∀ {o k:Nat} {l:List Ex},IElems m b o k (Ex.aB l)→∀ p∈bL b o l,p.1.1=b∧p.2.2=none∧IAt m p.1.1 p.1.2 p.2.1.cells
 | _,_,[],_,p,hp=>by simp[bL]at hp
 | o,k,a::l,h,p,hp=>by
  obtain⟨rfl,h1,h2⟩:=o6 h;simp only[bL,zS]at hp
  rcases hp with rfl|hp
  ·exact⟨rfl,rfl,h1⟩
  ·exact qH h2 p hp
section
variable {C:Ctx} {wi:World} {mi:Mem}
theorem R6 {w:World} {m:Mem} {φ:Pl} {st st':Store} {K:KL} {id:Nat} {v:Value} {ks:List Ex} (hks:ks≠[]) (hi:Inv w m φ st) (hr:Rep m φ (.osl id 5 0 ks.length) v) (hid:st id=some (.arr 5 (Ex.aB ks))) (hadv:Adv wi mi (fun _=>none) w m φ)
 (hK:∀ k∈K,PF wi.heap.size w m φ k.1.1 k.1.2 k.2) (hst:∀ i blk,st' i=some blk→i≠id∧st i=some blk∧gU blk) :
 ∃ b' cap m1 φ2,v=.slice (some ⟨b',0,none⟩) ks.length cap∧Inv w m1 φ2 st'∧Adv wi mi (fun _=>none) w m1 φ2∧(∀ k∈K++bL b' 0 ks,PF wi.heap.size w m1 φ2 k.1.1 k.1.2 k.2)∧IRep m1 (.isl (Ex.aB ks)) v ∧
   (∀ i,st' i≠none→φ2 i=φ i)∧(∀ i,φ2 i≠none→st' i≠none) ∧
   (wi.heap.size≤b'∧eD φ2 b'∧RL w b' (5*cap))∧(∀ f,eD φ f→f≠b'):=by
 have hlen:0<ks.length:=xN.2 hks
 have hfr:rV st (.osl id 5 0 ks.length)=some (.isl (Ex.aB ks),upd st id (some (.frz 5 (Ex.aB ks)))):=by
  simp[rV,frz,BG,wJ,hid,tst,window,bnd,iM,zY]
 obtain⟨m1,k1,k2,k3⟩:=iY hi hr hfr
 cases hr with
 | @osl _ _ _ _ cap b' n' ao eφ hlc hcap ha1 ha2 =>
  have hao:=ha1 (by omega);subst hao;obtain⟨hb,hok⟩:=cK hi eφ hid
  have hrl:RL w b' (5*cap):=by
   cases hok with|arr h1 h2 _ _ _ _ _ _ h9=>exact⟨_,_,h1,by rw[h2];simpa using hcap,h9⟩
  have hrow:∃ (vs:List Value) (T:TypeId),w.heap[b']?=some (.cells vs.toArray T (0,0)):=by
   obtain⟨vs,T,e,_⟩:=hrl;exact⟨vs,T,e⟩
  have hnew:wi.heap.size≤b':=by
   rcases hadv.pnew id b' n' b' eφ hb.1 with h|h
   ·exact h
   ·exact absurd (fun id b n e=>by cases e) h
  have dec:∀ i,st' i=none∨st' i≠none:=fun i=>by cases st' i<;>simp
  let φ2:Pl:=fun i=>match st' i with
   | some _=>φ i
   | none=>none
  have hφ2:∀ i,st' i≠none→φ2 i=φ i:=fun i h=>by
   show(match st' i with|some _=>φ i|none=>none)=φ i
   cases e:st' i with
   | none=>exact absurd e h
   | some _=>rfl
  have hφ2n:∀ i,φ2 i≠none→st' i≠none:=fun i h e=>h (by
   show(match st' i with|some _=>φ i|none=>none)=none
   rw[e])
  have hsub:∀ i p,φ2 i=some p→φ i=some p∧st' i≠none:=fun i p h=>by
   have h1:=hφ2n i (by rw[h];simp);exact⟨by rw[← hφ2 i h1];exact h,h1⟩
  have hA1:=hadv.trans k3
  have hfree2:eD φ2 b':=by
   intro i r n e ho;obtain⟨h1,h2⟩:=hsub _ _ e
   cases hb2:st' i with
   | none=>exact h2 hb2
   | some blk =>
    obtain⟨q1,q2,_⟩:=hst i blk hb2;exact q1 (hi.inj i id r b' n n' blk _ b' q2 hid h1 eφ ho hb.1)
  refine⟨b',cap,m1,φ2,by simp,?_,?_,?_,k1,hφ2,hφ2n,⟨hnew,hfree2,hrl⟩,fun f hf e=>hf id b' n' eφ (e ▸ hb.1)⟩
  ·refine⟨k2.mem,?_,?_,fun i b n f e ho=>k2.low i b n f (hsub _ _ e).1 ho,k2.kn⟩
   ·intro i blk hb';obtain⟨h1,h2,h3⟩:=hst i blk hb';have h4:upd st id (some (.frz 5 (Ex.aB ks))) i=some blk:=by simp[upd,h1,h2]
    obtain⟨b,n,q1,q2,q3⟩:=k2.live i blk h4;exact⟨b,n,by rw[hφ2 i (by rw[hb'];simp)];exact q1,q2,q3.X6 h3 rfl fun o h=>h⟩
   ·intro i j b bx n n2 b1 b2 f h1 h2 h3 h4 o1 o2;obtain⟨q1,q2,_⟩:=hst i b1 h1;obtain⟨r1,r2,_⟩:=hst j b2 h2;exact hi.inj i j b bx n n2 b1 b2 f q2 r2 (hsub _ _ h3).1 (hsub _ _ h4).1 o1 o2
  ·refine⟨hA1.size,hA1.os,hA1.tape,hA1.output,hA1.block,hA1.mle,hA1.mnew,(fun _ _ _ h=>by cases h),?_⟩;intro i b n f h2 ho;exact hA1.pnew i b n f (hsub _ _ h2).1 ho
  ·intro k hk
   rcases zV.1 hk with hk|hk
   ·have h:=hK k hk
    exact⟨h.new,h.row,fun i r n e=>h.free i r n (hsub _ _ e).1,h.cel.mono k3.mle,fun b2 c2 e=>by
     obtain⟨h1,h2,h3,h4⟩:=h.lit b2 c2 e
     exact⟨k3.mle _ _ _ h1,h2,fun i r n e=>h3 i r n (hsub _ _ e).1,h4⟩⟩
   ·have hel:IElems m1 b' 0 5 (Ex.aB ks):=by
     rcases l9 k1 with ⟨e1,_⟩|⟨_,b2,off,k',cap',hv,hel,_⟩
     ·exact absurd (by cases ks with|nil=>rfl|cons a l=>simp[Ex.aB]at e1) hks
     ·injection hv with q1 _ _;injection q1 with q1;injection q1 with q1 q2;subst q1;subst q2
      cases ks with
      | nil=>exact absurd rfl hks
      | cons a l=>obtain⟨rfl,_⟩:=o6 hel;exact hel
    obtain⟨e1,e3,e2⟩:=qH hel k hk;exact⟨by rw[e1];exact hnew,by rw[e1];exact hrow,by rw[e1];exact hfree2,e2,fun b2 c2 e=>by rw[e3]at e;cases e⟩
end
section
variable {C:Ctx} {wi:World} {mi:Mem} {nt:Nat}
theorem GG.eF (hS:SoundOk C) {G:List Nat} {c:Code} {S S':AS} {e:AExit} {a:Act} {w:World} {K:KL} (hc:codeOk nt c=true) (hx:dY C G S.st.length c S=some (e,S')) (h:GG wi mi nt (fun id=>id<S.st.length) K (aJ S.env) (aR S.st) a w) (hnr:bK c=true:=by rfl) :
 c.wp C.P (fun e' a' w'=>e'=gQ e∧GG wi mi nt (fun id=>id<S'.st.length) K (aJ S'.env) (aR S'.st) a' w') a w:=by
 obtain⟨n,hn⟩:=(dD _).1 hx;exact GG.code hS.ctx (aY hS) (hS.draw _ (aY hS)) hc hn h hnr
theorem RJ {w:World} {m m1:Mem} {φ:Pl} {st st1 st':Store} {K:KL} {id b':Nat} {n':Ext} {blk0:Blk} (hi:Inv w m φ st) (k2:Inv w m1 φ st1) (hA1:Adv wi mi (fun _=>none) w m1 φ) (hle:MLe m m1) (eφ:φ id=some (b',n')) (hid:st id=some blk0)
 (hK:∀ k∈K,PF wi.heap.size w m φ k.1.1 k.1.2 k.2) (hst:∀ i blk,st' i=some blk→i≠id∧st i=some blk∧st1 i=some blk∧gU blk) :
 ∃ φ2,Inv w m1 φ2 st'∧Adv wi mi (fun _=>none) w m1 φ2∧(∀ k∈K,PF wi.heap.size w m1 φ2 k.1.1 k.1.2 k.2)∧eD φ2 b'∧(∀ i,st' i≠none→φ2 i=φ i)∧(∀ i,φ2 i≠none→st' i≠none):=by
 let φ2:Pl:=fun i=>match st' i with
  | some _=>φ i
  | none=>none
 have hφ2:∀ i,st' i≠none→φ2 i=φ i:=fun i h=>by
  show(match st' i with|some _=>φ i|none=>none)=φ i
  cases e:st' i with
  | none=>exact absurd e h
  | some _=>rfl
 have hφ2n:∀ i,φ2 i≠none→st' i≠none:=fun i h e=>h (by
  show(match st' i with|some _=>φ i|none=>none)=none
  rw[e])
 have hsub:∀ i p,φ2 i=some p→φ i=some p∧st' i≠none:=fun i p h=>by
  have h1:=hφ2n i (by rw[h];simp);exact⟨by rw[← hφ2 i h1];exact h,h1⟩
 refine⟨φ2,⟨k2.mem,?_,?_,fun i b n f e ho=>k2.low i b n f (hsub _ _ e).1 ho,k2.kn⟩,?_,?_,?_,hφ2,hφ2n⟩
 ·intro i blk hb';obtain⟨h1,h2,h4,h3⟩:=hst i blk hb';obtain⟨b,n,q1,q2,q3⟩:=k2.live i blk h4;exact⟨b,n,by rw[hφ2 i (by rw[hb'];simp)];exact q1,q2,q3.X6 h3 rfl fun o h=>h⟩
 ·intro i j b bx n n2 b1 b2 f h1 h2 h3 h4 o1 o2;obtain⟨q1,q2,_⟩:=hst i b1 h1;obtain⟨r1,r2,_⟩:=hst j b2 h2;exact hi.inj i j b bx n n2 b1 b2 f q2 r2 (hsub _ _ h3).1 (hsub _ _ h4).1 o1 o2
 ·refine⟨hA1.size,hA1.os,hA1.tape,hA1.output,hA1.block,hA1.mle,hA1.mnew,(fun _ _ _ h=>by cases h),?_⟩;intro i b n f h2 ho;exact hA1.pnew i b n f (hsub _ _ h2).1 ho
 ·intro k hk;have h:=hK k hk
  exact⟨h.new,h.row,fun i r n e=>h.free i r n (hsub _ _ e).1,h.cel.mono hle,fun b2 c2 e=>by
   obtain⟨h1,h2,h3,h4⟩:=h.lit b2 c2 e
   exact⟨hle _ _ _ h1,h2,fun i r n e=>h3 i r n (hsub _ _ e).1,h4⟩⟩
 ·intro i r n e ho;obtain⟨h1,h2⟩:=hsub _ _ e
  cases hb2:st' i with
  | none=>exact h2 hb2
  | some blk =>
   obtain⟨q1,q2,_⟩:=hst i blk hb2;exact q1 (hi.inj i id r b' n n' blk _ b' q2 hid h1 eφ ho (cK hi eφ hid).1.1)
theorem GG.pub {ok ok':Nat→Prop} {K:KL} {env:Nat→AV} {st st':Store} {a:Act} {w:World} {u id:Nat} {e:Ex} (h:GG wi mi nt ok K env st a w) (hu:env u=.own id 0) (hid:st id=some (.box (lF e.cells)))
 (hst:∀ i blk,st' i=some blk→i≠id∧st i=some blk∧gU blk) (hok:∀ i,st' i≠none→ok' i) :
 ∃ b',(∀ env',(∀ t,env' t=.junk∨(t=u∧env' t=.i (.lit (.pointer (some ⟨b',0,none⟩))))∨(env' t=env t∧jV st' (env t)))→GG wi mi nt ok' (K++[((b',0),(e,none))]) env' st' a w):=by
 obtain⟨⟨m,φ,hi,henv,hadv,_,hK⟩,hsz,hdf⟩:=h;have hr:=henv u;rw[hu]at hr
 have hfr:rV st (.own id 0)=some (.iref e.cells,upd st id (some (.fbox e.cells))):=by
  have h1:∀ (l:List IV) (n:Nat),IW st (n+l.length+1) (lF l)=some (l,[]):=by
   intro l
   induction l with
   | nil=>intro n;simp[lF,IW]
   | cons c l ih=>intro n;simp only[lF,zP];rw[show n+(l.length+1)+1=(n+l.length+1)+1 by omega];simp[IW,frz,bnd,ih n]
  have h2:IW st 18 (lF e.cells)=some (e.cells,[]):=by
   have:=h1 e.cells 12;rw[Ex.dH]at this;exact this
  have h3:EN st 19 id 0 (some (.box (lF e.cells)))=some (.iref e.cells,[(id, .fbox e.cells)]):=by
   show bnd (IW st 18 (lF e.cells)) (fun p=>tst (decide (0≤p.1.length)) (some (IV.iref (dropE 0 p.1),(id,Blk.fbox p.1)::p.2)))=_;rw[h2];simp[dropE]
  have h4:frz st 20 (.own id 0)=some (.iref e.cells,[(id, .fbox e.cells)]):=by
   show EN st 19 id 0 (st id)=_;rw[hid];exact h3
  show bnd (frz st 20 (.own id 0)) (fun p=>some (p.1,iM st p.2))=_;rw[h4];rfl
 obtain⟨m1,k1,k2,k3⟩:=iY hi hr hfr
 cases hr':a.tmps.getD u undef with
 | pointer p =>
  rw[hr']at hr k1
  cases hr with
  | @own _ _ b' n' eφ =>
   obtain⟨hb,hbok⟩:=cK hi eφ hid
   have hrow:∃ (vs:List Value) (T:TypeId),w.heap[b']?=some (.cells vs.toArray T (0,0)):=by
    cases hbok with|box h1=>exact⟨_,_,h1⟩
   have hnew:wi.heap.size≤b':=by
    rcases hadv.pnew id b' n' b' eφ hb.1 with h|h
    ·exact h
    ·exact absurd (fun id b n e=>by cases e) h
   obtain⟨φ2,g1,g2,g3,g4,g5,g6⟩:=RJ (wi:=wi) (mi:=mi) (K:=K) hi k2 (hadv.trans k3) k3.mle eφ hid hK (st':=st') fun i blk hb'=>by
    obtain⟨q1,q2,q3⟩:=hst i blk hb';exact⟨q1,q2,by simp[upd,q1,q2],q3⟩
   refine⟨b',fun env' he=>⟨⟨m1,φ2,g1,fun t=>?_,g2,fun i hi'=>hok i (g6 i hi'),?_⟩,hsz,hdf⟩⟩
   ·rcases he t with h|⟨rfl,h⟩|⟨h,hs⟩
    ·rw[h];exact .junk _
    ·rw[h,hr'];exact .i (.lit _)
    ·rw[h];exact hs.rep g5 (henv t)
   ·intro k hk
    rcases zV.1 hk with hk|hk
    ·exact g3 k hk
    ·simp only[zA6]at hk;subst hk;refine⟨hnew,hrow,g4,?_,fun b2 c2 e=>by cases e⟩
     cases k1 with|iref hat=>exact hat
 | _=>rw[hr']at hr;cases hr
def AF3 (b o:Nat) (x:Ex) (b' cap:Nat):KL:=if x.kids=[]then []else((b,o),(x,some (b',cap)))::bL b' 0 x.kids
theorem GG.turn {ok ok':Nat→Prop} {K:KL} {env:Nat→AV} {st st':Store} {a:Act} {w:World} {u b o:Nat} {x:Ex} {t:TypeId} {r:AV} (h:GG wi mi nt ok K env st a w) (ht:iF C.P t=some 1) (hmi:kR wi mi∧oD wi mi) (hk:((b,o),(x,none))∈K) (hnl:∀ k∈K,k.1=(b,o)→k.2.2=none) (hu:env u=r)
 (hr:(r=.nils∧x.kids=[]∧∀ i blk,st' i=some blk→st i=some blk)∨∃ id,r=.osl id 5 0 x.kids.length∧x.kids≠[]∧st id=some (.arr 5 (Ex.aB x.kids))∧∀ i blk,st' i=some blk→i≠id∧st i=some blk)
 (hlit:AO6 st') (hok:∀ i,st' i≠none→ok' i) :
 ∃ w' b' ao cap,a.tmps.getD u undef=.slice ao x.kids.length cap∧(x.kids≠[]→ao=some ⟨b',0,none⟩)∧(Instr.storeAt t (.pointer (some ⟨b,o+4,none⟩)) (a.tmps.getD u undef)).run C.P w=.ok () w' ∧
   (∀ env',(∀ t,env' t=.junk∨(a.tmps.getD t undef=.pointer (some ⟨b,o,none⟩)∧env' t=.i (.iref [.int x.kind, .int x.col, .bool x.val.null, .int x.val.n, .lit (.slice ao x.kids.length cap)]))∨(env' t=env t∧jV st' (env t))) →
    GG wi mi nt ok' (K++AF3 b o x b' cap) env' st' a w')∧(x.kids≠[]→∀ k∈K,k.1.1≠b'∧∀ b2 c2,k.2.2=some (b2,c2)→b2≠b'):=by
 obtain⟨⟨m,φ,hi,henv,hadv,_,hK⟩,hsz,hdf⟩:=h;have hru:=henv u;rw[hu]at hru
 have main:∃ (b':Nat) (ao:Option Addr) (cap:Nat) (m1:Mem) (φ2:Pl),a.tmps.getD u undef=.slice ao x.kids.length cap∧(x.kids≠[]→ao=some ⟨b',0,none⟩)∧Inv w m1 φ2 st'∧Adv wi mi (fun _=>none) w m1 φ2∧(∀ k∈K++bL b' 0 x.kids,PF wi.heap.size w m1 φ2 k.1.1 k.1.2 k.2) ∧
  IRep m1 (.isl (Ex.aB x.kids)) (a.tmps.getD u undef)∧(∀ i,st' i≠none→φ2 i=φ i)∧(∀ i,φ2 i≠none→st' i≠none) ∧
  (x.kids≠[]→(wi.heap.size≤b'∧eD φ2 b'∧RL w b' (5*cap))∧(∀ f,eD φ f→f≠b')):=by
  rcases hr with ⟨rfl,hx,hst⟩|⟨id,rfl,hx,hid,hst⟩
  ·generalize hv:a.tmps.getD u undef=v at hru
   cases hru
   let φ2:Pl:=fun i=>match st' i with
    | some _=>φ i
    | none=>none
   have hφ2:∀ i,st' i≠none→φ2 i=φ i:=fun i h=>by
    show(match st' i with|some _=>φ i|none=>none)=φ i
    cases e:st' i with
    | none=>exact absurd e h
    | some _=>rfl
   have hφ2n:∀ i,φ2 i≠none→st' i≠none:=fun i h e=>h (by
    show(match st' i with|some _=>φ i|none=>none)=none
    rw[e])
   have hsub:∀ i p,φ2 i=some p→φ i=some p:=fun i p h=>by
    have h1:=hφ2n i (by rw[h];simp);rw[← hφ2 i h1];exact h
   refine⟨0,none,0,m,φ2,by rw[hx];rfl,fun h=>absurd hx h,⟨hi.mem,?_,?_,fun i b n f e ho=>hi.low i b n f (hsub _ _ e) ho,hi.kn⟩,?_,?_,?_,hφ2,hφ2n,fun h=>absurd hx h⟩
   ·intro i blk hb';obtain⟨b,n,q1,q2,q3⟩:=hi.live i blk (hst i blk hb');exact⟨b,n,by rw[hφ2 i (by rw[hb'];simp)];exact q1,q2,q3.X6 (hlit i blk hb') rfl fun o h=>h⟩
   ·intro i j b bx n n2 b1 b2 f h1 h2 h3 h4 o1 o2;exact hi.inj i j b bx n n2 b1 b2 f (hst i b1 h1) (hst j b2 h2) (hsub _ _ h3) (hsub _ _ h4) o1 o2
   ·refine⟨hadv.size,hadv.os,hadv.tape,hadv.output,hadv.block,hadv.mle,hadv.mnew,(fun _ _ _ h=>by cases h),?_⟩;intro i b n f h2 ho;exact hadv.pnew i b n f (hsub _ _ h2) ho
   ·intro k hk;rw[hx]at hk;simp only[bL,zA]at hk;have h:=hK k hk
    exact⟨h.new,h.row,fun i r n e=>h.free i r n (hsub _ _ e),h.cel,fun b2 c2 e=>by
     obtain⟨h1,h2,h3,h4⟩:=h.lit b2 c2 e
     exact⟨h1,h2,fun i r n e=>h3 i r n (hsub _ _ e),h4⟩⟩
   ·rw[hx];simp only[Ex.aB];exact .isl0 _ _ fun _=>rfl
  ·obtain⟨b',cap,m1,φ2,e1,g1,g2,g3,g4,g5,g6,g7,g8⟩:=R6 (wi:=wi) (mi:=mi) (K:=K) hx hi hru hid hadv hK (st':=st') fun i blk hb'=>⟨(hst i blk hb').1,(hst i blk hb').2,hlit i blk hb'⟩
   exact⟨b',_,cap,m1,φ2,e1,fun _=>rfl,g1,g2,g3,g4,g5,g6,fun _=>⟨g7,g8⟩⟩
 obtain⟨b',ao,cap,m1,φ2,e1,e2,g1,g2,g3,g4,g5,g6,g7⟩:=main
 have hkn:∀ (o':Nat) (l:List Ex),∀ k∈bL b' o' l,k.2.2=none:=by
  intro o' l
  induction l generalizing o' with
  | nil=>simp[bL]
  | cons a l ih =>
   intro k hk';simp only[bL,zS]at hk'
   rcases hk' with rfl|hk'
   ·rfl
   ·exact ih _ k hk'
 obtain⟨w',m',k1,k2,k3,k4,k5,k6⟩:=F6 (C:=C) (wi:=wi) (mi:=mi) (x:=x) (y:=(x,none)) rfl ht g1 hlit g2 hmi g3 (yL _ hk) (fun k hk' e=>by
  rcases zV.1 hk' with h|h
  ·exact hnl k h e
  ·exact hkn _ _ k h) g4
 have hcell:m' b (o+4)=some (a.tmps.getD u undef):=by
  obtain⟨_,_,_,_,k5⟩:=k5.inv;obtain⟨_,_,_,_,k5⟩:=k5.inv;obtain⟨_,_,_,_,k5⟩:=k5.inv;obtain⟨_,_,_,_,k5⟩:=k5.inv;obtain⟨v5,q1,q2,_,_⟩:=k5.inv;rw[eO q2]at q1;exact q1
 refine⟨w',b',ao,cap,e1,e2,k1,fun env' he=>⟨⟨m',φ2,k2,fun t=>?_,k3,fun i hi'=>hok i (g6 i hi'),?_⟩,hsz,hdf⟩,fun hx k hk'=>?_⟩
 ·rcases he t with h|⟨h1,h⟩|⟨h,hs⟩
  ·rw[h];exact .junk _
  ·rw[h,h1,← e1];exact .i (.iref k5)
  ·rw[h];exact hs.rep g5 (henv t)
 ·intro k hk'
  rcases zV.1 hk' with h|h
  ·exact k4 k (yL _ h)
  ·unfold AF3 at h;split at h
   ·cases h
   ·rename_i hx
    rcases zS.1 h with rfl|h
    ·have hp:=k4 ((b,o),(x,none)) (yL _ hk);refine⟨hp.new,hp.row,hp.free,hp.cel,fun b2 c2 e=>?_⟩;injection e with e;injection e with e3 e4;subst e3;subst e4;obtain⟨⟨q1,q2,q3⟩,_⟩:=g7 hx;refine⟨?_,q1,q2,k6 _ _ q3⟩;have:=e2 hx;subst this;rw[hcell,e1]
    ·exact k4 k (zD3 _ h)
 ·obtain⟨_,q4⟩:=g7 hx;have h:=hK k hk';exact⟨q4 _ h.free,fun b2 c2 e=>q4 _ (h.lit b2 c2 e).2.2.1⟩
end
section
variable {C:Ctx} {wi:World} {mi:Mem} {nt:Nat}
theorem GG.ADF {ok:Nat→Prop} {K:KL} {env:Nat→AV} {st:Store} {a:Act} {w:World} {t:Nat} {v:Value} (h:GG wi mi nt ok K env st a w) (ht:env t=.i (.lit v)):a.tmps.getD t undef=v:=by
 obtain⟨⟨m,φ,hi,henv,_⟩,_⟩:=h;have:=henv t;rw[ht]at this;exact this.lit_eq
theorem GG.region (hS:SoundOk C) {id:Nat} {ops:Array Oper} {os1 os2:List Oper} {o:Oper} {K:KL} {S:AS} {a:Act} {w:World} {u b' o':Nat} {x:Ex} {y:Option (Nat×Nat)} {Q:Exit→Act→World→Prop} {PP:(Nat→AV)→Store→Prop} (hops:ops.toList=os1++(os2++[o])) (hs:∀ o∈ops,gN nt o=true)
 (g:GG wi mi nt (fun id=>id<S.st.length) K (aJ S.env) (aR S.st) a w) (hk:((b',o'),(x,y))∈K)
 (h:∃ R1,dC C (aH C) ops.toList false S.st.length os1 0 { env:=aJ S.env,st:=aR S.st,log:=[] }=some R1∧R1.env u=.i (.lit (.pointer (some ⟨b',o',none⟩))) ∧
  ∃ R2,dC C (aH C) ops.toList false S.st.length os2 os1.length { env:=upd R1.env u (.i (.iref x.cells)),st:=R1.st,log:=R1.log }=some R2∧PP R2.env R2.st)
 (hfin:∀ env st a' w',PP env st→GG wi mi nt (fun _=>True) K env st a' w'→wpOpIn (FR none) 0 C.P ops Q (os1.length+os2.length) (fun a w=>wpOpsIn (FR none) 0 C.P ops Q [] a w) a' w'):(Code.region id ops false).wp C.P Q a w:=by
 obtain⟨R1,h1,h2,R2,h3,h4⟩:=h;refine kY ?_;have hsz:ops.size=os1.length+(os2.length+1):=by rw[← Array.length_toList,hops];simp
 have hget:∀ j,ops[j]?=(os1++(os2++[o]))[j]?:=fun j=>by rw[← hops,xU]
 rw[zB4,hsz,show List.range' 0 (os1.length+(os2.length+1))=List.range' 0 os1.length++(List.range' os1.length os2.length++[os1.length+os2.length])by
  rw[← List.range'_append_1,← List.range'_append_1];simp]
 have hcall:=aY hS;refine GG.ops hS.ctx hcall hs (R:={ env:=aJ S.env,st:=aR S.st,log:=[] }) (base:=S.st.length) (i:=0) (fun j hj=>?_) h1 (g.ok' fun id h=>.inl h) fun a1 w1 g1=>?_
 ·rw[hget,zH,zG hj]
 ·have g2:=g1.see (u:=u) h2 hk;rw[zH]at g2;refine GG.ops hS.ctx hcall hs (R:={ env:=upd R1.env u (.i (.iref x.cells)),st:=R1.st,log:=R1.log }) (base:=S.st.length) (fun j hj=>?_) h3 g2 fun a2 w2 g3=>?_
  ·rw[hget,zB (by omega),xQ,zG hj]
  ·rw[wpOpsIn_cons];exact hfin _ _ a2 w2 h4 (g3.ok' fun _ _=>trivial)
end
end Go.Av.V

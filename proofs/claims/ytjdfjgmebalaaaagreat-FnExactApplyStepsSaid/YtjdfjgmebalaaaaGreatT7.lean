/- Part 7 of what the proof rests on: the executor and what it is worth, and the program's functions as it runs them. No condition. -/
import Derived.Test.YtjdfjgmebalaaaaGreatT6
import Derived.ChangeOld
import Derived.OpenShut
set_option linter.unusedVariables false
set_option linter.unusedSimpArgs false
namespace Go.Av
mutual
def Pn.ms:Pn→Nat
 | .mk _ _ es cs ks=>1+(Ex.aM es+(cs.length+Pn.msL ks))
def Pn.msL:List Pn→Nat
 | []=>0
 | p::l=>p.ms+Pn.msL l
end
def Pn.meas (p:Pn):Nat:=Ex.aM p.exprs+(p.cols.length+Pn.msL p.kids)
theorem Pn.AJE (p:Pn):p.ms=1+p.meas:=by cases p;simp[Pn.ms,Pn.meas,Pn.exprs,Pn.cols,Pn.kids]
theorem Pn.AMA (p:Pn):1≤p.ms:=by rw[Pn.AJE];omega
theorem Pn.uO:∀ (l:List Pn),l.length≤Pn.msL l
 | []=>by simp
 | p::l=>by have:=Pn.uO l;have:=Pn.AMA p;simp only[zP,Pn.msL];omega
theorem Pn.AEW:∀ {l:List Pn} {p:Pn},p∈l→p.ms≤Pn.msL l
 | a::l,p,h=>by
  simp only[Pn.msL]
  rcases zS.1 h with rfl|h
  ·omega
  ·have:=Pn.AEW h;omega
theorem AEU (l:List Pn) {i:Nat} {a:Pn} (h:l[i]?=some a):Pn.msL (l.take (i+1))=Pn.msL (l.take i)+a.ms:=by
 induction l generalizing i with
 | nil=>simp at h
 | cons b l ih =>
  cases i with
  | zero=>simp at h;subst h;simp[Pn.msL]
  | succ i=>have:=ih (i:=i) (by simpa using h);simp only[yS,Pn.msL]at this ⊢;omega
theorem AJF (l:List Pn) (i:Nat):Pn.msL (l.take i)≤Pn.msL l:=by
 induction l generalizing i with
 | nil=>simp[Pn.msL]
 | cons b l ih =>
  cases i with
  | zero=>simp[Pn.msL]
  | succ i=>simp only[yS,Pn.msL];have:=ih i;omega
theorem FN:∀ (l:List Pn) (i:Nat),i≤l.length→i≤Pn.msL (l.take i)
 | [],i,h=>by simp at h;subst h;simp
 | a::l,0,_=>by simp
 | a::l,i+1,h=>by
  have:=FN l i (by simpa using h);have:=Pn.AMA a;simp only[yS,Pn.msL];omega
theorem Pn.ZR:∀ (p:Pn),p.meas<100000000→p.thin:=by
 intro p
 induction p using Pn.ind with
 | h k t es cs ks ih =>
  intro h;simp only[Pn.meas,Pn.exprs,Pn.cols,Pn.kids]at h;have h1:=Ex.bR es;have h2:=Pn.uO ks;refine(Pn.bO _).2 ⟨by simp only[Pn.exprs];omega,fun e he=>Ex.fO e (by have:=Ex.iY (show e∈es from he);omega),by simp only[Pn.cols];omega,by simp only[Pn.kids];omega,fun a ha=>ih a ha ?_⟩;have h3:=Pn.AEW (show a∈ks from ha);rw[Pn.AJE]at h3;omega
theorem SH {left:Int} {a b:Nat} (h:0≤dC left a):dC (dC left a) b=dC left (a+b):=by
 unfold dC at h ⊢;by_cases ha:(a:Int)≤left
 ·rw[if_pos ha]at h ⊢;by_cases hb:(b:Int)≤left-a
  ·rw[if_pos hb,if_pos (by omega)];omega
  ·rw[if_neg hb,if_neg (by omega)]
 ·rw[if_neg ha]at h;omega
theorem BQ {left:Int} {a:Nat} (h:dC left a<0) (b:Nat):dC left a=-1∧dC left (a+b)=-1:=by
 unfold dC at h ⊢;by_cases ha:(a:Int)≤left
 ·rw[if_pos ha]at h;omega
 ·rw[if_neg ha,if_neg (by omega)];exact⟨rfl,rfl⟩
theorem OY {left:Int} {a:Nat} (h:0≤left):dC left a≤left:=by
 unfold dC;split<;>omega
end Go.Av
namespace Go.Proofs.YtjdfjgmebalaaaaGreat.P
open Go Go.Av
set_option maxRecDepth 4000
set_option maxHeartbeats 2000000
theorem X9 (l:List Int) (hl:l.length<9223372036854775808) (left:Int) (h0:0≤left) (h1:left<1000000000):aI C0 49 [.i (.isl (aF l)), .int left] []=some (.int (dC left l.length),[]):=by
 rw[aD rfl Tryz.func49 rfl rfl];have w1:IntKind.i64.wrap (left-l.length)=left-l.length:=wrO;by_cases hc:left-l.length<0
 ·have:¬ ((l.length:Nat):Int)≤left:=by omega
  simp[w1,hc,dC,this]
 ·have:((l.length:Nat):Int)≤left:=by omega
  simp[w1,hc,dC,this]
theorem ASD {p:Pn} {left:Int} (h1:aI C0 48 [.i (.isl (Ex.aB p.exprs)), .int left] []=some (.int (dC left (Ex.aM p.exprs)),[]))
 (h2:0≤dC left (Ex.aM p.exprs)→aI C0 49 [.i (.isl (aF p.cols)), .int (dC left (Ex.aM p.exprs))] []=some (.int (dC left (Ex.aM p.exprs+p.cols.length)),[]))
 (h3:0≤dC left (Ex.aM p.exprs+p.cols.length)→aI C0 50 [.i (.isl (Pn.aB p.kids)), .int (dC left (Ex.aM p.exprs+p.cols.length))] []=some (.int (dC left (Ex.aM p.exprs+p.cols.length+Pn.msL p.kids)),[])) :
 aI C0 10 [.i (.agg p.cells), .int left] []=some (.int (dC left p.meas),[]):=by
 rw[aD rfl Tryz.func10 rfl rfl,Pn.aA];have hm:p.meas=Ex.aM p.exprs+p.cols.length+Pn.msL p.kids:=by unfold Pn.meas;omega
 rw[hm];by_cases c1:dC left (Ex.aM p.exprs)<0
 ·obtain⟨e1,e2⟩:=BQ c1 (p.cols.length+Pn.msL p.kids);rw[← Nat.add_assoc]at e2;simp[h1,c1,e2]
 ·have h2:=h2 (by omega);by_cases c2:dC left (Ex.aM p.exprs+p.cols.length)<0
  ·obtain⟨e1,e2⟩:=BQ c2 (Pn.msL p.kids);simp[h1,c1,h2,c2,e2]
  ·have h3:=h3 (by omega);by_cases c3:dC left (Ex.aM p.exprs+p.cols.length+Pn.msL p.kids)<0
   ·obtain⟨e1,e2⟩:=BQ c3 0;simp[h1,c1,h2,c2,h3,c3,e1]
   ·simp[h1,c1,h2,c2,h3,c3]
def szJ (l:List Pn) (left:Int) (i:Nat):Int:=left-l.length-(Pn.msL (l.take i)-i)
def SZP (l:List Pn) (left:Int) (i:Nat):AS :=
 { env:=[(0, .i (.isl (Pn.aB l))),(1, .int (szJ l left i)),(4, .int 0),(5, .int i),(11, .bool false),(15,jk i (.bool true)),(25,jk i (.bool false))],st:=[] }
theorem ADF {l:List Pn} {left:Int} (h0:0≤left) (h1:left<1000000000) (hl:l.length<9223372036854775808)
 (ih:∀ a∈l,∀ left:Int,0≤left→left<1000000000→aI C0 10 [.i (.agg a.cells), .int left] []=some (.int (dC left (a.meas)),[])) :
 aI C0 50 [.i (.isl (Pn.aB l)), .int left] []=some (.int (dC left (Pn.msL l)),[]):=by
 rw[aD rfl Tryz.func50 rfl rfl];have w1:IntKind.i64.wrap (left-l.length)=left-l.length:=wrO;have hsl:=Pn.uO l;by_cases hc:left-l.length<0
 ·have:¬ ((Pn.msL l:Nat):Int)≤left:=by omega
  simp[w1,hc,dC,this]
 simp[w1,hc]
 have hpre:∀ i,i<l.length→∃ a,l[i]?=some a∧a∈l∧Pn.msL (l.take (i+1))=Pn.msL (l.take i)+(1+a.meas)∧fK (Pn.aB l) i=some a.cells:=by
  intro i hi;have h3:=zX hi;refine⟨_,h3,zU h3,?_,Pn.aQ h3⟩;rw[AEU l h3,Pn.AJE]
 have hround:∀ i,i<l.length→0≤szJ l left i→∃ a:Pn,fK (Pn.aB l) i=some a.cells∧aI C0 10 [.i (.agg a.cells), .int (szJ l left i)] []=some (.int (if 0≤szJ l left (i+1)then szJ l left (i+1)else -1),[]):=by
  intro i hi hs;obtain⟨a,h3,hm,hz,hn⟩:=hpre i hi;have hti:=FN l i (by omega);refine⟨a,hn,?_⟩;rw[ih a hm _ hs (by unfold szJ;omega)];congr 2;unfold dC;congr 1;by_cases hle:((a.meas:Nat):Int)≤szJ l left i
  ·rw[if_pos hle,if_pos (by unfold szJ at hle ⊢;omega)];unfold szJ;omega
  ·rw[if_neg hle,if_neg (by unfold szJ at hle ⊢;omega)]
 rcases BZ (fun i=>0≤szJ l left (i+1)) l.length with hall|⟨j,hj,hlt,hbad⟩
 ·rw[aV (SZP l left) l.length (by simp[SZP,szJ,Pn.msL])]
  ·rw[aH]
   have hfin:dC left (Pn.msL l)=szJ l left l.length:=by
    have hT:l.take l.length=l:=zY (by simp)
    have hge:0≤szJ l left l.length:=by
     cases hn:l.length with
     | zero=>unfold szJ;rw[hn];simp[Pn.msL];omega
     | succ n=>exact hn ▸ hall n (by omega)
    unfold dC;unfold szJ at hge ⊢;rw[hT]at hge ⊢;rw[if_pos (by omega)];omega
   rw[hfin];simp[SZP]
  ·intro i hi
   have hs:0≤szJ l left i:=by
    cases i with
    | zero=>unfold szJ;simp[Pn.msL];omega
    | succ i=>exact hall i (by omega)
   obtain⟨a,hn,hc⟩:=hround i hi hs;have hs1:=hall i hi;have hs1:0≤szJ l left (i+1):=hs1;rw[if_pos hs1]at hc;have w2:IntKind.i64.wrap ((i:Int)+1)=i+1:=wrO;rw[Pn.aA]at hn hc;simp[SZP,hi,hn,hc,w2,show ¬ szJ l left (i+1)<0 by omega]
 ·have hsl2:dC left (Pn.msL l)=-1:=by
   have hm:=AJF l (j+1);have hbad:¬ 0≤szJ l left (j+1):=hbad;obtain⟨a,h3,_,_,_⟩:=hpre j hj
   have hrest:Pn.msL (l.take (j+1))+(l.length-(j+1))≤Pn.msL l:=by
    have e1:Pn.msL l=Pn.msL (l.take (j+1))+Pn.msL (l.drop (j+1)):=by
     have key:∀ (n:Nat) (l:List Pn),Pn.msL l=Pn.msL (l.take n)+Pn.msL (l.drop n):=by
      intro n
      induction n with
      | zero=>intro l;simp[Pn.msL]
      | succ n ih=>intro l;cases l with
       | nil=>simp[Pn.msL]
       | cons b l=>simp only[yS,zB1,Pn.msL];have:=ih l;omega
     exact key _ _
    have e2:=Pn.uO (l.drop (j+1));simp at e2;omega
   unfold dC;unfold szJ at hbad;rw[if_neg (by omega)]
  rw[hsl2,aV (SZP l left) j (by simp[SZP,szJ,Pn.msL])]
  ·rw[aH]
   have hs:0≤szJ l left j:=by
    cases j with
    | zero=>unfold szJ;simp[Pn.msL];omega
    | succ j=>exact hlt j (by omega)
   obtain⟨a,hn,hc⟩:=hround j hj hs;have hbad:¬ 0≤szJ l left (j+1):=hbad;rw[if_neg hbad]at hc;rw[Pn.aA]at hn hc;simp[SZP,hj,hn,hc]
  ·intro i hi
   have hs:0≤szJ l left i:=by
    cases i with
    | zero=>unfold szJ;simp[Pn.msL];omega
    | succ i=>exact hlt i (by omega)
   obtain⟨a,hn,hc⟩:=hround i (by omega) hs;have hs1:0≤szJ l left (i+1):=hlt i hi;rw[if_pos hs1]at hc;have w2:IntKind.i64.wrap ((i:Int)+1)=i+1:=wrO;rw[Pn.aA]at hn hc;simp[SZP,show i<l.length by omega,hn,hc,w2,show ¬ szJ l left (i+1)<0 by omega]
theorem ADE:∀ (p:Pn),p.fat→∀ left:Int,0≤left→left<1000000000→aI C0 10 [.i (.agg p.cells), .int left] []=some (.int (dC left p.meas),[]):=by
 intro p
 induction p using Pn.ind with
 | h k t es cs ks ih =>
  intro hf left h0 h1;obtain⟨f1,f2,f3,f4,f5⟩:=(Pn.rF _).1 hf;refine ASD (ASC _ f1 f2 left h0 h1) (fun h=>?_) fun h=>?_
  ·rw[X9 _ f3 _ h (by have:=OY (a:=Ex.aM es) h0;simp only[Pn.exprs];omega),SH h]
  ·rw[ADF h (by have:=OY (a:=Ex.aM es+cs.length) h0;simp only[Pn.exprs,Pn.cols];omega) f4 fun a ha left h0 h1=>ih a ha (f5 a ha) left h0 h1,SH h]
end Go.Proofs.YtjdfjgmebalaaaaGreat.P
namespace Go.Av.Mk
open Go Go.Av
theorem GU {W n i:Nat} {us V:List Value} (hi:i<n) (hu:W*n≤us.length) (hV:V.length=W):(us.take (W*i)++V++us.drop (W*(i+1))).take (W*n)=us.take (W*i)++V++(us.take (W*n)).drop (W*(i+1)):=by
 have m1:W*(i+1)=W*i+W:=by rw[zB];omega
 have m2:W*(i+1)≤W*n:=zC W (by omega);have hl:(us.take (W*i)++V).length=W*(i+1):=by simp;omega
 rw[xP,hl,zY (by rw[hl];omega),xZ]
end Go.Av.Mk
namespace Go.Proofs.YtjdfjgmebalaaaaGreat.P
open Go Go.Av Go.Av.Mk
set_option maxRecDepth 4000
set_option maxHeartbeats 1000000
theorem AEO:∃ c0 c1 cc body c3 cend,MLoop C0 30 1 19 (GS 30) Tryz.f30 c0 c1 cc body c3 cend∧∀ n:Int,UB C0 AR3 AR2 AM9 1 19 body n:=by
 refine⟨_,_,_,_,_,_,{ func:=Tryz.func30,code:=rfl,ntmps:=rfl,big:=by omega,results:=rfl,ok0:=⟨by kernel_rfl,rfl⟩,ok1:=⟨by kernel_rfl,rfl⟩,okc:=⟨by kernel_rfl,rfl⟩,ok3:=⟨by kernel_rfl,rfl⟩,oke:=⟨by kernel_rfl,rfl⟩,x0:=?_,x1:=?_,xc:=?_,xo:=?_,x3:=?_,xe:=?_,xf:=?_,nil:=?_ },?_⟩
 ·intro n R q;simp[MS]
 ·intro n R q;simp[MS]
 ·intro n i R q hi;simp[MS,hi]
 ·intro n R q;simp[MS]
 ·intro n i R q hi;have w6:IntKind.i64.wrap ((i:Int)+1)=i+1:=wrO;simp[MS,w6]
 ·intro n R q;simp[MS]
 ·intro n R q;simp[MS]
 ·intro k;rw[aD rfl Tryz.func30 rfl rfl];simp;rw[aH];simp
 ·intro x b N n i us vs q F a w hin g hvs hT hnd hbF h0 h1;have hlen:=g.len;have hfit:=g.fit;have h1:q+1<1000000000000:=h1
  cases hT with
  | @lit v _ vs' _ ho hT =>
   cases hT
   have hR:=jM 1 n us i hin;rw[hvs]at hR;have hset:=p8 1 n us [.int .i64 q] i hin (by omega) rfl;simp only[yU,zC1]at hR hset;have w2:IntKind.i64.wrap (q+1)=q+1:=wrO;generalize hRR:rowsOf 1 n us=R at hR hset;refine wp_mono (AKB bH (G:=GS 30) (R':=R.set i [.int q]) (q':=q+1) (j9:=.junk) g hRR (by kernel_rfl) rfl (by simp[MS,hin,hR,w2]) hset) ?_;rintro e a' w' ⟨rfl,us',g',e',f'⟩;refine⟨rfl,us',[.int .i64 q],g',?_, .lit rfl .nil,f'⟩;rw[e'];exact GU hin (by omega) rfl
theorem AEN:uE C0 AR3 AR2 AM9 30:=by
 obtain⟨c0,c1,cc,body,c3,cend,L,hR⟩:=AEO;exact uE.of bH (by decide) L (fun _=>rfl) (by omega) (fun _=>zO _) hR
theorem AYE {w:World} {a:Ex} {vs:List Value} {F:List Nat} (h:TCells w a.cells vs F) :
 ∃ u,vs=[.int .i64 a.kind, .int .i64 a.col, .bool a.val.null, .int .i64 a.val.n,u]∧TCells w [.isl (Ex.aB a.kids)] [u] F:=by
 rw[Ex.aA]at h
 cases h with
 | @lit _ _ v1 _ o1 h1 =>
  cases h1 with
  | @lit _ _ v2 _ o2 h2 =>
   cases h2 with
   | @lit _ _ v3 _ o3 h3 =>
    cases h3 with
    | @lit _ _ v4 _ o4 h4 =>
     have hl:=h4.length
     cases v4 with
     | nil=>simp at hl
     | cons u r =>
      cases r with
      | cons=>simp at hl
      | nil=>exact⟨u,rfl,h4⟩
theorem AK9:∃ c0 c1 cc body c3 cend,MLoop C0 72 5 52 (GS 72) Tryz.f72 c0 c1 cc body c3 cend∧∀ x:Ex,UB C0 Ex.cells Ex.uY exZ 5 52 body x:=by
 have hl:∃ c0 c1 cc body c3 cend,MLoop C0 72 5 52 (GS 72) Tryz.f72 c0 c1 cc body c3 cend∧((∀ x:Ex,(∀ (w:World) (v:Value) (F:List Nat) (k:Int),TCells w [.isl (Ex.aB x.kids)] [v] F→F.Nodup→0≤k→k+(bX exZ x.kids:Nat)<1000000000000→Calls Tryz.prog 72 #[v, .int .i64 k] w (ALB Ex.cells Ex.uY exZ w v F k x.kids))→UB C0 Ex.cells Ex.uY exZ 5 52 body x)):=by
  refine⟨_,_,_,_,_,_,{ func:=Tryz.func72,code:=rfl,ntmps:=rfl,big:=by omega,results:=rfl,ok0:=⟨by kernel_rfl,rfl⟩,ok1:=⟨by kernel_rfl,rfl⟩,okc:=⟨by kernel_rfl,rfl⟩,ok3:=⟨by kernel_rfl,rfl⟩,oke:=⟨by kernel_rfl,rfl⟩,x0:=?_,x1:=?_,xc:=?_,xo:=?_,x3:=?_,xe:=?_,xf:=?_,nil:=?_ },?_⟩
  ·intro n R q;simp[MS]
  ·intro n R q;simp[MS]
  ·intro n i R q hi;simp[MS,hi]
  ·intro n R q;simp[MS]
  ·intro n i R q hi;have w6:IntKind.i64.wrap ((i:Int)+1)=i+1:=wrO;simp[MS,w6]
  ·intro n R q;simp[MS]
  ·intro n R q;simp[MS]
  ·intro k;rw[aD rfl Tryz.func72 rfl rfl];simp;rw[aH];simp
  ·intro x ih b N n i us vs q F a w hin g hvs hT hnd hbF h0 h1;have hlen:=g.len;have hfit:=g.fit;have hsz:exZ x=4+bX exZ x.kids:=by rw[uK];unfold exZ;rw[Ex.size_eq];omega
   rw[hsz]at h1;obtain⟨u,rfl,hu⟩:=AYE hT;have hR:=jM 5 n us i hin;rw[hvs]at hR;have hset:=p8 5 n us [.int .i64 q, .int .i64 (q+1), .bool ((q+1+1).tmod 3 == 0), .int .i64 (q+1+1+1),u] i hin (by omega) rfl;simp only[yU,zC1]at hR hset;have w2:IntKind.i64.wrap (q+1)=q+1:=wrO;have w3:IntKind.i64.wrap (q+1+1)=q+1+1:=wrO;have w4:IntKind.i64.wrap (q+1+1+1)=q+1+1+1:=wrO;have w5:IntKind.i64.wrap (q+1+1+1+1)=q+1+1+1+1:=wrO;have rr:=g.to;generalize hRR:rowsOf 5 n us=R at hR hset rr;have hRl:R.length=n:=by rw[← hRR,fA]
   have hRs:∀ r:List IV,fK (R.set i r) i=some r:=fun r=>by rw[fI,zD2 (by omega)]
   refine wp_seq (wp_mono (nV bH (nS b N) (G:=GS 72) (S':=MS 5 n (R.set i [.int q, .int x.col, .bool x.val.null, .int x.val.n, .lit u]) q .junk (.int i) .junk) (e:=.normal) (by kernel_rfl) (by simp[MS,hin,hR,hRs,w2,w3,w4,w5]) rr) ?_);rintro _ x1 y1 ⟨rfl,r1⟩;refine wp_seq (wp_mono (nV bH (nS b N) (G:=GS 72) (S':=MS 5 n (R.set i [.int q, .int x.col, .bool x.val.null, .int x.val.n, .lit u]) (q+1) .junk (.int i) .junk) (e:=.normal) (by kernel_rfl) (by simp[MS,hin,hR,hRs,w2,w3,w4,w5]) r1) ?_);rintro _ x2 y2 ⟨rfl,r2⟩;refine wp_seq (wp_mono (nV bH (nS b N) (G:=GS 72) (S':=MS 5 n (R.set i [.int q, .int (q+1), .bool x.val.null, .int x.val.n, .lit u]) (q+1) .junk (.int i) .junk) (e:=.normal) (by kernel_rfl) (by simp[MS,hin,hR,hRs,w2,w3,w4,w5]) r2) ?_);rintro _ x3 y3 ⟨rfl,r3⟩;refine wp_seq (wp_mono (nV bH (nS b N) (G:=GS 72) (S':=MS 5 n (R.set i [.int q, .int (q+1), .bool x.val.null, .int x.val.n, .lit u]) (q+1+1) .junk (.int i) .junk) (e:=.normal) (by kernel_rfl) (by simp[MS,hin,hR,hRs,w2,w3,w4,w5]) r3) ?_);rintro _ x4 y4 ⟨rfl,r4⟩;refine wp_seq (wp_mono (nV bH (nS b N) (G:=GS 72) (S':=MS 5 n (R.set i [.int q, .int (q+1), .bool ((q+1+1).tmod 3 == 0), .int x.val.n, .lit u]) (q+1+1) .junk (.int i) .junk) (e:=.normal) (by kernel_rfl) (by simp[MS,hin,hR,hRs,w2,w3,w4,w5]) r4) ?_);rintro _ x5 y5 ⟨rfl,r5⟩;refine wp_seq (wp_mono (nV bH (nS b N) (G:=GS 72) (S':=MS 5 n (R.set i [.int q, .int (q+1), .bool ((q+1+1).tmod 3 == 0), .int x.val.n, .lit u]) (q+1+1+1) .junk (.int i) .junk) (e:=.normal) (by kernel_rfl) (by simp[MS,hin,hR,hRs,w2,w3,w4,w5]) r5) ?_);rintro _ x6 y6 ⟨rfl,r6⟩;refine wp_seq (wp_mono (nV bH (nS b N) (G:=GS 72) (S':=MS 5 n (R.set i [.int q, .int (q+1), .bool ((q+1+1).tmod 3 == 0), .int (q+1+1+1), .lit u]) (q+1+1+1) .junk (.int i) .junk) (e:=.normal) (by kernel_rfl) (by simp[MS,hin,hR,hRs,w2,w3,w4,w5]) r6) ?_);rintro _ x7 y7 ⟨rfl,r7⟩;refine wp_seq (wp_mono (nV bH (nS b N) (G:=GS 72) (S':=MS 5 n (R.set i [.int q, .int (q+1), .bool ((q+1+1).tmod 3 == 0), .int (q+1+1+1), .lit u]) (q+1+1+1+1) .junk (.int i) .junk) (e:=.normal) (by kernel_rfl) (by simp[MS,hin,hR,hRs,w2,w3,w4,w5]) r7) ?_);rintro _ x8 y8 ⟨rfl,r8⟩;obtain⟨us8,g8,e8,f8⟩:=g.of (vs:=us.take (5*i)++[.int .i64 q, .int .i64 (q+1), .bool ((q+1+1).tmod 3 == 0), .int .i64 (q+1+1+1),u]++us.drop (5*(i+1))) (q':=q+1+1+1+1) (i':=i) r8.1 rfl rfl rfl (by rw[← hset];rfl);rw[GU (W:=5) (us:=us) (V:=[.int .i64 q, .int .i64 (q+1), .bool ((q+1+1).tmod 3 == 0), .int .i64 (q+1+1+1),u]) hin (by omega) rfl]at e8;have hR8:=jM 5 n us8 i hin
   have hrow8:(us8.drop (5*i)).take 5=[.int .i64 q, .int .i64 (q+1), .bool ((q+1+1).tmod 3 == 0), .int .i64 (q+1+1+1),u]:=by
    have:(us8.drop (5*i)).take 5=((us8.take (5*n)).drop (5*i)).take 5:=by rw[xZ,zG,yO (by omega)]
    rw[this,e8,yV,zA1 (by simp;omega)];rfl
   rw[hrow8]at hR8;simp only[yU,zC1]at hR8
   refine wp_mono (CJ bH (s:=bX exZ x.kids) (K:=fun _ w2=>TCells w2 [.isl ((fJ Ex.uY exZ (q+1+1+1+1) x.kids).map Ex.cells)] [u] F) (u:=u) (Fu:=F) g8 (os1:=[_,_,_,_,_,_]) rfl (by kernel_rfl) (zO 1)
    (R1:=⟨upd (upd (upd (upd (upd (upd (aL (MS 5 n (rowsOf 5 n us8) (q+1+1+1+1) .junk (.int i) .junk).env) 44 (.osl 0 5 0 n)) 45 (.int i)) 46 (.ownE 0 5 i 0)) 47 (.ownE 0 5 i 4)) 48 (.i (.lit u))) 49 (.int (q+1+1+1+1)),aS (MS 5 n (rowsOf 5 n us8) (q+1+1+1+1) .junk (.int i) .junk).st,[]⟩)
    (by simp[MS,hin,hR8]) rfl rfl rfl rfl rfl rfl (by decide) (by decide) (by decide) (by decide) (by decide) Tryz.func72 (by decide) (by intro h;cases h) ?_ hbF) ?_
   ·intro w1 f1
    have hu1:TCells w1 [.isl (Ex.aB x.kids)] [u] F:=hu.mono fun f hf=>by
     have hlt:=tlt hu f hf;rw[f1.same f (zJ hlt f8.size) (by simp;intro e;subst e;exact hbF hf),f8.same f hlt (by simp;intro e;subst e;exact hbF hf)]
    refine(ih w1 u F _ hu1 hnd (by omega) (by push_cast at h1 ⊢;omega)).mono ?_;rintro en w2 ⟨p1,p2,p3,_⟩;exact⟨p1,p2,p3⟩
   ·rintro e a' w' ⟨rfl,us',g',e',w1,f1,f2,hK⟩;have hq:q+1+1+1+1+(bX exZ x.kids:Nat)=q+(exZ x:Nat):=by rw[hsz];push_cast;omega
    rw[hq]at g';refine⟨rfl,us',_,g',by rw[e',e8],?_,(f8.sub (by simp)).trans ((f1.sub (by simp)).trans (f2.sub fun f hf=>by simp[hf]))⟩;rw[Ex.JO,BP,Ex.bP];exact .lit rfl (.lit rfl (.lit rfl (.lit rfl hK)))
 obtain⟨c0,c1,cc,body,c3,cend,L,hR⟩:=hl;refine⟨c0,c1,cc,body,c3,cend,L,fun x=>?_⟩
 induction x using Ex.ind with
 | h kd cl vl l ih =>
  refine hR _ fun w v F k hT hnd hk0 hk1=>?_
  simp only[Ex.kids]at hT hk1 ⊢;rw[Ex.bP]at hT;exact OV bH (by decide) L (fun e=>by rw[Ex.aA];rfl) (by omega) ih hT hnd hk0 hk1 (by have:=sV (sz:=exZ) (fun e=>by unfold exZ;have:=Ex.mK e;omega) l;omega)
theorem AMM:uE C0 Ex.cells Ex.uY exZ 72:=by
 obtain⟨c0,c1,cc,body,c3,cend,L,hR⟩:=AK9;exact uE.of bH (by decide) L (fun e=>by rw[Ex.aA];rfl) (by omega) (fun e=>by unfold exZ;have:=Ex.mK e;omega) hR
theorem one_cell {w:World} {c:IV} {cs:List IV} {vs:List Value} {F:List Nat} (h:TCells w (c::cs) vs F):∃ v r F1 F2,vs=v::r∧F=F1++F2∧TCells w [c] [v] F1∧TCells w cs r F2:=by
 have hl:=h.length
 cases vs with
 | nil=>simp at hl
 | cons v r =>
  obtain⟨F1,F2,hF,h1,h2⟩:=h.split 1;exact⟨v,r,F1,F2,rfl,hF,by simpa using h1,by simpa using h2⟩
theorem AXC {w:World} {p:Pn} {vs:List Value} {F:List Nat} (h:TCells w p.cells vs F) :
 ∃ u1 u2 u3 F1 F2 F3,vs=[.int .i64 p.kind, .int .i64 p.table,u1,u2,u3]∧F=F1++(F2++F3)∧TCells w [.isl (Ex.aB p.exprs)] [u1] F1∧TCells w [.isl (aF p.cols)] [u2] F2∧TCells w [.isl (Pn.aB p.kids)] [u3] F3:=by
 rw[Pn.aA]at h
 cases h with
 | @lit _ _ v1 _ o1 h1 =>
  cases h1 with
  | @lit _ _ v2 _ o2 h2 =>
   obtain⟨u1,r1,F1,G1,rfl,rfl,k1,h3⟩:=one_cell h2;obtain⟨u2,r2,F2,G2,rfl,rfl,k2,h4⟩:=one_cell h3;obtain⟨u3,r3,F3,G3,rfl,rfl,k3,h5⟩:=one_cell h4
   cases h5
   exact⟨u1,u2,u3,F1,F2,F3,rfl,by simp,k1,k2,k3⟩
theorem AJ8:∃ c0 c1 cc body c3 cend,MLoop C0 73 5 48 (GS 73) Tryz.f73 c0 c1 cc body c3 cend∧∀ x:Pn,UB C0 Pn.cells Pn.sG Pn.mz 5 48 body x:=by
 have hl:∃ c0 c1 cc body c3 cend,MLoop C0 73 5 48 (GS 73) Tryz.f73 c0 c1 cc body c3 cend∧((∀ x:Pn,(∀ (w:World) (v:Value) (F:List Nat) (k:Int),TCells w [.isl (Pn.aB x.kids)] [v] F→F.Nodup→0≤k→k+(bX Pn.mz x.kids:Nat)<1000000000000→Calls Tryz.prog 73 #[v, .int .i64 k] w (ALB Pn.cells Pn.sG Pn.mz w v F k x.kids))→UB C0 Pn.cells Pn.sG Pn.mz 5 48 body x)):=by
  refine⟨_,_,_,_,_,_,{ func:=Tryz.func73,code:=rfl,ntmps:=rfl,big:=by omega,results:=rfl,ok0:=⟨by kernel_rfl,rfl⟩,ok1:=⟨by kernel_rfl,rfl⟩,okc:=⟨by kernel_rfl,rfl⟩,ok3:=⟨by kernel_rfl,rfl⟩,oke:=⟨by kernel_rfl,rfl⟩,x0:=?_,x1:=?_,xc:=?_,xo:=?_,x3:=?_,xe:=?_,xf:=?_,nil:=?_ },?_⟩
  ·intro n R q;simp[MS]
  ·intro n R q;simp[MS]
  ·intro n i R q hi;simp[MS,hi]
  ·intro n R q;simp[MS]
  ·intro n i R q hi;have w6:IntKind.i64.wrap ((i:Int)+1)=i+1:=wrO;simp[MS,w6]
  ·intro n R q;simp[MS]
  ·intro n R q;simp[MS]
  ·intro k;rw[aD rfl Tryz.func73 rfl rfl];simp;rw[aH];simp
  ·intro x ih b N n i us vs q F a w hin g hvs hT hnd hbF h0 h1;have hlen:=g.len;have hfit:=g.fit;have hsz:x.mz=2+(bX exZ x.exprs+(x.cols.length+bX Pn.mz x.kids)):=by rw[uK,uJ];exact Pn.AES x
   rw[hsz]at h1;obtain⟨u1,u2,u3,F1,F2,F3,rfl,rfl,t1,t2,t3⟩:=AXC hT;have nd1:=zI.1 hnd;have nd2:=zI.1 nd1.2.1;have b1:b ∉ F1:=fun h=>hbF (by simp[h])
   have b2:b ∉ F2:=fun h=>hbF (by simp[h])
   have b3:b ∉ F3:=fun h=>hbF (by simp[h])
   have d12:∀ f∈F1,f ∉ F2:=fun f h h'=>nd1.2.2 f h f (by simp[h']) rfl
   have d13:∀ f∈F1,f ∉ F3:=fun f h h'=>nd1.2.2 f h f (by simp[h']) rfl
   have d23:∀ f∈F2,f ∉ F3:=fun f h h'=>nd2.2.2 f h f h' rfl
   have hR:=jM 5 n us i hin;rw[hvs]at hR;have hset:=p8 5 n us [.int .i64 q, .int .i64 (q+1),u1,u2,u3] i hin (by omega) rfl;simp only[yU,zC1]at hR hset;have w2:IntKind.i64.wrap (q+1)=q+1:=wrO;have w3:IntKind.i64.wrap (q+1+1)=q+1+1:=wrO;have rr:=g.to;generalize hRR:rowsOf 5 n us=R at hR hset rr;have hRl:R.length=n:=by rw[← hRR,fA]
   have hRs:∀ r:List IV,fK (R.set i r) i=some r:=fun r=>by rw[fI,zD2 (by omega)]
   refine wp_seq (wp_mono (nV bH (nS b N) (G:=GS 73) (S':=MS 5 n (R.set i [.int q, .int x.table, .lit u1, .lit u2, .lit u3]) q .junk (.int i) .junk) (e:=.normal) (by kernel_rfl) (by simp[MS,hin,hR,hRs,w2,w3]) rr) ?_);rintro _ x1 y1 ⟨rfl,r1⟩;refine wp_seq (wp_mono (nV bH (nS b N) (G:=GS 73) (S':=MS 5 n (R.set i [.int q, .int x.table, .lit u1, .lit u2, .lit u3]) (q+1) .junk (.int i) .junk) (e:=.normal) (by kernel_rfl) (by simp[MS,hin,hR,hRs,w2,w3]) r1) ?_);rintro _ x2 y2 ⟨rfl,r2⟩;refine wp_seq (wp_mono (nV bH (nS b N) (G:=GS 73) (S':=MS 5 n (R.set i [.int q, .int (q+1), .lit u1, .lit u2, .lit u3]) (q+1) .junk (.int i) .junk) (e:=.normal) (by kernel_rfl) (by simp[MS,hin,hR,hRs,w2,w3]) r2) ?_);rintro _ x3 y3 ⟨rfl,r3⟩;refine wp_seq (wp_mono (nV bH (nS b N) (G:=GS 73) (S':=MS 5 n (R.set i [.int q, .int (q+1), .lit u1, .lit u2, .lit u3]) (q+1+1) .junk (.int i) .junk) (e:=.normal) (by kernel_rfl) (by simp[MS,hin,hR,hRs,w2,w3]) r3) ?_);rintro _ x4 y4 ⟨rfl,r4⟩;obtain⟨us8,g8,e8,f8⟩:=g.of (vs:=us.take (5*i)++[.int .i64 q, .int .i64 (q+1),u1,u2,u3]++us.drop (5*(i+1))) (q':=q+1+1) (i':=i) r4.1 rfl rfl rfl (by rw[← hset];rfl);rw[GU (W:=5) (us:=us) (V:=[.int .i64 q, .int .i64 (q+1),u1,u2,u3]) hin (by omega) rfl]at e8
   have rowU:∀ us9:List Value,us9.take (5*n)=us8.take (5*n)→fK (rowsOf 5 n us9) i=some [.int q, .int (q+1), .lit u1, .lit u2, .lit u3]:=by
    intro us9 e9;have hR8:=jM 5 n us9 i hin
    have hrow8:(us9.drop (5*i)).take 5=[.int .i64 q, .int .i64 (q+1),u1,u2,u3]:=by
     have:(us9.drop (5*i)).take 5=((us9.take (5*n)).drop (5*i)).take 5:=by rw[xZ,zG,yO (by omega)]
     rw[this,e9,e8,yV,zA1 (by simp;omega)];rfl
    rw[hrow8]at hR8;exact hR8
   have keep:∀ {w1 w2:World} {cs:List IV} {vs:List Value} {A B:List Nat},Fr w1 w2 B→TCells w1 cs vs A→(∀ f∈A,f ∉ B)→TCells w2 cs vs A:=fun fr h hd=>h.mono fun f hf=>fr.same f (tlt h f hf) (hd f hf)
   have nb:∀ {A:List Nat},b ∉ A→∀ f∈A,f ∉ [b]:=fun h f hf hh=>h (by simp at hh;exact hh ▸ hf)
   have hR8:=rowU us8 rfl
   refine wp_seq (wp_mono (CJ bH (s:=bX exZ x.exprs) (K:=fun _ w2=>TCells w2 [.isl ((fJ Ex.uY exZ (q+1+1) x.exprs).map Ex.cells)] [u1] F1) (u:=u1) (Fu:=F1) g8 (os1:=[_,_,_,_,_,_]) rfl (by kernel_rfl) (zO 1)
    (R1:=⟨upd (upd (upd (upd (upd (upd (aL (MS 5 n (rowsOf 5 n us8) (q+1+1) .junk (.int i) .junk).env) 26 (.osl 0 5 0 n)) 27 (.int i)) 28 (.ownE 0 5 i 0)) 29 (.ownE 0 5 i 2)) 30 (.i (.lit u1))) 31 (.int (q+1+1)),aS (MS 5 n (rowsOf 5 n us8) (q+1+1) .junk (.int i) .junk).st,[]⟩)
    (by simp[MS,hin,hR8]) rfl rfl rfl rfl rfl rfl (by decide) (by decide) (by decide) (by decide) (by decide) Tryz.func72 (by decide) (by intro h;cases h) ?_ b1) ?_)
   ·intro w1 f1;have hu1:=keep f1 (keep f8 t1 (nb b1)) (nb b1);rw[Ex.bP]at hu1;refine(AMM x.exprs w1 u1 F1 _ hu1 nd1.1 (by omega) (by push_cast at h1 ⊢;omega)).mono ?_;rintro en w2 ⟨p1,p2,p3,_⟩;exact⟨p1,p2,p3⟩
   rintro e a9 y9 ⟨rfl,us9,g9,e9,wa,fa,fb,hK1⟩;have hR9:=rowU us9 e9;have t2a:=keep fb (keep fa (keep f8 t2 (nb b2)) (nb b2)) (fun f h h'=>d12 f h' h);have t3a:=keep fb (keep fa (keep f8 t3 (nb b3)) (nb b3)) (fun f h h'=>d13 f h' h)
   refine wp_seq (wp_mono (CJ bH (s:=x.cols.length) (K:=fun _ w2=>TCells w2 [.isl ((CY (q+1+1+(bX exZ x.exprs:Nat)) x.cols).map AR3)] [u2] F2) (u:=u2) (Fu:=F2) g9 (os1:=[_,_,_,_,_,_]) rfl (by kernel_rfl) (zO 1)
    (R1:=⟨upd (upd (upd (upd (upd (upd (aL (MS 5 n (rowsOf 5 n us9) (q+1+1+(bX exZ x.exprs:Nat)) .junk (.int i) .junk).env) 33 (.osl 0 5 0 n)) 34 (.int i)) 35 (.ownE 0 5 i 0)) 36 (.ownE 0 5 i 3)) 37 (.i (.lit u2))) 38 (.int (q+1+1+(bX exZ x.exprs:Nat))),aS (MS 5 n (rowsOf 5 n us9) (q+1+1+(bX exZ x.exprs:Nat)) .junk (.int i) .junk).st,[]⟩)
    (by simp[MS,hin,hR9]) rfl rfl rfl rfl rfl rfl (by decide) (by decide) (by decide) (by decide) (by decide) Tryz.func30 (by decide) (by intro h;cases h) ?_ b2) ?_)
   ·intro w1 f1;have hu1:=keep f1 t2a (nb b2);rw[nN]at hu1;refine(AEN x.cols w1 u2 F2 _ hu1 nd2.1 (by omega) (by rw[oZ];push_cast at h1 ⊢;omega)).mono ?_;rintro en w2 ⟨p1,p2,p3,_⟩;rw[oZ]at p1;exact⟨p1,p2,p3⟩
   rintro e a10 y10 ⟨rfl,us10,g10,e10,wc,fc,fd,hK2⟩;have hR10:=rowU us10 (e10.trans e9);have k1a:=keep fd (keep fc hK1 (nb b1)) (fun f h h'=>d12 f h h');have t3b:=keep fd (keep fc t3a (nb b3)) (fun f h h'=>d23 f h' h)
   refine wp_mono (CJ bH (s:=bX Pn.mz x.kids) (K:=fun _ w2=>TCells w2 [.isl ((fJ Pn.sG Pn.mz (q+1+1+(bX exZ x.exprs:Nat)+(x.cols.length:Nat)) x.kids).map Pn.cells)] [u3] F3) (u:=u3) (Fu:=F3) g10 (os1:=[_,_,_,_,_,_]) rfl (by kernel_rfl) (zO 1)
    (R1:=⟨upd (upd (upd (upd (upd (upd (aL (MS 5 n (rowsOf 5 n us10) (q+1+1+(bX exZ x.exprs:Nat)+(x.cols.length:Nat)) .junk (.int i) .junk).env) 40 (.osl 0 5 0 n)) 41 (.int i)) 42 (.ownE 0 5 i 0)) 43 (.ownE 0 5 i 4)) 44 (.i (.lit u3))) 45 (.int (q+1+1+(bX exZ x.exprs:Nat)+(x.cols.length:Nat))),aS (MS 5 n (rowsOf 5 n us10) (q+1+1+(bX exZ x.exprs:Nat)+(x.cols.length:Nat)) .junk (.int i) .junk).st,[]⟩)
    (by simp[MS,hin,hR10]) rfl rfl rfl rfl rfl rfl (by decide) (by decide) (by decide) (by decide) (by decide) Tryz.func73 (by decide) (by intro h;cases h) ?_ b3) ?_
   ·intro w1 f1;have hu1:=keep f1 t3b (nb b3);refine(ih w1 u3 F3 _ hu1 nd2.2.1 (by omega) (by push_cast at h1 ⊢;omega)).mono ?_;rintro en w2 ⟨p1,p2,p3,_⟩;exact⟨p1,p2,p3⟩
   rintro e a' w' ⟨rfl,us',g',e',w1,f1,f2,hK3⟩;have hq:q+1+1+(bX exZ x.exprs:Nat)+(x.cols.length:Nat)+(bX Pn.mz x.kids:Nat)=q+(x.mz:Nat):=by rw[hsz];push_cast;omega
   rw[hq]at g';have k1b:=keep f2 (keep f1 k1a (nb b1)) (fun f h h'=>d13 f h h');have k2b:=keep f2 (keep f1 hK2 (nb b2)) (fun f h h'=>d23 f h h');refine⟨rfl,us',_,g',by rw[e',e10,e9,e8],?_,(f8.sub (by simp)).trans ((fa.sub (by simp)).trans ((fb.sub fun f hf=>by simp[hf]).trans ((fc.sub (by simp)).trans ((fd.sub fun f hf=>by simp[hf]).trans ((f1.sub (by simp)).trans (f2.sub fun f hf=>by simp[hf]))))))⟩;rw[Pn.JM,BP,Ex.bP,nN,tJ,Pn.bP,← uK];exact .lit rfl (.lit rfl (k1b.append (k2b.append hK3)))
 obtain⟨c0,c1,cc,body,c3,cend,L,hR⟩:=hl;refine⟨c0,c1,cc,body,c3,cend,L,fun x=>?_⟩
 induction x using Pn.ind with
 | h k t es cs ks ih =>
  refine hR _ fun w v F k hT hnd hk0 hk1=>?_
  simp only[Pn.kids]at hT hk1 ⊢;rw[Pn.bP]at hT;exact OV bH (by decide) L (fun e=>by rw[Pn.aA];rfl) (by omega) ih hT hnd hk0 hk1 (by have:=sV (sz:=Pn.mz) (fun e=>by have:=Pn.AES e;omega) ks;omega)
theorem ATV:uE C0 Pn.cells Pn.sG Pn.mz 73:=by
 obtain⟨c0,c1,cc,body,c3,cend,L,hR⟩:=AJ8;exact uE.of bH (by decide) L (fun e=>by rw[Pn.aA];rfl) (by omega) (fun e=>by have:=Pn.AES e;omega) hR
noncomputable def AOD:FuncId→Option (List AV→StL→Option (AV×StL))
 | 84=>none
 | 52=>none
 | 14=>none
 | 13=>none
 | 53=>none
 | 35=>none
 | 15=>none
 | g=>if g=lW then none else some (aI C0 g)
def OZ:FuncId→Bool
 | 84=>true
 | 52=>true
 | 14=>true
 | 13=>true
 | 53=>true
 | 35=>true
 | 15=>true
 | g=>keepR g
noncomputable def CT:Ctx:={ P:=Tryz.prog,G:=GS,ownArgs:=dB,keepRes:=OZ,eqT:=vV,prim:=AOD,tree:=true }
@[simp] theorem AmS:CT.P=Tryz.prog:=(rfl)
@[simp] theorem AmT (f):CT.G f=GS f:=(rfl)
@[simp] theorem AmP (f):CT.ownArgs f=dB f:=(rfl)
@[simp] theorem AmQ (f):CT.keepRes f=OZ f:=(rfl)
@[simp] theorem AmR (f):CT.eqT f=vV f:=(rfl)
@[simp] theorem AmO:CT.tree=true:=(rfl)
@[simp] theorem kT1:OZ 84=true:=(rfl)
@[simp] theorem kT2:OZ 52=true:=(rfl)
@[simp] theorem kT3:OZ 14=true:=(rfl)
@[simp] theorem kT4:OZ 13=true:=(rfl)
@[simp] theorem kT5:OZ 53=true:=(rfl)
@[simp] theorem kT6:OZ 35=true:=(rfl)
@[simp] theorem kT7:OZ 15=true:=(rfl)
theorem ATP:PrimOk CT:=by
 have h0:=aR bH
 have key:∀ g q,CT.prim g=some q→g≠lW∧q=aI C0 g:=by
  intro g q h;have h:AOD g=some q:=h;unfold AOD at h;split at h<;>first|(cases h;done)|(split at h<;>first|(cases h;done)|(rename_i hy;injection h with h;exact⟨hy,h.symm⟩))
 constructor
 ·intro g args st p h;unfold bE at h
  cases hq:CT.prim g with
  | none=>rw[hq]at h;cases h
  | some q=>rw[hq]at h;obtain⟨hy,rfl⟩:=key g q hq;exact h0.name g args st p hy h
 ·intro g args st r st' h;unfold bE at h
  cases hq:CT.prim g with
  | none=>rw[hq]at h;cases h
  | some q=>rw[hq]at h;obtain⟨hy,rfl⟩:=key g q hq;exact h0.calls g args st r st' hy h
theorem ASX:SoundOk CT:=fQ (C:=CT) ft nt eqS mo ATP
@[simp] theorem ct1 (args:List AV) (st:StL):aI CT 123 args st=aI C0 123 args st:=bA (C:=CT) rfl args st
theorem AS8 (v:Val):aI C0 123 [.i (.agg [.bool v.null, .int v.n])] []=some (.i (.agg [.bool v.null, .int v.n]),[]):=by
 rw[aD rfl Tryz.func123 rfl rfl];simp
theorem AS2 {e:Ex} (h:aI CT 52 [.i (.isl (Ex.aB e.kids))] []=some (.osl 0 5 0 e.kids.length,[some (kQ Ex.cells 5 e.kids)])):aI CT 84 [.i (.agg e.cells)] []=some (tE e 0,[some (kQ Ex.cells 5 e.kids)]):=by
 rw[aD rfl Tryz.func84 rfl rfl,Ex.aA];have hv:=AS8 e.val;simp[hv,h,tE]
def TTE (l:List Ex) (i:Nat):AS :=
 { env:=[(0, .i (.isl (Ex.aB l))),(2, .nils),(3, .osl 0 5 0 l.length),(4, .int i),(11,jk i (.bool true))],st:=[some (uZ Ex.cells 5 ACM l l.length i)] }
theorem ALH {l:List Ex} (hl:l.length<1000000000) (ih:∀ a∈l,aI CT 84 [.i (.agg a.cells)] []=some (tE a 0,[some (kQ Ex.cells 5 a.kids)])):aI CT 52 [.i (.isl (Ex.aB l))] []=some (.osl 0 5 0 l.length,[some (kQ Ex.cells 5 l)]):=by
 rw[aD rfl Tryz.func52 rfl rfl];have hb:56*(l.length:Int)≤281474976710656:=by omega
 simp[hb];rw[aV (TTE l) l.length (by simp[TTE,uZ,ACM])]
 ·rw[aH];simp[TTE,K9]
 ·intro i hi;have h3:=zX hi;have hc:=ih _ (zU h3);have r2:=Ex.aQ h3;have hput:=K8 (cells:=Ex.cells) (W:=5) (z:=ACM) (n:=l.length) h3 hi (by simp[ACM]) (by rw[Ex.aA];simp[ACM]) (by rw[Ex.aA];simp[sH,Y4]);generalize l[i]=a at h3 hc r2 hput;have w2:IntKind.i64.wrap ((i:Int)+1)=i+1:=wrO;rw[Ex.aA]at hc r2;simp only[Ex.aA,Ex.bP]at hput;simp[TTE,hi,r2,hc,tE,w2,hput]
theorem AS3:∀ (e:Ex),e.thin→aI CT 84 [.i (.agg e.cells)] []=some (tE e 0,[some (kQ Ex.cells 5 e.kids)]):=by
 intro e
 induction e using Ex.ind with
 | h k c v ks ih =>
  intro ht;have ht':=(Ex.bO _).1 ht;exact AS2 (ALH ht'.1 fun a ha=>ih a ha (ht'.2 a ha))
theorem ARZ (l:List Ex) (hl:l.length<1000000000) (ht:∀ a∈l,a.thin):aI CT 52 [.i (.isl (Ex.aB l))] []=some (.osl 0 5 0 l.length,[some (kQ Ex.cells 5 l)]):=ALH hl fun a ha=>AS3 a (ht a ha)
theorem AD5 (l:List Int) (hl:l.length<1000000000):aI CT 14 [.i (.isl (aF l))] []=some (.osl 0 1 0 l.length,[some (.arr 1 (aF l))]):=by
 rw[aD rfl Tryz.func14 rfl rfl];have hb:8*(l.length:Int)≤281474976710656:=by omega
 simp[hb];rw[aV (TIX l) l.length (by simp[TIX,aF])]
 ·rw[aH];have hT:l.take l.length=l:=zY (by simp);simp[TIX,hT]
 ·intro i hi;have h3:=zX hi;have r2:=bJ h3;generalize l[i]=a at h3 r2;have w2:IntKind.i64.wrap ((i:Int)+1)=i+1:=wrO;have hD:(aF (l.take i)).length=i:=by simp;omega
  have g1:=uS (n:=l.length) (z:=[IV.int 0]) hD hi;have g2:=uR (n:=l.length) (z:=[IV.int 0]) (x:=[IV.int a]) hD hi;have hS:aF (l.take i)++[[IV.int a]]=aF (l.take (i+1)):=by rw[aN h3,pO]
  rw[hS]at g2;simp[TIX,hi,r2,w2,g1,g2]
theorem AS0 {p:Pn} (h1:aI CT 52 [.i (.isl (Ex.aB p.exprs))] []=some (.osl 0 5 0 p.exprs.length,[some (kQ Ex.cells 5 p.exprs)])) (h2:aI CT 14 [.i (.isl (aF p.cols))] []=some (.osl 0 1 0 p.cols.length,[some (.arr 1 (aF p.cols))])) (h3:aI CT 53 [.i (.isl (Pn.aB p.kids))] []=some (.osl 0 5 0 p.kids.length,[some (kQ Pn.cells 5 p.kids)])) :
 aI CT 13 [.i (.agg p.cells)] []=some (tP p 0,tPB p):=by
 rw[aD rfl Tryz.func13 rfl rfl,Pn.aA];simp[h1,h2,h3,tP,tPB]
def TTP (l:List Pn) (i:Nat):AS :=
 { env:=[(0, .i (.isl (Pn.aB l))),(2, .nils),(3, .osl 0 5 0 l.length),(4, .int i),(11,jk i (.bool true))],st:=[some (uZ Pn.cells 5 zpw l l.length i)] }
theorem lU (l:List Int):AB 1 0 l.length (some (.arr 1 (aF l)))=some (aF l):=by
 have:fH (aF l)=true:=by
  rw[nN]
  induction l with
  | nil=>rfl
  | cons n l ih=>simp only[yU,fH,ih,zD3];rfl
 simp[AB,this]
theorem AN7 {l:List Pn} (hl:l.length<1000000000) (ih:∀ a∈l,aI CT 13 [.i (.agg a.cells)] []=some (tP a 0,tPB a)):aI CT 53 [.i (.isl (Pn.aB l))] []=some (.osl 0 5 0 l.length,[some (kQ Pn.cells 5 l)]):=by
 rw[aD rfl Tryz.func53 rfl rfl];have hb:88*(l.length:Int)≤281474976710656:=by omega
 simp[hb];rw[aV (TTP l) l.length (by simp[TTP,uZ,zpw])]
 ·rw[aH];simp[TTP,K9]
 ·intro i hi;have h3:=zX hi;have hc:=ih _ (zU h3);have r2:=Pn.aQ h3;have hput:=K8 (cells:=Pn.cells) (W:=5) (z:=zpw) (n:=l.length) h3 hi (by simp[zpw]) (by rw[Pn.aA];simp[zpw]) (by rw[Pn.aA];simp[sH,Y4]);generalize l[i]=a at h3 hc r2 hput;have w2:IntKind.i64.wrap ((i:Int)+1)=i+1:=wrO;have ha:=lU a.cols;rw[Pn.aA]at hc r2;simp only[Pn.aA,Ex.bP,Pn.bP]at hput;simp[TTP,hi,r2,hc,tP,tPB,w2,ha,hput]
theorem AS1:∀ (p:Pn),p.thin→aI CT 13 [.i (.agg p.cells)] []=some (tP p 0,tPB p):=by
 intro p
 induction p using Pn.ind with
 | h k t es cs ks ih =>
  intro ht;obtain⟨h1,h2,h3,h4,h5⟩:=(Pn.bO _).1 ht;exact AS0 (ARZ es h1 h2) (AD5 cs h3) (AN7 h4 fun a ha=>ih a ha (h5 a ha))
theorem AWT {w:World} {s:Stp} {vs:List Value} {F:List Nat} (h:TCells w (rY s) vs F):∃ u,vs=[.int .i64 s.1,u]∧TCells w [.isl (aF s.2)] [u] F:=by
 simp only[rY]at h
 cases h with
 | @lit _ _ v1 _ o1 h1 =>
  have hl:=h1.length
  cases v1 with
  | nil=>simp at hl
  | cons u r =>
   cases r with
   | cons=>simp at hl
   | nil=>exact⟨u,rfl,h1⟩
theorem AIH:∃ c0 c1 cc body c3 cend,MLoop C0 31 2 27 (GS 31) Tryz.f31 c0 c1 cc body c3 cend∧∀ x:Stp,UB C0 rY ALS XD 2 27 body x:=by
 refine⟨_,_,_,_,_,_,{ func:=Tryz.func31,code:=rfl,ntmps:=rfl,big:=by omega,results:=rfl,ok0:=⟨by kernel_rfl,rfl⟩,ok1:=⟨by kernel_rfl,rfl⟩,okc:=⟨by kernel_rfl,rfl⟩,ok3:=⟨by kernel_rfl,rfl⟩,oke:=⟨by kernel_rfl,rfl⟩,x0:=?_,x1:=?_,xc:=?_,xo:=?_,x3:=?_,xe:=?_,xf:=?_,nil:=?_ },?_⟩
 ·intro n R q;simp[MS]
 ·intro n R q;simp[MS]
 ·intro n i R q hi;simp[MS,hi]
 ·intro n R q;simp[MS]
 ·intro n i R q hi;have w6:IntKind.i64.wrap ((i:Int)+1)=i+1:=wrO;simp[MS,w6]
 ·intro n R q;simp[MS]
 ·intro n R q;simp[MS]
 ·intro k;rw[aD rfl Tryz.func31 rfl rfl];simp;rw[aH];simp
 ·intro x b N n i us vs q F a w hin g hvs hT hnd hbF h0 h1;have hlen:=g.len;have hfit:=g.fit;have h1:q+((1+x.2.length:Nat):Int)<1000000000000:=h1;obtain⟨u,rfl,hu⟩:=AWT hT;have hR:=jM 2 n us i hin;rw[hvs]at hR;have hset:=p8 2 n us [.int .i64 q,u] i hin (by omega) rfl;simp only[yU,zC1]at hR hset;have w2:IntKind.i64.wrap (q+1)=q+1:=wrO;have rr:=g.to;generalize hRR:rowsOf 2 n us=R at hR hset rr;have hRl:R.length=n:=by rw[← hRR,fA]
  have hRs:∀ r:List IV,fK (R.set i r) i=some r:=fun r=>by rw[fI,zD2 (by omega)]
  refine wp_seq (wp_mono (nV bH (nS b N) (G:=GS 31) (S':=MS 2 n (R.set i [.int q, .lit u]) q .junk (.int i) .junk) (e:=.normal) (by kernel_rfl) (by simp[MS,hin,hR,hRs,w2]) rr) ?_);rintro _ x1 y1 ⟨rfl,r1⟩;refine wp_seq (wp_mono (nV bH (nS b N) (G:=GS 31) (S':=MS 2 n (R.set i [.int q, .lit u]) (q+1) .junk (.int i) .junk) (e:=.normal) (by kernel_rfl) (by simp[MS,hin,hR,hRs,w2]) r1) ?_);rintro _ x2 y2 ⟨rfl,r2⟩;obtain⟨us8,g8,e8,f8⟩:=g.of (vs:=us.take (2*i)++[.int .i64 q,u]++us.drop (2*(i+1))) (q':=q+1) (i':=i) r2.1 rfl rfl rfl (by rw[← hset];rfl);rw[GU (W:=2) (us:=us) (V:=[.int .i64 q,u]) hin (by omega) rfl]at e8;have hR8:=jM 2 n us8 i hin
  have hrow8:(us8.drop (2*i)).take 2=[.int .i64 q,u]:=by
   have:(us8.drop (2*i)).take 2=((us8.take (2*n)).drop (2*i)).take 2:=by rw[xZ,zG,yO (by omega)]
   rw[this,e8,yV,zA1 (by simp;omega)];rfl
  rw[hrow8]at hR8;simp only[yU,zC1]at hR8
  refine wp_mono (CJ bH (s:=x.2.length) (K:=fun _ w2=>TCells w2 [.isl ((CY (q+1) x.2).map AR3)] [u] F) (u:=u) (Fu:=F) g8 (os1:=[_,_,_,_,_,_]) rfl (by kernel_rfl) (zO 1)
   (R1:=⟨upd (upd (upd (upd (upd (upd (aL (MS 2 n (rowsOf 2 n us8) (q+1) .junk (.int i) .junk).env) 19 (.osl 0 2 0 n)) 20 (.int i)) 21 (.ownE 0 2 i 0)) 22 (.ownE 0 2 i 1)) 23 (.i (.lit u))) 24 (.int (q+1)),aS (MS 2 n (rowsOf 2 n us8) (q+1) .junk (.int i) .junk).st,[]⟩)
   (by simp[MS,hin,hR8]) rfl rfl rfl rfl rfl rfl (by decide) (by decide) (by decide) (by decide) (by decide) Tryz.func30 (by decide) (by intro h;cases h) ?_ hbF) ?_
  ·intro w1 f1
   have hu1:TCells w1 [.isl (aF x.2)] [u] F:=hu.mono fun f hf=>by
    have hlt:=tlt hu f hf;rw[f1.same f (zJ hlt f8.size) (by simp;intro e;subst e;exact hbF hf),f8.same f hlt (by simp;intro e;subst e;exact hbF hf)]
   rw[nN]at hu1;refine(AEN x.2 w1 u F _ hu1 hnd (by omega) (by rw[oZ];push_cast at h1 ⊢;omega)).mono ?_;rintro en w2 ⟨p1,p2,p3,_⟩;rw[oZ]at p1;exact⟨p1,p2,p3⟩
  ·rintro e a' w' ⟨rfl,us',g',e',w1,f1,f2,hK⟩;have hq:q+1+(x.2.length:Nat)=q+(XD x:Nat):=by unfold XD;push_cast;omega
   rw[hq]at g';refine⟨rfl,us',_,g',by rw[e',e8],?_,(f8.sub (by simp)).trans ((f1.sub (by simp)).trans (f2.sub fun f hf=>by simp[hf]))⟩;simp only[rY,ALS,nN];exact .lit rfl hK
theorem ASG:uE C0 rY ALS XD 31:=by
 obtain⟨c0,c1,cc,body,c3,cend,L,hR⟩:=AIH;exact uE.of bH (by decide) L (fun _=>rfl) (by omega) (fun e=>by unfold XD;omega) hR
end Go.Proofs.YtjdfjgmebalaaaaGreat.P
namespace Go.Av
open Go.Av.Mk
theorem iN:∀ l:List Int,fH (aF l)=true
 | []=>rfl
 | n::l=>by simp only[aF,fH,iN l,zD3];rfl
mutual
theorem Pn.AXQ:∀ p:Pn,p.mz≤4*p.ms
 | .mk k t es cs ks=>by have:=Pn.AET ks;simp only[Pn.mz,Pn.ms];omega
theorem Pn.AET:∀ l:List Pn,Pn.mzL l≤4*Pn.msL l
 | []=>by simp[Pn.mzL]
 | p::l=>by have:=Pn.AXQ p;have:=Pn.AET l;simp only[Pn.mzL,Pn.msL];omega
end
def Pn.mk4 (p:Pn):Nat:=4*Ex.aM p.exprs+(p.cols.length+Pn.mzL p.kids)
theorem Pn.AMB (p:Pn):p.mk4≤4*p.meas:=by
 have:=Pn.AET p.kids;unfold Pn.mk4 Pn.meas;omega
end Go.Av
namespace Go.Av
def AZZ (R:Rng) (cs:List AV) (s:Stp):StL:=some (.loop R cs (.over .ret))::some (.box [.int s.1,if s.2=[]then .nils else .osl 3 1 0 s.2.length])::some (.box [.bool true])::(if s.2=[]then []else [some (.arr 1 (aF s.2))])
end Go.Av
namespace Go.Proofs.YtjdfjgmebalaaaaGreat.P
open Go Go.Av Go.Av.Mk
set_option maxRecDepth 4000
set_option maxHeartbeats 8000000
noncomputable def AOG:FuncId→Option (List AV→StL→Option (AV×StL))
 | 78=>none
 | 95=>none
 | 96=>none
 | 122=>some (qW (aI C0) 122)
 | g=>if g=lW then none else some (aI C0 g)
def AAS:FuncId→Bool
 | 78=>true
 | g=>keepR g
def AZ4:FuncId→Bool
 | 122=>true
 | g=>dB g
noncomputable def C7:Ctx:={ P:=Tryz.prog,G:=GS,ownArgs:=AZ4,keepRes:=AAS,eqT:=vV,prim:=AOG,tree:=true }
@[simp] theorem AnS:C7.P=Tryz.prog:=(rfl)
@[simp] theorem AnT (f):C7.G f=GS f:=(rfl)
@[simp] theorem AnP (f):C7.ownArgs f=AZ4 f:=(rfl)
@[simp] theorem AnQ (f):C7.keepRes f=AAS f:=(rfl)
@[simp] theorem AnR (f):C7.eqT f=vV f:=(rfl)
@[simp] theorem AnO:C7.tree=true:=(rfl)
@[simp] theorem k71:AAS 78=true:=(rfl)
@[simp] theorem k72:AAS 95=keepR 95:=(rfl)
@[simp] theorem k73:AAS 96=keepR 96:=(rfl)
@[simp] theorem k74:AAS lW=keepR lW:=(rfl)
theorem ATT:PrimOk C7:=by
 have h0:=aR bH
 have key:∀ g q,C7.prim g=some q→(g=122∧q=qW (aI C0) g)∨(g≠lW∧q=aI C0 g):=by
  intro g q h;have h:AOG g=some q:=h;unfold AOG at h;split at h
  all_goals first
   | (cases h;done)
   | (injection h with h;subst h;simp;done)
   | (split at h
      ·cases h
      ·rename_i hy;injection h with h;exact .inr ⟨hy,h.symm⟩)
 constructor
 ·intro g args st p h;unfold bE at h
  cases hq:C7.prim g with
  | none=>rw[hq]at h;cases h
  | some q =>
   rw[hq]at h
   rcases key g q hq with ⟨rfl,rfl⟩|⟨hy,rfl⟩
   ·exact(bT h0 (r:=p.1) (stl':=p.2) h).1
   ·exact h0.name g args st p hy h
 ·intro g args st r st' h w m φ vs hi hr hb;unfold bE at h
  cases hq:C7.prim g with
  | none=>rw[hq]at h;cases h
  | some q =>
   rw[hq]at h
   rcases key g q hq with ⟨rfl,rfl⟩|⟨hy,rfl⟩
   ·exact(bT h0 h).2 w m φ vs hi hr hb
   ·exact h0.calls g args st r st' hy h w m φ vs hi hr hb
theorem ASZ:SoundOk C7:=fQ (C:=C7) ft nt eqS mo ATT
structure YnT (R:Rng) (cs:List AV):Prop where
 ids:cs=[.own 1 0, .own 2 0, .junk, .junk, .junk]
 n0:∀ r:Int,AMD r=false→aI C7 lW [.fn (.yield 0) [.own 0 0], .agg [.int r, .nils]] (NS0 R cs)=some (.bool true,NS0 R cs)
 n1:∀ (r:Int) (path:List Int),path≠[]→AMD r=false→aI C7 lW [.fn (.yield 0) [.own 0 0], .agg [.int r, .osl 3 1 0 path.length]] (NS0 R cs++[some (.arr 1 (aF path))])=some (.bool true,NS0 R cs++[some (.arr 1 (aF path))])
 y0:∀ r:Int,AMD r=true→aI C7 lW [.fn (.yield 0) [.own 0 0], .agg [.int r, .nils]] (NS0 R cs)=some (.bool false,AZZ R cs (r,[]))
 y1:∀ (r:Int) (path:List Int),path≠[]→AMD r=true→aI C7 lW [.fn (.yield 0) [.own 0 0], .agg [.int r, .osl 3 1 0 path.length]] (NS0 R cs++[some (.arr 1 (aF path))])=some (.bool false,AZZ R cs (r,path))
end Go.Proofs.YtjdfjgmebalaaaaGreat.P
namespace Go.Av
def ACY (st:Store):AV→Option IV
 | .own id 0=>match st id with
  | some (.box cs)=>bnd (sO st cs) fun l=>some (.iref l)
  | _=>none
 | v=>oU st v
def IG (st:Store):List AV→Option (List AV)
 | []=>some []
 | c::r=>bnd (ACY st c) fun v=>bnd (IG st r) fun l=>some (.i v::l)
theorem QN {w:World} {m:Mem} {φ:Pl} {st:Store} {c:AV} {x:Value} {iv:IV} (hi:Inv w m φ st) (hr:Rep m φ c x) (h:ACY st c=some iv):IRep (bZ w) iv x:=by
 unfold ACY at h;split at h
 ·rename_i id;split at h
  ·rename_i cs hs;obtain⟨l,h1,h2⟩:=aG.1 h;injection h2 with h2;subst h2
   cases hr with
   | @own _ _ b n e =>
    obtain⟨hb,hok⟩:=bY hi e hs
    cases hok with
    | @box T _ vs hh hl hrc hm =>
     refine .iref (IAt.mk 0 (sN hi hrc h1) fun j v hj=>?_);show w.cell? ⟨b,0+j,none⟩=some v;rw[aX hh,zF];exact hj
  ·cases h
 ·exact vX hi hr h
theorem AU {w:World} {m:Mem} {φ:Pl} {st:Store} (hi:Inv w m φ st):∀ {cs us:List AV} {xs:List Value},RepL m φ cs xs→IG st cs=some us→RepL (bZ w) (fun _=>none) us xs
 | [],us,_, .nil,h=>by simp[IG]at h;subst h;exact .nil
 | c::cs,us,_, .cons a b,h=>by
  simp only[IG]at h;obtain⟨v,h1,h2⟩:=aG.1 h;obtain⟨l',h3,h4⟩:=aG.1 h2;injection h4 with h4;subst h4;exact .cons (.i (QN hi a h1)) (AU hi b h3)
def AJT (call:dD) (g:FuncId) (args:List AV) (st:StL):Option (AV×StL):=bnd (IG (aS st) args) fun us=>AAR call g us st
theorem JX {C:Ctx} {call:dD} (hcall:CallOk C call) {g:FuncId} {args:List AV} {stl stl':StL} {r:AV} (h:AJT call g args stl=some (r,stl')) (hy:g≠lW:=by decide) :
 (∃ fn,C.P.funcs[g]?=some fn∧fn.name≠ "runtime.NumGoroutine"∧fn.body.isSome=true)∧∀ (w:World) (m:Mem) (φ:Pl) (vs:List Value),Inv w m φ (aS stl)→RepL m φ args vs→(∀ id,φ id≠none→id<stl.length) →
  Calls C.P g vs.toArray w (bF w m φ r stl'):=by
 unfold AJT at h;obtain⟨us,h1,h2⟩:=aG.1 h;exact wL hcall (us:=us) (fun w m φ vs hi hr=>AU hi hr h1) h2 hy
end Go.Av
namespace Go.Proofs.YtjdfjgmebalaaaaGreat.P
open Go Go.Av
set_option maxRecDepth 4000
set_option maxHeartbeats 4000000
end Go.Proofs.YtjdfjgmebalaaaaGreat.P
namespace Go.Av
end Go.Av
namespace Go.Proofs.YtjdfjgmebalaaaaGreat.P
open Go Go.Av
set_option maxRecDepth 4000
set_option maxHeartbeats 4000000
structure SSt where
 q:Pn
 L:List Stp
 p:Int
 b:Bool
set_option maxHeartbeats 8000000
set_option maxHeartbeats 2000000
end Go.Proofs.YtjdfjgmebalaaaaGreat.P
namespace Go.Av
end Go.Av
namespace Go.Proofs.YtjdfjgmebalaaaaGreat.P
open Go Go.Av
set_option maxRecDepth 4000
set_option maxHeartbeats 2000000
end Go.Proofs.YtjdfjgmebalaaaaGreat.P
namespace Go.Av
end Go.Av
namespace Go.Proofs.YtjdfjgmebalaaaaGreat.P
open Go Go.Av
set_option maxRecDepth 4000
set_option maxHeartbeats 4000000
def jB (i k:Nat):AV:=if k=0 then jk i (.bool false)else .bool true
@[simp] theorem AkQ (i:Nat):jB i 0=jk i (.bool false):=(rfl)
@[simp] theorem AXT (i k:Nat):jB i (k+1)=.bool true:=(rfl)
end Go.Proofs.YtjdfjgmebalaaaaGreat.P
namespace Go.Av
end Go.Av
namespace Go.Proofs.YtjdfjgmebalaaaaGreat.P
open Go Go.Av Go.Av.Mk
set_option maxRecDepth 4000
set_option maxHeartbeats 8000000
noncomputable def AOF:FuncId→Option (List AV→StL→Option (AV×StL))
 | 42=>none
 | 59=>some (aI C4 59)
 | 26=>some (qW (aI C5) 26)
 | 78=>some (AJT (aI C7) 78)
 | g=>if g=lW then none else some (aI C0 g)
def AP4:FuncId→Bool
 | 42=>true
 | g=>keepR g
def AZ3:FuncId→Bool
 | 26=>true
 | 78=>true
 | g=>dB g
noncomputable def C8:Ctx:={ P:=Tryz.prog,G:=GS,ownArgs:=AZ3,keepRes:=AP4,eqT:=vV,prim:=AOF,tree:=true }
@[simp] theorem AnM:C8.P=Tryz.prog:=(rfl)
@[simp] theorem AnN (f):C8.G f=GS f:=(rfl)
@[simp] theorem AnJ (f):C8.ownArgs f=AZ3 f:=(rfl)
@[simp] theorem AnK (f):C8.keepRes f=AP4 f:=(rfl)
@[simp] theorem AnL (f):C8.eqT f=vV f:=(rfl)
@[simp] theorem AnI:C8.tree=true:=(rfl)
@[simp] theorem k81:AP4 42=true:=(rfl)
theorem ATS:PrimOk C8:=by
 have h0:=aR bH;have h4:=aR AM3;have h5:=aR ADQ;have h7:=aR ASZ
 have key:∀ g q,C8.prim g=some q→(g=59∧q=aI C4 g)∨(g=26∧q=qW (aI C5) g)∨(g=78∧q=AJT (aI C7) g)∨(g≠lW∧q=aI C0 g):=by
  intro g q h;have h:AOF g=some q:=h;unfold AOF at h;split at h
  all_goals first
   | (cases h;done)
   | (injection h with h;subst h;simp;done)
   | (split at h
      ·cases h
      ·rename_i hy;injection h with h;exact .inr (.inr (.inr ⟨hy,h.symm⟩)))
 constructor
 ·intro g args st p h;unfold bE at h
  cases hq:C8.prim g with
  | none=>rw[hq]at h;cases h
  | some q =>
   rw[hq]at h
   rcases key g q hq with ⟨rfl,rfl⟩|⟨rfl,rfl⟩|⟨rfl,rfl⟩|⟨hy,rfl⟩
   ·exact h4.name _ args st p (by decide) h
   ·exact(bT h5 (r:=p.1) (stl':=p.2) h).1
   ·exact(JX h7 (r:=p.1) (stl':=p.2) h).1
   ·exact h0.name g args st p hy h
 ·intro g args st r st' h w m φ vs hi hr hb;unfold bE at h
  cases hq:C8.prim g with
  | none=>rw[hq]at h;cases h
  | some q =>
   rw[hq]at h
   rcases key g q hq with ⟨rfl,rfl⟩|⟨rfl,rfl⟩|⟨rfl,rfl⟩|⟨hy,rfl⟩
   ·exact h4.calls _ args st r st' (by decide) h w m φ vs hi hr hb
   ·exact(bT h5 h).2 w m φ vs hi hr hb
   ·exact(JX h7 h).2 w m φ vs hi hr hb
   ·exact h0.calls g args st r st' hy h w m φ vs hi hr hb
theorem ANR:SoundOk C8:=fQ (C:=C8) ft nt eqS mo ATS
end Go.Proofs.YtjdfjgmebalaaaaGreat.P
namespace Go.Av
theorem AH3 {w:World} {a:Addr} {v:Value} (h:w.cell? (a.add 0)=some v):∃ b off,a=⟨b,off,none⟩:=by
 obtain⟨b,off,spot⟩:=a;simp only[Addr.add,if_true,World.cell?]at h
 cases spot with
 | none=>exact⟨b,off,rfl⟩
 | some s=>split at h<;>simp at h
theorem ASB {cs:List Value} (h:cs.length=5):∃ c0 c1 c2 c3 c4,cs=[c0,c1,c2,c3,c4]:=by
 match cs,h with
 | [c0,c1,c2,c3,c4],_=>exact⟨c0,c1,c2,c3,c4,rfl⟩
end Go.Av
namespace Go.Proofs.YtjdfjgmebalaaaaGreat.P
open Go Go.Av
set_option maxRecDepth 4000
variable {H:Type} {enc:TypeId×Value→H} {w:World} {sp:Nat→Bool}
theorem ce3:Tryz.prog.cellsOf 3=1:=by kernel_rfl
theorem ce4:Tryz.prog.cellsOf 4=1:=by kernel_rfl
theorem AZY:Tryz.prog.cellsOf 109=2:=by kernel_rfl
theorem AZX:Tryz.prog.cellsOf 22=1:=by kernel_rfl
theorem AYO:Tryz.prog.cellsOf 111=5:=by kernel_rfl
theorem AUJ {fuel:Nat} {cs:List Value} {r:DataW H×List MemPlace} (h:DataW.trod enc Tryz.prog w 0 sp true fuel 109 cs=some r):∃ v:Val,cs=[.bool v.null, .int .i64 v.n]:=by
 obtain⟨xs,n,rfl,_,hl,hx,hf⟩:=DataW.trod_struct Tryz.underlying109 h;rw[AZY]at hl;have h0:DataW.trod enc Tryz.prog w 0 sp true n 4 ((cs.drop 0).take (Tryz.prog.cellsOf 4))=xs[0]?:=hf 0 _ rfl;have h1:DataW.trod enc Tryz.prog w 0 sp true n 3 ((cs.drop 1).take (Tryz.prog.cellsOf 3))=xs[1]?:=hf 1 _ rfl;rw[ce4]at h0;rw[ce3]at h1;have hx:xs.length=2:=hx;rw[zX (by omega)]at h0 h1;obtain⟨b,hb,_⟩:=DataW.trod_bool Tryz.underlying4 h0;obtain⟨k,hk,_⟩:=DataW.trod_int Tryz.underlying3 h1
 match cs,hl with
 | [c0,c1],_ =>
  simp at hb hk;exact⟨⟨b,k⟩,by rw[hb,hk]⟩
theorem YA {b:Nat} {P:List Value→List IV→Prop} {k:Nat} (hk:∀ cs l,P cs l→l.length=k∧ICells (bZ w) l cs):∀ (n off:Nat),(∀ i,i<n→∃ cs l,P cs l∧∀ j v,cs[j]?=some v→w.cell? ⟨b,off+k*i+j,none⟩=some v) →
 ∃ es:List (List IV),es.length=n∧IElems (bZ w) b off k es∧∀ e∈es,∃ cs,P cs e
 | 0,off,_=>⟨[],rfl, .nil _ _ _,by simp⟩
 | n+1,off,h=>by
  obtain⟨cs,l,h1,h2⟩:=h 0 (by omega);obtain⟨k1,k2⟩:=hk cs l h1
  obtain⟨es,e1,e2,e3⟩:=YA hk n (off+k) (fun i hi=>by
   obtain⟨cs,l,h3,h4⟩:=h (i+1) (by omega)
   exact⟨cs,l,h3,fun j v hj=>by rw[← h4 j v hj];congr 2;rw[zB];omega⟩)
  refine⟨l::es,by simp[e1], .cons (IAt.mk off k2 fun j v hj=>?_) k1 e2,?_⟩
  ·have:=h2 j v hj;show w.cell? ⟨b,off+j,none⟩=some v;simpa using this
  ·intro e he
   rcases zS.1 he with rfl|he
   ·exact⟨cs,h1⟩
   ·exact e3 e he
theorem BU {fuel:Nat} {t e:TypeId} {c:Value} {r:DataW H×List MemPlace} {k:Nat} {P:List Value→List IV→Prop} (ht:Tryz.prog.underlying t=some (.slice e)) (hce:Tryz.prog.cellsOf e=k) (hk0:0<k) (hk:∀ cs l,P cs l→l.length=k∧ICells (bZ w) l cs)
 (ih:∀ n,n<fuel→∀ cs x,DataW.trod enc Tryz.prog w 0 sp true n e cs=some x→∃ l,P cs l) (h:DataW.trod enc Tryz.prog w 0 sp true fuel t [c]=some r) :
 ∃ es:List (List IV),IRep (bZ w) (.isl es) c∧es.length<9223372036854775808∧∀ x∈es,∃ cs,P cs x:=by
 rcases DataW.trod_slice ht h with ⟨h1,_⟩|⟨a,len,cap,elems,rest,n,rfl,h1,_,_,hlc,hcm,hel,hat,_,_⟩
 ·injection h1 with h1;subst h1;exact⟨[], .isl0 _ _ fun _=>rfl,by simp,by simp⟩
 ·injection h1 with h1;subst h1;by_cases h0:len=0
  ·subst h0;exact⟨[], .isl0 _ _ (by simp),by simp,by simp⟩
  ·rw[hce]at hat
   have get:∀ i,i<len→∃ cs l,P cs l∧cs.length=k∧∀ j,j<k→w.cell? ((a.add (i*k)).add j)=cs[j]?:=by
    intro i hi;have h2:=hat i hi;rw[zX (by omega)]at h2;obtain⟨cs,h3,h4⟩:=Option.bind_eq_some_iff.1 h2;obtain⟨_,h5,h6⟩:=World.cells?_some h3;obtain⟨l,h7⟩:=ih n (by omega) cs _ h4;exact⟨cs,l,h7,h5,h6⟩
   obtain⟨b,off,rfl⟩:∃ b off,a=⟨b,off,none⟩:=by
    obtain⟨cs,l,_,h5,h6⟩:=get 0 (by omega);have h7:=h6 0 hk0;rw[zX (by omega)]at h7;refine AH3 (v:=cs[0]'(by omega)) (w:=w) ?_;rw[← h7,Nat.zero_mul];congr 1
   obtain⟨es,e1,e2,e3⟩:=YA (b:=b) hk len off (fun i hi=>by
    obtain⟨cs,l,h4,h5,h6⟩:=get i hi;refine⟨cs,l,h4,fun j v hj=>?_⟩;have hjl:=(zZ.1 hj).1;have:=h6 j (by omega);rw[hj,Addr.dO,Addr.dO]at this
    rw[← this,yZ k i])
   refine⟨es,?_,by rw[e1];unfold maxLen at hcm;omega,e3⟩;have hne:es≠[]:=fun h=>by rw[h]at e1;simp at e1;omega
   have:=IRep.isl (m:=bZ w) (cap:=cap) hne e2 (by omega)
   rwa [e1]at this
theorem AUK:∀ (fuel:Nat) (cs:List Value) (r:DataW H×List MemPlace),DataW.trod enc Tryz.prog w 0 sp true fuel 111 cs=some r→∃ e:Ex,e.fat∧ICells (bZ w) e.cells cs:=by
 intro fuel
 induction fuel using Nat.strongRecOn with
 | _ fuel ih =>
  intro cs r h;obtain⟨xs,n,rfl,_,hl,hx,hf⟩:=DataW.trod_struct Tryz.underlying111 h;rw[AYO]at hl;have h0:DataW.trod enc Tryz.prog w 0 sp true n 3 ((cs.drop 0).take (Tryz.prog.cellsOf 3))=xs[0]?:=hf 0 _ rfl;have h1:DataW.trod enc Tryz.prog w 0 sp true n 3 ((cs.drop 1).take (Tryz.prog.cellsOf 3))=xs[1]?:=hf 1 _ rfl;have h2:DataW.trod enc Tryz.prog w 0 sp true n 109 ((cs.drop 2).take (Tryz.prog.cellsOf 109))=xs[2]?:=hf 2 _ rfl;have h3:DataW.trod enc Tryz.prog w 0 sp true n 22 ((cs.drop 4).take (Tryz.prog.cellsOf 22))=xs[3]?:=hf 3 _ rfl;rw[ce3]at h0 h1;rw[AZY]at h2;rw[AZX]at h3;have hx:xs.length=4:=hx;rw[zX (by omega)]at h0 h1 h2 h3;obtain⟨c0,c1,c2,c3,c4,rfl⟩:=ASB hl;obtain⟨k0,hk0,_⟩:=DataW.trod_int Tryz.underlying3 h0;obtain⟨k1,hk1,_⟩:=DataW.trod_int Tryz.underlying3 h1;obtain⟨v,hv⟩:=AUJ h2;simp at hk0 hk1 hv;obtain⟨rfl,rfl⟩:=hv;subst hk0;subst hk1;simp at h3
  obtain⟨es,e1,e2,e3⟩:=BU (P:=fun cs l=>∃ e:Ex,e.fat∧l=e.cells∧ICells (bZ w) l cs) Tryz.underlying22 AYO (by omega) (fun cs l ⟨e,_,h5,h6⟩=>⟨by rw[h5,Ex.aA];rfl,h6⟩)
   (fun m hm cs x hx=>by
    obtain⟨e,h5,h6⟩:=ih m (by omega) cs x hx
    exact⟨e.cells,e,h5,rfl,h6⟩) h3
  have hl:∃ l:List Ex,Ex.aB l=es∧∀ a∈l,a.fat:=by
   have key:∀ es:List (List IV),(∀ x∈es,∃ cs,∃ e:Ex,e.fat∧x=e.cells∧ICells (bZ w) x cs)→∃ l:List Ex,Ex.aB l=es∧∀ a∈l,a.fat:=by
    intro es
    induction es with
    | nil=>intro _;exact⟨[],rfl,by simp⟩
    | cons x es ihe =>
     intro h;obtain⟨_,e,h5,h6,_⟩:=h x (by simp);obtain⟨l,h7,h8⟩:=ihe fun y hy=>h y (by simp[hy])
     exact⟨e::l,by simp[Ex.aB,h6,h7],fun a ha=>by
      rcases zS.1 ha with rfl|ha
      ·exact h5
      ·exact h8 a ha⟩
   exact key es e3
  obtain⟨l,rfl,hfat⟩:=hl;refine⟨.mk k0 k1 v l,(Ex.rF _).2 ⟨by simpa [Ex.kids]using e2,hfat⟩,?_⟩;rw[show(Ex.mk k0 k1 v l).cells=[.int k0, .int k1, .bool v.null, .int v.n, .isl (Ex.aB l)]by simp[Ex.cells]];exact .cons (.lit _) rfl (.cons (.lit _) rfl (.cons (.lit _) rfl (.cons (.lit _) rfl (.cons e1 (qY e1) .nil))))
theorem ceI:Tryz.prog.cellsOf 3=1:=by kernel_rfl
theorem AhX:Tryz.prog.cellsOf 24=1:=by kernel_rfl
theorem AZW:Tryz.prog.cellsOf 23=1:=by kernel_rfl
theorem ceP:Tryz.prog.cellsOf 26=5:=by kernel_rfl
theorem VP {fuel:Nat} {c:Value} {r:DataW H×List MemPlace} (h:DataW.trod enc Tryz.prog w 0 sp true fuel 23 [c]=some r):∃ l:List Int,l.length<9223372036854775808∧IRep (bZ w) (.isl (aF l)) c:=by
 obtain⟨es,e1,e2,e3⟩:=BU (P:=fun cs l=>∃ n:Int,l=[.int n]∧cs=[.int .i64 n]) Tryz.underlying23 ceI (by omega) (fun cs l ⟨v,h5,h6⟩=>⟨by rw[h5];rfl,by rw[h5,h6];exact .cons (.lit _) rfl .nil⟩)
  (fun m hm cs x hx=>by
   obtain⟨k,hk,_⟩:=DataW.trod_int Tryz.underlying3 hx
   exact⟨[.int k],k,rfl,hk⟩) h
 have key:∀ es:List (List IV),(∀ x∈es,∃ cs:List Value,∃ n:Int,x=[.int n]∧cs=[.int .i64 n])→∃ l:List Int,aF l=es:=by
  intro es
  induction es with
  | nil=>intro _;exact⟨[],rfl⟩
  | cons x es ihe =>
   intro h;obtain⟨_,v,h5,_⟩:=h x (by simp);obtain⟨l,h7⟩:=ihe fun y hy=>h y (by simp[hy])
   exact⟨v::l,by simp[aF,h5,h7]⟩
 obtain⟨l,rfl⟩:=key es e3;exact⟨l,by simpa using e2,e1⟩
theorem APQ {fuel:Nat} {c:Value} {r:DataW H×List MemPlace} (h:DataW.trod enc Tryz.prog w 0 sp true fuel 22 [c]=some r):∃ l:List Ex,l.length<9223372036854775808∧(∀ a∈l,a.fat)∧IRep (bZ w) (.isl (Ex.aB l)) c:=by
 obtain⟨es,e1,e2,e3⟩:=BU (P:=fun cs l=>∃ e:Ex,e.fat∧l=e.cells∧ICells (bZ w) l cs) Tryz.underlying22 AYO (by omega) (fun cs l ⟨e,_,h5,h6⟩=>⟨by rw[h5,Ex.aA];rfl,h6⟩)
  (fun m hm cs x hx=>by
   obtain⟨e,h5,h6⟩:=AUK m cs x hx
   exact⟨e.cells,e,h5,rfl,h6⟩) h
 have key:∀ es:List (List IV),(∀ x∈es,∃ cs,∃ e:Ex,e.fat∧x=e.cells∧ICells (bZ w) x cs)→∃ l:List Ex,Ex.aB l=es∧∀ a∈l,a.fat:=by
  intro es
  induction es with
  | nil=>intro _;exact⟨[],rfl,by simp⟩
  | cons x es ihe =>
   intro h;obtain⟨_,e,h5,h6,_⟩:=h x (by simp);obtain⟨l,h7,h8⟩:=ihe fun y hy=>h y (by simp[hy])
   exact⟨e::l,by simp[Ex.aB,h6,h7],fun a ha=>by
    rcases zS.1 ha with rfl|ha
    ·exact h5
    ·exact h8 a ha⟩
 obtain⟨l,rfl,hfat⟩:=key es e3;exact⟨l,by simpa using e2,hfat,e1⟩
theorem APP:∀ (fuel:Nat) (cs:List Value) (r:DataW H×List MemPlace),DataW.trod enc Tryz.prog w 0 sp true fuel 26 cs=some r→∃ p:Pn,p.fat∧ICells (bZ w) p.cells cs:=by
 intro fuel
 induction fuel using Nat.strongRecOn with
 | _ fuel ih =>
  intro cs r h;obtain⟨xs,n,rfl,_,hl,hx,hf⟩:=DataW.trod_struct Tryz.underlying26 h;rw[ceP]at hl;have h0:DataW.trod enc Tryz.prog w 0 sp true n 3 ((cs.drop 0).take (Tryz.prog.cellsOf 3))=xs[0]?:=hf 0 _ rfl;have h1:DataW.trod enc Tryz.prog w 0 sp true n 3 ((cs.drop 1).take (Tryz.prog.cellsOf 3))=xs[1]?:=hf 1 _ rfl;have h2:DataW.trod enc Tryz.prog w 0 sp true n 22 ((cs.drop 2).take (Tryz.prog.cellsOf 22))=xs[2]?:=hf 2 _ rfl;have h3:DataW.trod enc Tryz.prog w 0 sp true n 23 ((cs.drop 3).take (Tryz.prog.cellsOf 23))=xs[3]?:=hf 3 _ rfl;have h4:DataW.trod enc Tryz.prog w 0 sp true n 24 ((cs.drop 4).take (Tryz.prog.cellsOf 24))=xs[4]?:=hf 4 _ rfl;rw[ceI]at h0 h1;rw[AZX]at h2;rw[AZW]at h3;rw[AhX]at h4;have hx:xs.length=5:=hx;rw[zX (by omega)]at h0 h1 h2 h3 h4;obtain⟨c0,c1,c2,c3,c4,rfl⟩:=ASB hl;obtain⟨k0,hk0,_⟩:=DataW.trod_int Tryz.underlying3 h0;obtain⟨k1,hk1,_⟩:=DataW.trod_int Tryz.underlying3 h1;simp at hk0 hk1;subst hk0;subst hk1;simp at h2 h3 h4;obtain⟨es,le,fe,re⟩:=APQ h2;obtain⟨is,li,ri⟩:=VP h3
  obtain⟨ps,e1,e2,e3⟩:=BU (P:=fun cs l=>∃ e:Pn,e.fat∧l=e.cells∧ICells (bZ w) l cs) Tryz.underlying24 ceP (by omega) (fun cs l ⟨e,_,h5,h6⟩=>⟨by rw[h5,Pn.aA];rfl,h6⟩)
   (fun m hm cs x hx=>by
    obtain⟨e,h5,h6⟩:=ih m (by omega) cs x hx
    exact⟨e.cells,e,h5,rfl,h6⟩) h4
  have key:∀ es:List (List IV),(∀ x∈es,∃ cs,∃ e:Pn,e.fat∧x=e.cells∧ICells (bZ w) x cs)→∃ l:List Pn,Pn.aB l=es∧∀ a∈l,a.fat:=by
   intro es
   induction es with
   | nil=>intro _;exact⟨[],rfl,by simp⟩
   | cons x es ihe =>
    intro h;obtain⟨_,e,h5,h6,_⟩:=h x (by simp);obtain⟨l,h7,h8⟩:=ihe fun y hy=>h y (by simp[hy])
    exact⟨e::l,by simp[Pn.aB,h6,h7],fun a ha=>by
     rcases zS.1 ha with rfl|ha
     ·exact h5
     ·exact h8 a ha⟩
  obtain⟨l,rfl,hfat⟩:=key ps e3;refine⟨.mk k0 k1 es is l,(Pn.rF _).2 ⟨le,fe,li,by simpa using e2,hfat⟩,?_⟩;rw[Pn.dU];exact .cons (.lit _) rfl (.cons (.lit _) rfl (.cons re (qY re) (.cons ri (qY ri) (.cons e1 (qY e1) .nil))))
end Go.Proofs.YtjdfjgmebalaaaaGreat.P
namespace Go.Av
def uG:List Stp→Nat
 | []=>0
 | s::l=>1+s.2.length+uG l
theorem uH:∀ (l:List Stp),l.length≤uG l
 | []=>by simp
 | s::l=>by have:=uH l;simp only[zP,uG];omega
theorem ADO:∀ {l:List Stp} {s:Stp},s∈l→s.2.length≤uG l
 | a::l,p,h=>by
  simp only[uG]
  rcases zS.1 h with rfl|h
  ·omega
  ·have:=ADO h;omega
theorem XE:∀ (l:List Stp) {i:Nat} {a:Stp},l[i]?=some a→uG (l.take (i+1))=uG (l.take i)+(1+a.2.length)
 | [],i,a,h=>by simp at h
 | b::l,0,a,h=>by simp at h;subst h;simp[uG]
 | b::l,i+1,a,h=>by have:=XE l (i:=i) (a:=a) (by simpa using h);simp only[yS,uG]at this ⊢;omega
theorem R3:∀ (n:Nat) (l:List Stp),uG l=uG (l.take n)+uG (l.drop n)
 | 0,l=>by simp[uG]
 | n+1,[]=>by simp[uG]
 | n+1,b::l=>by simp only[yS,zB1,uG];have:=R3 n l;omega
theorem UW:∀ (l:List Stp) (i:Nat),i≤l.length→i≤uG (l.take i)
 | [],i,h=>by simp at h;subst h;simp
 | a::l,0,_=>by simp
 | a::l,i+1,h=>by
  have:=UW l i (by simpa using h);simp only[yS,uG];omega
end Go.Av
namespace Go.Proofs.YtjdfjgmebalaaaaGreat.P
open Go Go.Av
set_option maxRecDepth 4000
set_option maxHeartbeats 1000000
theorem ADC (s:Stp) (hl:s.2.length<9223372036854775808) (left:Int) (h0:0≤left) (h1:left<1000000000):aI C0 33 [.i (.agg [.int s.1, .isl (aF s.2)]), .int left] []=some (.int (dC left s.2.length),[]):=by
 rw[aD rfl Tryz.func33 rfl rfl];have e:=X9 s.2 hl left h0 h1;by_cases hc:dC left s.2.length<0
 ·have:=(BQ hc 0).1;simp[e,hc,this]
 ·simp[e,hc]
def szT (l:List Stp) (left:Int) (i:Nat):Int:=left-l.length-(uG (l.take i)-i)
def SZT (l:List Stp) (left:Int) (i:Nat):AS :=
 { env:=[(0, .i (.isl (gH l))),(1, .int (szT l left i)),(4, .int 0),(5, .int i),(11, .bool false),(15,jk i (.bool true)),(25,jk i (.bool false))],st:=[] }
theorem ZU {l:List Stp} {left:Int} (h0:0≤left) (h1:left<1000000000) (hl:l.length<9223372036854775808) (hs:∀ s∈l,s.2.length<9223372036854775808) :
 aI C0 11 [.i (.isl (gH l)), .int left] []=some (.int (dC left (uG l)),[]):=by
 rw[aD rfl Tryz.func11 rfl rfl];have w1:IntKind.i64.wrap (left-l.length)=left-l.length:=wrO;have hsl:=uH l;have hlen:(gH l).length=l.length:=by simp[gH]
 by_cases hc:left-l.length<0
 ·have:¬ ((uG l:Nat):Int)≤left:=by omega
  simp[hlen,w1,hc,dC,this]
 simp[hlen,w1,hc]
 have hround:∀ i,i<l.length→0≤szT l left i→∃ a:Stp,fK (gH l) i=some [.int a.1, .isl (aF a.2)]∧aI C0 33 [.i (.agg [.int a.1, .isl (aF a.2)]), .int (szT l left i)] []=some (.int (if 0≤szT l left (i+1)then szT l left (i+1)else -1),[]):=by
  intro i hi hq;have h3:=zX hi;have hm:=zU h3;generalize l[i]=a at h3 hm;have hz:=XE l h3;have hn:=nG h3;simp only[rY]at hn;have hti:=UW l i (by omega);refine⟨a,hn,?_⟩;rw[ADC a (hs a hm) _ hq (by unfold szT;omega)];congr 2;unfold dC;congr 1;by_cases hle:((a.2.length:Nat):Int)≤szT l left i
  ·rw[if_pos hle,if_pos (by unfold szT at hle ⊢;omega)];unfold szT;omega
  ·rw[if_neg hle,if_neg (by unfold szT at hle ⊢;omega)]
 rcases BZ (fun i=>0≤szT l left (i+1)) l.length with hall|⟨j,hj,hlt,hbad⟩
 ·rw[aV (SZT l left) l.length (by simp[SZT,szT,uG])]
  ·rw[aH]
   have hfin:dC left (uG l)=szT l left l.length:=by
    have hT:l.take l.length=l:=zY (by simp)
    have hge:0≤szT l left l.length:=by
     cases hn:l.length with
     | zero=>unfold szT;rw[hn];simp[uG];omega
     | succ n=>exact hn ▸ hall n (by omega)
    unfold dC;unfold szT at hge ⊢;rw[hT]at hge ⊢;rw[if_pos (by omega)];omega
   rw[hfin];simp[SZT,hlen]
  ·intro i hi
   have hq:0≤szT l left i:=by
    cases i with
    | zero=>unfold szT;simp[uG];omega
    | succ i=>exact hall i (by omega)
   obtain⟨a,hn,hc⟩:=hround i hi hq;have hs1:=hall i hi;have hs1:0≤szT l left (i+1):=hs1;rw[if_pos hs1]at hc;have w2:IntKind.i64.wrap ((i:Int)+1)=i+1:=wrO;simp[SZT,hlen,hi,hn,hc,w2,show ¬ szT l left (i+1)<0 by omega]
 ·have hsl2:dC left (uG l)=-1:=by
   have hbad:¬ 0≤szT l left (j+1):=hbad;have e1:=R3 (j+1) l;have e2:=uH (l.drop (j+1));have e3:=UW l (j+1) (by omega);simp at e2;unfold dC;unfold szT at hbad;rw[if_neg (by omega)]
  rw[hsl2,aV (SZT l left) j (by simp[SZT,szT,uG])]
  ·rw[aH]
   have hq:0≤szT l left j:=by
    cases j with
    | zero=>unfold szT;simp[uG];omega
    | succ j=>exact hlt j (by omega)
   obtain⟨a,hn,hc⟩:=hround j hj hq;have hbad:¬ 0≤szT l left (j+1):=hbad;rw[if_neg hbad]at hc;simp[SZT,hlen,hj,hn,hc]
  ·intro i hi
   have hq:0≤szT l left i:=by
    cases i with
    | zero=>unfold szT;simp[uG];omega
    | succ i=>exact hlt i (by omega)
   obtain⟨a,hn,hc⟩:=hround i (by omega) hq;have hs1:0≤szT l left (i+1):=hlt i hi;rw[if_pos hs1]at hc;have w2:IntKind.i64.wrap ((i:Int)+1)=i+1:=wrO;simp[SZT,hlen,show i<l.length by omega,hn,hc,w2,show ¬ szT l left (i+1)<0 by omega]
def zsw:List IV:=[.int 0, .isl []]
theorem W9 (s:Stp) (hl:s.2.length<9223372036854775808):aI C0 36 [.i (.agg [.int s.1, .isl (aF s.2)]), .i (.agg [.int s.1, .isl (aF s.2)])] []=some (.bool true,[]):=by
 have h:=wR s.2 hl;rw[aD rfl Tryz.func36 rfl rfl];simp[h]
def ETS (l:List Stp) (i:Nat):AS :=
 { env:=[(0, .i (.isl (gH l))),(1, .i (.isl (gH l))),(4, .bool false),(5, .int i),(10, .bool false),(14,jk i (.bool true)),(26,jk i (.bool false))],st:=[] }
theorem TI (l:List Stp) (hl:l.length<9223372036854775808) (hs:∀ s∈l,s.2.length<9223372036854775808):aI C0 19 [.i (.isl (gH l)), .i (.isl (gH l))] []=some (.bool true,[]):=by
 rw[aD rfl Tryz.func19 rfl rfl];have hlen:(gH l).length=l.length:=by simp[gH]
 simp[hlen];rw[aV (ETS l) l.length (by simp[ETS])]
 ·rw[aH];simp[ETS,hlen]
 ·intro i hi;have h3:=zX hi;have hm:=zU h3;have r2:=nG h3;generalize l[i]=a at h3 r2 hm;have hc:=W9 a (hs a hm);have w2:IntKind.i64.wrap ((i:Int)+1)=i+1:=wrO;simp only[rY]at r2;simp[ETS,hlen,hi,r2,hc,w2]
end Go.Proofs.YtjdfjgmebalaaaaGreat.P
namespace Go.Proofs.YtjdfjgmebalaaaaGreat.P
open Go Go.Av Go.Av.Mk
set_option maxRecDepth 4000
set_option maxHeartbeats 1000000
theorem XV (l:List Int) (k:Int) {i:Nat} (h:i<l.length):(CY k l)[i]?=some (k+i):=by
 have h3:=zX h;have:=BO AR2 AM9 l k h3;rw[oZ,yG,yO (by omega)]at this;exact this
def HIX (l:List Int) (k:Int) (i:Nat):AS :=
 { env:=[(0, .i (.isl (aF (CY k l)))),(1, .int (k+i)),(4, .int 0),(5, .int i),(9,jk i (.bool true)),(17,jk i (.bool false))],st:=[] }
theorem YF (l:List Int) (k:Int) (h0:0≤k) (h1:k+(l.length:Nat)<1000000000000):aI C0 74 [.i (.isl (aF (CY k l))), .int k] []=some (.int (k+(l.length:Nat)),[]):=by
 rw[aD rfl Tryz.func74 rfl rfl];have hlen:=dV AR2 AM9 l k;simp;rw[aV (HIX l k) l.length (by simp[HIX])]
 ·rw[aH];simp[HIX,hlen]
 ·intro i hi;have r2:=bJ (XV l k hi);have w2:IntKind.i64.wrap ((i:Int)+1)=i+1:=wrO;have w3:IntKind.i64.wrap (k+i+1)=k+(i+1):=by rw[wrO];omega
  simp[HIX,hlen,hi,r2,w2,w3]
theorem AML (l:List Ex) (k:Int) (h0:0≤k) (h1:k+4*(Ex.aM l:Nat)<1000000000000):aI C0 75 [.i (.isl (Ex.aB (Ex.kW k l))), .int k] []=some (.int (k+4*(Ex.aM l:Nat)),[]):=by
 have:=AK1 (.mk 0 0 Val.zero l) k h0 (by simpa [Ex.kids]using h1);simpa [Ex.kids]using this
def HPX (l:List Pn) (k:Int) (i:Nat):AS :=
 { env:=[(0, .i (.isl (Pn.aB (fJ Pn.sG Pn.mz k l)))),(1, .int (k+(bX Pn.mz (l.take i):Nat))),(4, .int 0),(5, .int i),(9,jk i (.bool true)),(18,jk i (.bool false)),(27,jk i (.bool false)),(38,jk i (.bool false)),(47,jk i (.bool false)),(56,jk i (.bool false))],st:=[] }
theorem AK2 {l:List Pn} {k:Int} (h0:0≤k) (h1:k+(bX Pn.mz l:Nat)<1000000000000) (ih:∀ p∈l,∀ q:Int,0≤q→q+(Pn.mzL p.kids:Nat)<1000000000000→aI C0 76 [.i (.isl (Pn.aB (Pn.mH q p.kids))), .int q] []=some (.int (q+(Pn.mzL p.kids:Nat)),[])) :
 aI C0 76 [.i (.isl (Pn.aB (fJ Pn.sG Pn.mz k l))), .int k] []=some (.int (k+(bX Pn.mz l:Nat)),[]):=by
 rw[aD rfl Tryz.func76 rfl rfl];have hlen:=dV Pn.sG Pn.mz l k;have hle:=sV (sz:=Pn.mz) (fun e=>by have:=Pn.AES e;omega) l;simp;rw[aV (HPX l k) l.length (by simp[HPX,bX])]
 ·rw[aH];have hT:l.take l.length=l:=zY (by simp);simp[HPX,hlen,hT]
 ·intro i hi;have h3:=zX hi;have hm:=zU h3;generalize l[i]=a at h3 hm;have r2:=Pn.aQ (BO Pn.sG Pn.mz l k h3);have hz:=wC Pn.mz l h3;have hmono:=DN Pn.mz l (i+1);have hza:=Pn.AES a;have w2:IntKind.i64.wrap ((i:Int)+1)=i+1:=wrO;have hzz:k+((bX Pn.mz (l.take (i+1)):Nat):Int)=k+(bX Pn.mz (l.take i):Nat)+1+1+4*(Ex.aM a.exprs:Nat)+(a.cols.length:Nat)+(Pn.mzL a.kids:Nat):=by rw[hz,hza];push_cast;omega
  generalize hq:k+((bX Pn.mz (l.take i):Nat):Int)=q at r2 hzz;have hq0:0≤q:=by omega
  have hlim:q+1+1+4*(Ex.aM a.exprs:Nat)+(a.cols.length:Nat)+(Pn.mzL a.kids:Nat)<1000000000000:=by omega
  have w3:IntKind.i64.wrap (q+1)=q+1:=wrO;have w4:IntKind.i64.wrap (q+1+1)=q+1+1:=wrO;have c1:=AML a.exprs (q+1+1) (by omega) (by omega);have c2:=YF a.cols (q+1+1+4*(Ex.aM a.exprs:Nat)) (by omega) (by omega);have c3:=ih a hm (q+1+1+4*(Ex.aM a.exprs:Nat)+(a.cols.length:Nat)) (by omega) (by omega);have n1:¬ q+1+1+4*(Ex.aM a.exprs:Int)<0:=by omega
  have n2:¬ q+1+1+4*(Ex.aM a.exprs:Int)+(a.cols.length:Int)<0:=by omega
  have n3:¬ q+1+1+4*(Ex.aM a.exprs:Int)+(a.cols.length:Int)+(Pn.mzL a.kids:Int)<0:=by omega
  rw[Pn.JM]at r2;push_cast at r2 c1 c2 c3 hzz;simp[HPX,hlen,hi,r2,hq,hzz,c1,c2,c3,n1,n2,n3,w2,w3,w4]
theorem AAZ:∀ (p:Pn) (k:Int),0≤k→k+(Pn.mzL p.kids:Nat)<1000000000000→aI C0 76 [.i (.isl (Pn.aB (Pn.mH k p.kids))), .int k] []=some (.int (k+(Pn.mzL p.kids:Nat)),[]):=by
 intro p
 induction p using Pn.ind with
 | h k t es cs ks ih =>
  intro q h0 h1;simp only[Pn.kids]at h1 ⊢;rw[tJ,← uJ];rw[← uJ]at h1;exact AK2 h0 h1 ih
end Go.Proofs.YtjdfjgmebalaaaaGreat.P
namespace Go.Av
open Go.Av.Mk
def Pn.mkK (k:Int) (q:Pn):Pn:=.mk q.kind q.table (Ex.kW k q.exprs) (CY (k+4*(Ex.aM q.exprs:Nat)) q.cols) (Pn.mH (k+4*(Ex.aM q.exprs:Nat)+(q.cols.length:Nat)) q.kids)
theorem JN (l:List Ex) (k:Int):(Ex.kW k l).length=l.length:=by rw[BP];exact dV _ _ l k
theorem DY (l:List Pn) (k:Int):(Pn.mH k l).length=l.length:=by rw[tJ];exact dV _ _ l k
theorem OP (l:List Int) (k:Int):(CY k l).length=l.length:=dV _ _ l k
theorem Y2 {l:List Ex} (h:l≠[]) (k:Int):Ex.kW k l≠[]:=fun e=>by have:=JN l k;rw[e]at this;exact h (zW.1 (by simpa using this.symm))
theorem SB {l:List Pn} (h:l≠[]) (k:Int):Pn.mH k l≠[]:=fun e=>by have:=DY l k;rw[e]at this;exact h (zW.1 (by simpa using this.symm))
theorem AON {l:List Int} (h:l≠[]) (k:Int):CY k l≠[]:=fun e=>by have:=OP l k;rw[e]at this;exact h (zW.1 (by simpa using this.symm))
theorem ADW {q:Pn} {k:Int}:rqB (q.mkK k)=(if q.exprs=[]then []else [some (.tre 5 (Ex.aB (Ex.kW k q.exprs)))])++((if q.cols=[]then []else [some (.arr 1 (aF (CY (k+4*(Ex.aM q.exprs:Nat)) q.cols)))])++(if q.kids=[]then []else [some (.tre 5 (Pn.aB (Pn.mH (k+4*(Ex.aM q.exprs:Nat)+(q.cols.length:Nat)) q.kids)))])):=by
 unfold rqB Pn.mkK;simp only[Pn.bV,Pn.dZ,Pn.fV]
 by_cases q1:q.exprs=[]<;>by_cases q2:q.cols=[]<;>by_cases q3:q.kids=[] <;>
  simp[q1,q2,q3,Ex.kW,Pn.mH,fJ,Pn.dX,Pn.gU,Pn.bV,Pn.dZ,Pn.fV,Y2,SB,AON]
theorem ADH:∀ (a b:Stp),rY a=rY b→a=b:=by
 intro a b h;simp only[rY,List.cons.injEq,IV.lit.injEq,Value.int.injEq,IV.isl.injEq,true_and,and_true]at h;exact Prod.ext h.1 (BS h.2)
@[simp] theorem ZV (s:Stp):nT (rY s)=true:=(rfl)
theorem AEY (q:Pn):(q.mk4:Int)=4*(Ex.aM q.exprs:Nat)+((q.cols.length:Nat)+(Pn.mzL q.kids:Nat)):=by unfold Pn.mk4;push_cast;rfl
end Go.Av
namespace Go.Proofs.YtjdfjgmebalaaaaGreat.P
open Go Go.Av Go.Av.Mk
set_option maxRecDepth 4000
set_option maxHeartbeats 8000000
theorem VS {q:Pn} {k:Int} (h0:0≤k) (h1:k+(q.mk4:Nat)<1000000000000):aI C0 38 [.i (.agg (q.mkK k).cells), .int k] []=some (.int (k+(q.mk4:Nat)),[]):=by
 have hm:=AEY q;have c1:=AML q.exprs k h0 (by omega);have c2:=YF q.cols (k+4*(Ex.aM q.exprs:Nat)) (by omega) (by omega);have c3:=AAZ q (k+4*(Ex.aM q.exprs:Nat)+(q.cols.length:Nat)) (by omega) (by omega);have n1:¬ k+4*(Ex.aM q.exprs:Int)<0:=by omega
 have n2:¬ k+4*(Ex.aM q.exprs:Int)+(q.cols.length:Int)<0:=by omega
 have n3:¬ k+4*(Ex.aM q.exprs:Int)+(q.cols.length:Int)+(Pn.mzL q.kids:Int)<0:=by omega
 rw[aD rfl Tryz.func38 rfl rfl,Pn.aA];have hm2:k+(q.mk4:Int)=k+4*(Ex.aM q.exprs:Nat)+(q.cols.length:Nat)+(Pn.mzL q.kids:Nat):=by omega
 rw[hm2];simp[Pn.mkK,Pn.dX,Pn.gU,Pn.bV,Pn.dZ,Pn.fV,c1,c2,c3,n1,n2,n3]
attribute [local simp] qW AAR give sP oU sO GI mfA mfR AOR AOS mfC AHI mfB.eq_1 mfB.eq_2 mfB.eq_7 kF BM
noncomputable def AOC:FuncId→Option (List AV→StL→Option (AV×StL))
 | 6=>none
 | 7=>none
 | 8=>none
 | 29=>none
 | 30=>none
 | 37=>none
 | 73=>some (sF Pn.cells Pn.sG Pn.mz 5)
 | 72=>some (sF Ex.cells Ex.uY exZ 5)
 | 31=>some (sF rY ALS XD 2)
 | 13=>some (qW (aI CT) 13)
 | 14=>some (qW (aI CT) 14)
 | 35=>some (qW (aI CT) 35)
 | 15=>some (qW (aI CT) 15)
 | 26=>some (qW (aI C5) 26)
 | 40=>some (qW (aI C6) 40)
 | 42=>some (qW (aI C8) 42)
 | 34=>some (give (aI C0) 34)
 | 39=>some (give (aI CA) 39)
 | 41=>some (give (aI CA) 41)
 | g=>if g=lW then none else some (qW (aI C0) g)
noncomputable def CZ:Ctx:={ P:=Tryz.prog,G:=GS,ownArgs:=fun _=>true,keepRes:=fun _=>false,eqT:=vV,prim:=AOC,tree:=true }
@[simp] theorem AmM:CZ.P=Tryz.prog:=(rfl)
@[simp] theorem AmN (f):CZ.G f=GS f:=(rfl)
@[simp] theorem AmJ (f):CZ.ownArgs f=true:=(rfl)
@[simp] theorem AmK (f):CZ.keepRes f=false:=(rfl)
@[simp] theorem AmL (f):CZ.eqT f=vV f:=(rfl)
@[simp] theorem AmI:CZ.tree=true:=(rfl)
theorem ATO:PrimOk CZ:=by
 have h0:=aR bH;have hT:=aR ASX;have h5:=aR ADQ;have h6:=aR ANT;have h8:=aR ANR;have hA:=aR ANU
 have key:∀ g q,CZ.prim g=some q→(g=73∧q=sF Pn.cells Pn.sG Pn.mz 5)∨(g=72∧q=sF Ex.cells Ex.uY exZ 5)∨(g=31∧q=sF rY ALS XD 2)∨(g=13∧q=qW (aI CT) g)∨(g=14∧q=qW (aI CT) g)∨(g=35∧q=qW (aI CT) g)∨(g=15∧q=qW (aI CT) g)∨(g=26∧q=qW (aI C5) g)∨(g=40∧q=qW (aI C6) g)∨(g=42∧q=qW (aI C8) g)∨(g=34∧q=give (aI C0) g)∨(g=39∧q=give (aI CA) g)∨(g=41∧q=give (aI CA) g)∨(g≠lW∧q=qW (aI C0) g):=by
  intro g q h;have h:AOC g=some q:=h;unfold AOC at h;split at h
  all_goals first
   | (cases h;done)
   | (injection h with h;subst h;simp;done)
   | (split at h
      ·cases h
      ·rename_i hy;injection h with h;subst h;exact .inr (.inr (.inr (.inr (.inr (.inr (.inr (.inr (.inr (.inr (.inr (.inr (.inr ⟨hy,rfl⟩)))))))))))))
 constructor
 ·intro g args st p h;unfold bE at h
  cases hq:CZ.prim g with
  | none=>rw[hq]at h;cases h
  | some q =>
   rw[hq]at h
   rcases key g q hq with ⟨rfl,rfl⟩|⟨rfl,rfl⟩|⟨rfl,rfl⟩|⟨rfl,rfl⟩|⟨rfl,rfl⟩|⟨rfl,rfl⟩|⟨rfl,rfl⟩|⟨rfl,rfl⟩|⟨rfl,rfl⟩|⟨rfl,rfl⟩|⟨rfl,rfl⟩|⟨rfl,rfl⟩|⟨rfl,rfl⟩|⟨hy,rfl⟩
   ·exact⟨Tryz.f73,Tryz.func73,by decide,rfl⟩
   ·exact⟨Tryz.f72,Tryz.func72,by decide,rfl⟩
   ·exact⟨Tryz.f31,Tryz.func31,by decide,rfl⟩
   ·exact(bT hT (r:=p.1) (stl':=p.2) h).1
   ·exact(bT hT (r:=p.1) (stl':=p.2) h).1
   ·exact(bT hT (r:=p.1) (stl':=p.2) h).1
   ·exact(bT hT (r:=p.1) (stl':=p.2) h).1
   ·exact(bT h5 (r:=p.1) (stl':=p.2) h).1
   ·exact(bT h6 (r:=p.1) (stl':=p.2) h).1
   ·exact(bT h8 (r:=p.1) (stl':=p.2) h).1
   ·exact(mZ h0 (r:=p.1) (stl':=p.2) h).1
   ·exact(mZ hA (r:=p.1) (stl':=p.2) h).1
   ·exact(mZ hA (r:=p.1) (stl':=p.2) h).1
   ·exact(bT h0 (r:=p.1) (stl':=p.2) h hy).1
 ·intro g args st r st' h w m φ vs hi hr hb;unfold bE at h
  cases hq:CZ.prim g with
  | none=>rw[hq]at h;cases h
  | some q =>
   rw[hq]at h
   rcases key g q hq with ⟨rfl,rfl⟩|⟨rfl,rfl⟩|⟨rfl,rfl⟩|⟨rfl,rfl⟩|⟨rfl,rfl⟩|⟨rfl,rfl⟩|⟨rfl,rfl⟩|⟨rfl,rfl⟩|⟨rfl,rfl⟩|⟨rfl,rfl⟩|⟨rfl,rfl⟩|⟨rfl,rfl⟩|⟨rfl,rfl⟩|⟨hy,rfl⟩
   ·exact DX (C:=C0) ATV (fun e=>by rw[Pn.aA];rfl) Pn.EH h w m φ vs hi hr hb
   ·exact DX (C:=C0) AMM (fun e=>by rw[Ex.aA];rfl) Ex.EH h w m φ vs hi hr hb
   ·exact DX (C:=C0) ASG (fun _=>rfl) ZV h w m φ vs hi hr hb
   ·exact(bT hT h).2 w m φ vs hi hr hb
   ·exact(bT hT h).2 w m φ vs hi hr hb
   ·exact(bT hT h).2 w m φ vs hi hr hb
   ·exact(bT hT h).2 w m φ vs hi hr hb
   ·exact(bT h5 h).2 w m φ vs hi hr hb
   ·exact(bT h6 h).2 w m φ vs hi hr hb
   ·exact(bT h8 h).2 w m φ vs hi hr hb
   ·exact(mZ h0 h).2 w m φ vs hi hr hb
   ·exact(mZ hA h).2 w m φ vs hi hr hb
   ·exact(mZ hA h).2 w m φ vs hi hr hb
   ·exact(bT h0 h hy).2 w m φ vs hi hr hb
theorem ASW:SoundOk CZ:=fQ (C:=CZ) ft nt eqS mo ATO
theorem AHU {p:Pn} (hf:p.fat) {left:Int} (h0:0≤left) (h1:left<1000000000):aI CZ 10 [.i (.agg p.cells), .int left] []=some (.int (dC left p.meas),[]):=by
 rw[bA (C:=CZ) (p:=qW (aI C0) 10) rfl];have h:=ADE p hf left h0 h1;simp[h]
theorem AHS {p:Pn} (ht:p.thin):aI CZ 13 [.i (.agg p.cells)] []=some (tP p 0,tPB p):=by
 rw[bA (C:=CZ) (p:=qW (aI CT) 13) rfl];simp[AS1 p ht,tP,tPB,iN]
theorem AHT {l:List Int} (hl:l.length<1000000000):aI CZ 14 [.i (.isl (aF l))] []=some (.osl 0 1 0 l.length,[some (.arr 1 (aF l))]):=by
 rw[bA (C:=CZ) (p:=qW (aI CT) 14) rfl];simp[AD5 l hl,iN]
def tS (s:Stp) (j:Nat):AV:=.agg [.int s.1, .osl j 1 0 s.2.length]
theorem AN6 (s:Stp) (hl:s.2.length<1000000000):aI CT 35 [.i (.agg [.int s.1, .isl (aF s.2)])] []=some (tS s 0,[some (.arr 1 (aF s.2))]):=by
 rw[aD rfl Tryz.func35 rfl rfl];simp[AD5 s.2 hl,tS]
def tU (l:List Stp) (j:Nat):AV:=.osl j 2 0 l.length
def AWR (l:List Stp) (i:Nat):AS :=
 { env:=[(0, .i (.isl (gH l))),(2, .nils),(3, .osl 0 2 0 l.length),(4, .int i),(11,jk i (.bool true))],st:=[some (uZ rY 2 zsw l l.length i)] }
theorem DI (l:List Stp):gH l=l.map rY:=rfl
theorem AI9 {l:List Stp} (hl:l.length<1000000000) (hs:∀ s∈l,s.2.length<1000000000):aI CT 15 [.i (.isl (gH l))] []=some (.osl 0 2 0 l.length,[some (kQ rY 2 l)]):=by
 rw[aD rfl Tryz.func15 rfl rfl];have hlen:(gH l).length=l.length:=by simp[gH]
 have hb:32*(l.length:Int)≤281474976710656:=by omega
 simp[hlen,hb];rw[aV (AWR l) l.length (by simp[AWR,uZ,zsw])]
 ·rw[aH];simp[AWR,hlen,K9]
 ·intro i hi;have h3:=zX hi;have hc:=AN6 _ (hs _ (zU h3));have r2:=nG h3;have hput:=K8 (cells:=rY) (W:=2) (z:=zsw) (n:=l.length) h3 hi (by simp[zsw]) (by simp[rY,zsw]) (by simp[rY,sH,Y4]);generalize l[i]=a at h3 hc r2 hput;have w2:IntKind.i64.wrap ((i:Int)+1)=i+1:=wrO;have ha:=lU a.2;simp only[tS]at hc;simp only[rY]at r2 hput;simp[AWR,hlen,hi,r2,hc,w2,ha,hput]
theorem ACN {l:List Stp} (hl:l.length<1000000000) (hs:∀ s∈l,s.2.length<1000000000):aI CZ 15 [.i (.isl (gH l))] []=some (tU l 0,[some (kQ rY 2 l)]):=by
 rw[bA (C:=CZ) (p:=qW (aI CT) 15) rfl];have h:=AI9 hl hs;simp[h,tU]
theorem ACO {l:List Stp} (hl:l.length<9223372036854775808) (hs:∀ s∈l,s.2.length<9223372036854775808) {left:Int} (h0:0≤left) (h1:left<1000000000):aI CZ 11 [.i (.isl (gH l)), .int left] []=some (.int (dC left (uG l)),[]):=by
 rw[bA (C:=CZ) (p:=qW (aI C0) 11) rfl];have h:=ZU h0 h1 hl hs;simp[h]
theorem ACP {l:List Stp} (hl:l.length<9223372036854775808) (hs:∀ s∈l,s.2.length<9223372036854775808):aI CZ 19 [tU l 0,tU l 1] [some (kQ rY 2 l),some (kQ rY 2 l)]=some (.bool true,[some (kQ rY 2 l),some (kQ rY 2 l)]):=by
 have h:=TI l hl hs;rw[DI]at h;rw[bA (C:=CZ) (p:=qW (aI C0) 19) rfl];simp[tU,h]
theorem O0 {p:Pn} (hp:p.thin) {ws:List Int} (hl:ws.length<1000000000) {l:List Stp} (hs:∀ s∈l,s.2.length<1000000000):aI CZ 39 [tP p 0, .osl 3 1 0 ws.length,tU l 4] (tPB p++([some (.arr 1 (aF ws))]++[some (kQ rY 2 l)]))=some (.tup [.i (.agg (BV (sI p ws l)).cells), .bool (sI p ws l).isSome],[none,none,none,none,none]):=by
 have h:=LK p hp ws hl l hs;rw[DI]at h
 have hr:apR (sI p ws l)=(.tup [.i (.agg (BV (sI p ws l)).cells), .bool (sI p ws l).isSome],[]):=by
  cases sI p ws l<;>rfl
 rw[hr]at h;rw[bA (C:=CZ) (p:=give (aI CA) 39) rfl];rw[Pn.aA p]at h;simp only[Ex.bP p.exprs,Pn.bP p.kids]at h;have ha:=lU ws;have hb:=lU p.cols;generalize BV (sI p ws l)=q at h ⊢;generalize (sI p ws l).isSome=b at h ⊢;rw[Pn.aA q]at h ⊢;simp[tP,tPB,tU,h,ha,hb]
theorem Q9 {p:Pn} {ws:List Int} {l:List Stp}:aI CZ 40 [tP p 0, .osl 3 1 0 ws.length,tU l 4] (tPB p++([some (.arr 1 (aF ws))]++[some (kQ rY 2 l)]))=some (.tup [rqA (BV (sI p ws l)) 5, .bool (sI p ws l).isSome],tPB p++([some (.arr 1 (aF ws))]++([some (kQ rY 2 l)]++rqB (BV (sI p ws l))))):=by
 have h:=M0 p ws l;rw[DI]at h;simp only[ACJ]at h;rw[bA (C:=CZ) (p:=qW (aI C6) 40) rfl];rw[Pn.aA p]at h;simp only[Ex.bP p.exprs,Pn.bP p.kids]at h;have ha:=lU ws;have hb:=lU p.cols;have hg:(sI p ws l).getD Pn.zero=BV (sI p ws l):=rfl;rw[hg]at h;generalize BV (sI p ws l)=q at h ⊢;generalize (sI p ws l).isSome=b at h ⊢;have b4:=iN q.cols
 by_cases q1:q.exprs=[]<;>by_cases q2:q.cols=[]<;>by_cases q3:q.kids=[] <;>
  (simp only[rqA,rqB,q1,q2,q3,if_true,if_false,yL,yY,yR]at h ⊢
   simp[tP,tPB,tU,h,ha,hb,b4])
theorem ACQ {p:Pn} (hp:p.fat):aI CZ 17 [tP p 0,tP p 3] (tPB p++tPB p)=some (.bool true,tPB p++tPB p):=by
 have h:=KQ p hp;rw[bA (C:=CZ) (p:=qW (aI C0) 17) rfl];rw[Pn.aA,Ex.bP,Pn.bP]at h;have hb:=lU p.cols;simp[tP,tPB,h,hb]
theorem ACR {q:Pn} (hq:q.fat):aI CZ 17 [rqA q 0, .i (.agg q.cells)] (rqB q)=some (.bool true,rqB q):=by
 have h:=KQ q hq;rw[bA (C:=CZ) (p:=qW (aI C0) 17) rfl];rw[Pn.aA]at h ⊢;have b1:=ADB q.exprs;have b2:=ADA q.cols;have b3:=AD9 q.kids;have b4:=iN q.cols
 by_cases q1:q.exprs=[]<;>by_cases q2:q.cols=[]<;>by_cases q3:q.kids=[] <;>
  (simp only[rqA,rqB,q1,q2,q3,if_true,if_false,yL,yY,yR,Ex.aB,aF,Pn.aB]at h b1 b2 b3 b4 ⊢
   simp[h,b1,b2,b3,b4])
theorem AHV {l:List Int} (hl:l.length<9223372036854775808):aI CZ 18 [.osl 0 1 0 l.length, .osl 1 1 0 l.length] [some (.arr 1 (aF l)),some (.arr 1 (aF l))]=some (.bool true,[some (.arr 1 (aF l)),some (.arr 1 (aF l))]):=by
 have h:=wR l hl;rw[bA (C:=CZ) (p:=qW (aI C0) 18) rfl];have hb:=lU l;simp[h,hb]
def MIZ (l:List Int) (k:Int) (i:Nat):AS :=
 { env:=[(0, .osl 0 1 0 l.length),(1, .int (k+i)),(4, .int 0),(5, .int i),(9,jk i (.bool true))],st:=[some (.arr 1 (aF ((CY k l).take i++l.drop i)))] }
theorem D7 {l:List Int} {k:Int} (h0:0≤k) (h1:k+(l.length:Nat)<1000000000000):aI CZ 30 [.osl 0 1 0 l.length, .int k] [some (.arr 1 (aF l))]=some (.int (k+(l.length:Nat)),[some (.arr 1 (aF (CY k l)))]):=by
 rw[aD rfl Tryz.func30 rfl rfl];have hlen:(CY k l).length=l.length:=dV AR2 AM9 l k;simp;rw[aV (MIZ l k) l.length (by simp[MIZ])]
 ·rw[aH];have ht:(CY k l).take l.length=CY k l:=zY (by omega);simp[MIZ,ht]
 ·intro i hi;have hs:=aN (XV l k hi);have hd:=yF hi;generalize l[i]=a at hd;have hA:(aF ((CY k l).take i)).length=i:=by simp[hlen];omega
  have w2:IntKind.i64.wrap ((i:Int)+1)=i+1:=wrO;have w3:IntKind.i64.wrap (k+i+1)=k+(i+1):=by rw[wrO];omega
  have g1:fK (aF ((CY k l).take i)++[.int a]::aF (l.drop (i+1))) i=some [.int a]:=by
   have:=nL (aF ((CY k l).take i)) [IV.int a] (aF (l.drop (i+1)))
   rwa [hA]at this
  have g2:(aF ((CY k l).take i)++[.int a]::aF (l.drop (i+1))).set i [.int (k+i)]=aF ((CY k l).take i)++[.int (k+i)]::aF (l.drop (i+1)):=by
   rw[zA0 _ _ (by omega),hA,zD5,zB4]
  have e1:aF ((CY k l).take i++l.drop i)=aF ((CY k l).take i)++[.int a]::aF (l.drop (i+1)):=by
   rw[fP,hd];rfl
  have e2:aF ((CY k l).take (i+1)++l.drop (i+1))=aF ((CY k l).take i)++[.int (k+i)]::aF (l.drop (i+1)):=by
   rw[hs,fP,fP,yV];rfl
  simp only[MIZ,e1,e2];simp[hi,g1,g2,w2,w3]
theorem UL {k:Int}:aI CZ 30 [.nils, .int k] []=some (.int k,[]):=by
 rw[aD rfl Tryz.func30 rfl rfl];simp;rw[aH];simp
theorem UI {l:List Stp} {k:Int} (h0:0≤k) (h1:k+(bX XD l:Nat)<1000000000000):aI CZ 31 [tU l 0, .int k] [some (kQ rY 2 l)]=some (.int (k+(bX XD l:Nat)),[some (kQ rY 2 (fJ ALS XD k l))]):=by
 rw[bA (C:=CZ) (p:=sF rY ALS XD 2) rfl];exact OW (W:=2) (mk:=ALS) (sz:=XD) ADH (l:=l) (k:=k) h0 h1
theorem IW:∀ l:List Stp,bX XD l=uG l
 | []=>rfl
 | s::l=>by simp only[bX,uG,XD,IW l]
theorem Q8 {l:List Ex} {k:Int} (h0:0≤k) (h1:k+4*(Ex.aM l:Nat)<1000000000000):aI CZ 72 [.osl 0 5 0 l.length, .int k] [some (kQ Ex.cells 5 l)]=some (.int (k+4*(Ex.aM l:Nat)),[some (kQ Ex.cells 5 (Ex.kW k l))]):=by
 rw[bA (C:=CZ) (p:=sF Ex.cells Ex.uY exZ 5) rfl];have:=OW (W:=5) (mk:=Ex.uY) (sz:=exZ) Ex.EI (l:=l) (k:=k) h0 (by rw[uK];push_cast;omega);rw[uK,← BP]at this;push_cast at this;exact this
theorem ZI {k:Int} (h0:0≤k) (h1:k<1000000000000):aI CZ 72 [.nils, .int k] []=some (.int k,[]):=by
 rw[bA (C:=CZ) (p:=sF Ex.cells Ex.uY exZ 5) rfl];simp[sF,h0,h1]
theorem Q7 {l:List Pn} {k:Int} (h0:0≤k) (h1:k+(Pn.mzL l:Nat)<1000000000000):aI CZ 73 [.osl 0 5 0 l.length, .int k] [some (kQ Pn.cells 5 l)]=some (.int (k+(Pn.mzL l:Nat)),[some (kQ Pn.cells 5 (Pn.mH k l))]):=by
 rw[bA (C:=CZ) (p:=sF Pn.cells Pn.sG Pn.mz 5) rfl];have:=OW (W:=5) (mk:=Pn.sG) (sz:=Pn.mz) Pn.KW (l:=l) (k:=k) h0 (by rw[uJ];omega);rw[uJ,← tJ]at this;exact this
theorem ZH {k:Int} (h0:0≤k) (h1:k<1000000000000):aI CZ 73 [.nils, .int k] []=some (.int k,[]):=by
 rw[bA (C:=CZ) (p:=sF Pn.cells Pn.sG Pn.mz 5) rfl];simp[sF,h0,h1]
theorem UJ {p:Pn} {k:Int} (h0:0≤k) (h1:k+(p.mk4:Nat)<1000000000000):aI CZ 29 [tP p 0, .int k] (tPB p)=some (.int (k+(p.mk4:Nat)),tPB (p.mkK k)):=by
 have hm:=AEY p;have c1:=Q8 (l:=p.exprs) h0 (by omega);have c2:=D7 (l:=p.cols) (k:=k+4*(Ex.aM p.exprs:Nat)) (by omega) (by omega);have c3:=Q7 (l:=p.kids) (k:=k+4*(Ex.aM p.exprs:Nat)+(p.cols.length:Nat)) (by omega) (by omega);rw[aD rfl Tryz.func29 rfl rfl];have hm2:k+(p.mk4:Int)=k+4*(Ex.aM p.exprs:Nat)+(p.cols.length:Nat)+(Pn.mzL p.kids:Nat):=by omega
 rw[hm2];simp[tP,tPB,Pn.mkK,Pn.dX,Pn.gU,Pn.bV,Pn.dZ,Pn.fV,c1,c2,c3]
theorem UK {q:Pn} {k:Int} (h0:0≤k) (h1:k+(q.mk4:Nat)<1000000000000):aI CZ 29 [rqA q 0, .int k] (rqB q)=some (.int (k+(q.mk4:Nat)),rqB (q.mkK k)):=by
 have hm:=AEY q;have hm2:k+(q.mk4:Int)=k+4*(Ex.aM q.exprs:Nat)+(q.cols.length:Nat)+(Pn.mzL q.kids:Nat):=by omega
 rw[aD rfl Tryz.func29 rfl rfl,ADW,hm2];by_cases q1:q.exprs=[]<;>by_cases q2:q.cols=[]<;>by_cases q3:q.kids=[]
 all_goals
  have c1:=Q8 (l:=q.exprs) h0 (by omega);have c2:=D7 (l:=q.cols) (k:=k+4*(Ex.aM q.exprs:Nat)) (by omega) (by omega);have c3:=Q7 (l:=q.kids) (k:=k+4*(Ex.aM q.exprs:Nat)+(q.cols.length:Nat)) (by omega) (by omega);have d1:=ZI h0 (by omega);have d2:=UL (k:=k+4*(Ex.aM q.exprs:Nat));have d3:=ZH (k:=k+4*(Ex.aM q.exprs:Nat)+(q.cols.length:Nat)) (by omega) (by omega)
  try rw[nX q1,nX (Y2 q1 k),← Ex.bP,← Ex.bP]at c1
  try rw[nX q3,nX (SB q3 _),← Pn.bP,← Pn.bP]at c3
  simp only[rqA,rqB,q1,q2,q3,if_true,if_false,yL,yY,yR,Ex.aM,Pn.mzL,yN]at c1 c2 c3 d1 d2 d3 ⊢
  try simp at c1 c2 c3 d1 d2 d3
  simp[c1,c2,c3,d1,d2,d3]
theorem UM {q:Pn} {k:Int} (h0:0≤k) (h1:k+(q.mk4:Nat)<1000000000000):aI CZ 38 [rqA q 0, .int k] (rqB (q.mkK k))=some (.int (k+(q.mk4:Nat)),rqB (q.mkK k)):=by
 have h:=VS h0 h1;rw[bA (C:=CZ) (p:=qW (aI C0) 38) rfl];rw[Pn.aA]at h;simp only[Pn.mkK,Pn.dX,Pn.gU,Pn.bV,Pn.dZ,Pn.fV]at h;rw[ADW];have b1:=ADB (Ex.kW k q.exprs);have b2:=ADA (CY (k+4*(Ex.aM q.exprs:Nat)) q.cols);have b3:=AD9 (Pn.mH (k+4*(Ex.aM q.exprs:Nat)+(q.cols.length:Nat)) q.kids);have b4:=iN (CY (k+4*(Ex.aM q.exprs:Nat)) q.cols);rw[JN]at b1;rw[OP]at b2;rw[DY]at b3
 by_cases q1:q.exprs=[]<;>by_cases q2:q.cols=[]<;>by_cases q3:q.kids=[] <;>
  (simp only[rqA,q1,q2,q3,if_true,if_false,yL,yY,yR,Ex.aB,aF,Pn.aB,Ex.kW,Pn.mH,fJ]at h b1 b2 b3 b4 ⊢
   try simp at h
   simp[h,b1,b2,b3,b4,JN,DY,OP])
end Go.Proofs.YtjdfjgmebalaaaaGreat.P
namespace Go.Proofs.YtjdfjgmebalaaaaGreat.P
open Go Go.Av
set_option maxRecDepth 4000
set_option maxHeartbeats 1000000
noncomputable def AXA:FuncId→Option (List AV→StL→Option (AV×StL))
 | 3=>none
 | 10=>some (aI C0 10)
 | 11=>some (aI C0 11)
 | 13=>some (aI C0 13)
 | 14=>some (aI C0 14)
 | 15=>some (aI C0 15)
 | 17=>some (aI C0 17)
 | 18=>some (aI C0 18)
 | 19=>some (aI C0 19)
 | 16=>some (aI CA 16)
 | 12=>some (aI CA 12)
 | g=>AAH g
noncomputable def CXk:Ctx:={ P:=Tryz.prog,G:=GS,ownArgs:=AR0,keepRes:=AP3,eqT:=vV,prim:=AXA }
@[simp] theorem Ai8:CXk.P=Tryz.prog:=(rfl)
@[simp] theorem Ai9 (f):CXk.G f=GS f:=(rfl)
@[simp] theorem Ai5 (f):CXk.ownArgs f=AR0 f:=(rfl)
@[simp] theorem Ai6 (f):CXk.keepRes f=(keepR f || decide (f=159)):=(rfl)
@[simp] theorem Ai7 (f):CXk.eqT f=vV f:=(rfl)
@[simp] theorem Ai4:CXk.tree=false:=(rfl)
section
variable {H:Type} {enc:TypeId×Value→H} {w:World} {sp:Nat→Bool}
theorem ceT:Tryz.prog.cellsOf 62=2:=by kernel_rfl
theorem APO {fuel:Nat} {cs:List Value} {r:DataW H×List MemPlace} (h:DataW.trod enc Tryz.prog w 0 sp true fuel 62 cs=some r):∃ s:Stp,s.2.length<9223372036854775808∧ICells (bZ w) [.int s.1, .isl (aF s.2)] cs:=by
 obtain⟨xs,n,rfl,_,hl,hx,hf⟩:=DataW.trod_struct Tryz.underlying62 h;rw[ceT]at hl;have h0:DataW.trod enc Tryz.prog w 0 sp true n 3 ((cs.drop 0).take (Tryz.prog.cellsOf 3))=xs[0]?:=hf 0 _ rfl;have h1:DataW.trod enc Tryz.prog w 0 sp true n 23 ((cs.drop 1).take (Tryz.prog.cellsOf 23))=xs[1]?:=hf 1 _ rfl;rw[ceI]at h0;rw[AZW]at h1;have hx:xs.length=2:=hx;rw[zX (by omega)]at h0 h1;obtain⟨k0,hk0,_⟩:=DataW.trod_int Tryz.underlying3 h0
 match cs,hl with
 | [c0,c1],_ =>
  simp at hk0 h1;subst hk0;obtain⟨is,li,ri⟩:=VP h1;exact⟨(k0,is),li, .cons (.lit _) rfl (.cons ri (qY ri) .nil)⟩
theorem AJZ {fuel:Nat} {c:Value} {r:DataW H×List MemPlace} (h:DataW.trod enc Tryz.prog w 0 sp true fuel 27 [c]=some r):∃ l:List Stp,l.length<9223372036854775808∧(∀ s∈l,s.2.length<9223372036854775808)∧IRep (bZ w) (.isl (gH l)) c:=by
 obtain⟨es,e1,e2,e3⟩:=BU (P:=fun cs l=>∃ s:Stp,s.2.length<9223372036854775808∧l=[.int s.1, .isl (aF s.2)]∧ICells (bZ w) l cs) Tryz.underlying27 ceT (by omega) (fun cs l ⟨e,_,h5,h6⟩=>⟨by rw[h5];rfl,h6⟩)
  (fun m hm cs x hx=>by
   obtain⟨e,h5,h6⟩:=APO hx
   exact⟨_,e,h5,rfl,h6⟩) h
 have key:∀ es:List (List IV),(∀ x∈es,∃ cs,∃ s:Stp,s.2.length<9223372036854775808∧x=[.int s.1, .isl (aF s.2)]∧ICells (bZ w) x cs)→∃ l:List Stp,gH l=es∧∀ a∈l,a.2.length<9223372036854775808:=by
  intro es
  induction es with
  | nil=>intro _;exact⟨[],rfl,by simp⟩
  | cons x es ihe =>
   intro h;obtain⟨_,e,h5,h6,_⟩:=h x (by simp);obtain⟨l,h7,h8⟩:=ihe fun y hy=>h y (by simp[hy])
   exact⟨e::l,by rw[h6,← h7];simp[gH,rY],fun a ha=>by
    rcases zS.1 ha with rfl|ha
    ·exact h5
    ·exact h8 a ha⟩
 obtain⟨l,rfl,hfat⟩:=key es e3;exact⟨l,by simpa [gH]using e2,hfat,e1⟩
end
end Go.Proofs.YtjdfjgmebalaaaaGreat.P
namespace Go.Av
theorem Ex.IK:∀ (e:Ex),e.thin→e.fat:=by
 intro e
 induction e using Ex.ind with
 | h k c v ks ih =>
  intro h;have h':=(Ex.bO _).1 h;exact(Ex.rF _).2 ⟨by have:=h'.1;omega,fun a ha=>ih a ha (h'.2 a ha)⟩
theorem Pn.IK:∀ (p:Pn),p.thin→p.fat:=by
 intro p
 induction p using Pn.ind with
 | h k t es cs ks ih =>
  intro h;obtain⟨h1,h2,h3,h4,h5⟩:=(Pn.bO _).1 h;exact(Pn.rF _).2 ⟨by omega,fun e he=>Ex.IK e (h2 e he),by omega,by omega,fun a ha=>ih a ha (h5 a ha)⟩
theorem R8:∀ {l:List Ex},(∀ e∈l,e.size<1000)→Ex.aM l≤1000*l.length
 | [],_=>by simp[Ex.aM]
 | a::l,h=>by
  have h1:=h a (by simp);have h2:=R8 (l:=l) fun e he=>h e (by simp[he])
  simp only[Ex.aM,zP];omega
theorem ARV {ws:List Int}:∀ (p:Pn) (lv:Nat),p.wd ws lv≠0→p.ms≤7000*p.size:=by
 intro p
 induction p using Pn.ind with
 | h k t es cs ks ih =>
  intro lv h;have hsh:=qD h;generalize hp:Pn.mk k t es cs ks=p at hsh h;have hk:ks=p.kids:=by rw[← hp];rfl
  subst hk;have hkid:∀ a∈p.kids,∀ m,a.wd ws m≠0→a.ms≤7000*a.size:=fun a ha m h=>ih a ha m h
  cases hsh with
  | scan t W h0 h1 hW=>simp[Pn.scan,Pn.ms,Pn.size,Ex.aM,Pn.msL,Pn.aM]
  | filt m e a h1 ha he =>
   have:=hkid a (by simp[filt]) m ha;have:=Ex.fU he;simp only[filt,Pn.ms,Pn.size,Ex.aM,Pn.msL,Pn.aM,yN];omega
  | proj m es a h1 ha hl he =>
   have:=hkid a (by simp[proj]) m ha;have h2:=R8 (l:=es) fun e h=>Ex.fU (he e h)
   have h3:es.length≤6:=by simp[bN]at hl;omega
   simp only[proj,Pn.ms,Pn.size,Pn.msL,Pn.aM,yN];omega
  | pair m k e a b h1 hk ha hb hl he =>
   have:=hkid a (by simp[bB]) m ha;have:=hkid b (by simp[bB]) m hb;have:=Ex.fU he;simp only[bB,Pn.ms,Pn.size,Ex.aM,Pn.msL,Pn.aM,yN];omega
  | union m a b h1 ha hb =>
   have:=hkid a (by simp[dA]) m ha;have:=hkid b (by simp[dA]) m (by rw[hb];exact ha);simp only[dA,Pn.ms,Pn.size,Ex.aM,Pn.msL,Pn.aM,yN];omega
  | dist m a h1 ha =>
   have:=hkid a (by simp) m ha;simp only[Pn.ms,Pn.size,Ex.aM,Pn.msL,Pn.aM,yN];omega
  | group m cs a h1 ha hc ho =>
   have:=hkid a (by simp) m ha;simp only[Pn.ms,Pn.size,Ex.aM,Pn.msL,Pn.aM];omega
theorem AHY {ws:List Int} {p:Pn} (h:p.wd ws 8≠0):p.meas<100000000:=by
 have h1:=ARV p 8 h;have h2:=(Pn.vM p 8 h).2;rw[Pn.AJE]at h1;omega
end Go.Av
namespace Go.Proofs.YtjdfjgmebalaaaaGreat.P
open Go Go.Av Go.Av.Mk
set_option maxRecDepth 8000
set_option maxHeartbeats 16000000
theorem ABY {p q:Pn} {ws:List Int} {l:List Stp} (h:sI p ws l=some q):q.thin∧p.width ws≠0∧q.width ws=p.width ws:=by
 unfold sI at h;split at h
 ·cases h
 ·rename_i hc;have h0:p.width ws≠0:=fun e=>hc (.inl e)
  have:=CO _ _ _ h;exact⟨dH q 8 (this.2.2 h0),h0,this.1⟩
theorem wM {p:Pn} {ws:List Int} {l:List Stp} (hp:p.fat) (hl:ws.length<9223372036854775808) (hn:l.length<9223372036854775808) (hs:∀ s∈l,s.2.length<9223372036854775808):aI CZ 7 [.i (.agg p.cells), .i (.isl (aF ws)), .i (.isl (gH l))] []=some (.bool true,[]):=by
 rw[aD rfl Tryz.func7 rfl rfl];by_cases hw:(1048576:Int)<ws.length
 ·rw[Pn.aA p];simp[hw]
 have s1:=AHU hp (left:=1048576) (by omega) (by omega);by_cases c1:dC 1048576 p.meas<0
 ·rw[Pn.aA p]at *
  simp[hw,s1,c1]
 have l1:=OY (left:=1048576) (a:=p.meas) (by omega);have s2:=ACO hn hs (left:=dC 1048576 p.meas) (by omega) (by omega);by_cases c2:dC (dC 1048576 p.meas) (uG l)<0
 ·rw[Pn.aA p]at *
  simp[hw,s1,c1,s2,c2]
 have m1:p.meas≤1048576:=by
  unfold dC at c1;split at c1<;>omega
 have m2:uG l≤1048576:=by
  rw[dC]at c2;split at c2<;>omega
 have sl:∀ s∈l,s.2.length<1000000000:=fun s h=>by have:=ADO h;omega
 have ll:=uH l;have tp:=Pn.ZR p (by omega);have e1:=AHS tp;have e2:=AHT (l:=ws) (by omega);have e2':=ACN (l:=l) (by omega) sl;have e3:=O0 tp (ws:=ws) (by omega) sl;have e4:=Q9 (p:=p) (ws:=ws) (l:=l);have e5:=ACQ hp;have e6:=AHV (l:=ws) (by omega);have e6':=ACP hn hs;have mk:=Pn.AMB p;have e7:=UJ (p:=p) (k:=1) (by omega) (by omega);have e8:=D7 (l:=ws) (k:=1+(p.mk4:Nat)) (by omega) (by omega);have e8':=UI (l:=l) (k:=1+(p.mk4:Nat)+(ws.length:Nat)) (by omega) (by rw[IW];omega);rw[IW]at e8';have n1:¬ 1+(p.mk4:Int)+(ws.length:Int)+((uG l:Nat):Int)<0:=by omega
 have tq:(BV (sI p ws l)).thin∧(BV (sI p ws l)).meas<100000000:=by
  cases ho:sI p ws l with
  | none=>exact⟨Pn.I4,by simp[BV,Pn.zero,Pn.meas,Ex.aM,Pn.msL]⟩
  | some q =>
   obtain⟨g1,g2,g3⟩:=ABY ho;have hw':q.width ws≠0:=by rw[g3];exact g2
   exact⟨g1,AHY (mW hw').2.1⟩
 obtain⟨tq,mq⟩:=tq;generalize BV (sI p ws l)=q at *
 generalize (sI p ws l).isSome=N at *
 have mkq:=Pn.AMB q;have e9:=ACR (Pn.IK q tq);have e10:=UK (q:=q) (k:=1) (by omega) (by omega);have e11:=UM (q:=q) (k:=1) (by omega) (by omega);have n2:¬ 1+(q.mk4:Int)<0:=by omega
 rw[ADW]at e10 e11;rw[Pn.aA p]at *
 rw[Pn.aA q]at *
 simp[tP,tPB]at e1 e3 e4 e5 e7;simp[tU]at e2' e3 e4 e6' e8'
 by_cases q1:q.exprs=[]<;>by_cases q2:q.cols=[]<;>by_cases q3:q.kids=[] <;>
  (simp only[rqA,rqB,q1,q2,q3,if_true,if_false,yL,yY,yR]at e3 e4 e9 e10 e11
   try simp at e4 e9 e10 e11
   simp[hw,s1,c1,s2,c2,e1,e2,e2',e3,e4,e5,e6,e6',e7,e8,e8',e9,e10,e11,n1,n2])
theorem oM {w:World} {p:Pn} {v:Value} {ws:List Int} {l:List Stp} {c d:Value} (hp:p.fat) (rp:IRep (bZ w) (.agg p.cells) v) (hl:ws.length<9223372036854775808) (hw:IRep (bZ w) (.isl (aF ws)) c) (hn:l.length<9223372036854775808) (hs:∀ s∈l,s.2.length<9223372036854775808) (hd:IRep (bZ w) (.isl (gH l)) d) :
 Calls Tryz.prog 7 #[v,c,d] w fun e w'=>e=.returned (.bool true)∧RowKit.Below w.heap.size w w' :=
 ABL ASW (.cons (.i rp) (.cons (.i hw) (.cons (.i hd) .nil))) (wM hp hl hn hs)
end Go.Proofs.YtjdfjgmebalaaaaGreat.P

/- Part 5 of what the proof rests on: the executor and what it is worth, and the program's functions as it runs them. No condition. -/
import Derived.Test.YtiailccmofdhfaaGreatT4
import Derived.Shelf.SlSortCmp.NoneTotal
import Derived.Shelf.Spec.SlicesGrow
import Derived.Ground.SlsfProg
set_option linter.unusedVariables false
set_option linter.unusedSimpArgs false
namespace Go.Proofs.YtiailccmofdhfaaGreat
open Go Go.Av
set_option maxRecDepth 4000
set_option maxHeartbeats 8000000
theorem mid64 {i j:Nat} (h:i+j<4000000):IntKind.i64.wrap ((IntKind.u64.wrap (IntKind.i64.wrap ((i:Int)+j))).fdiv (2 ^ min 1 IntKind.u64.bits))=(((i+j) / 2:Nat):Int):=by
 have h1:IntKind.u64.wrap ((i:Int)+j)=((i+j:Nat):Int):=by
  simp only[IntKind.wrap,IntKind.bits,IntKind.signed]
  simp
  omega
 have h2:(2:Int) ^ min 1 IntKind.u64.bits=2:=by decide
 have h3:(((i+j:Nat):Int)).fdiv 2=(((i+j) / 2:Nat):Int):=by
  rw[Int.fdiv_eq_ediv_of_nonneg _ (by omega)];omega
 rw[show IntKind.i64.wrap ((i:Int)+j)=(i:Int)+j from wrap64 (by omega) (by omega),h1,h2,h3,wrap64 (by omega) (by omega)]
def M1X (l:List (List Val)) (kb:Option Blk) (N a b:Nat) (i j:Int) (n12:Nat) (h12:Int) (n33:Nat) (c33:Bool) (n50:Nat) (c50:Bool):AS :=
 { env:=[(0, .osl 0 1 0 N),(1, .int a),(2, .int ((a:Int)+1)),(3, .int b),(4, .fn (.func 212) [.own 1 0]),(10, .int i),(11, .int j),(12,jk n12 (.int h12)),(13, .junk),(14, .junk),(15, .junk),(16, .junk),(17, .junk),(18, .junk),(19, .junk),(20, .junk),(21, .junk),(22, .junk),(23, .junk),(24, .junk),(28, .bool true),(33,jk n33 (.bool c33)),(50,jk n50 (.bool c50)),(58, .junk),(80, .junk),(85, .junk),(103, .junk),(110, .junk),(140, .junk),(151, .junk),(171, .junk),(185, .junk),(199, .junk),(213, .junk)],st:=[some (.arr 1 (rowsL l)),kb] }
def M1Y (P V S:List (List Val)) (x:List Val) (kb:Option Blk) (N a b p:Nat) (n12:Nat) (h12:Int) (n50:Nat) (c50:Bool) (t:Nat):AS :=
 { env:=[(0, .osl 0 1 0 N),(1, .int a),(2, .int ((a:Int)+1)),(3, .int b),(4, .fn (.func 212) [.own 1 0]),(10, .int ((a:Int)+1+p)),(11, .int ((a:Int)+1+p)),(12,jk n12 (.int h12)),(13, .int ((a:Int)+t)),(14, .junk),(15, .junk),(16, .junk),(17, .junk),(18, .junk),(19, .junk),(20, .junk),(21, .junk),(22, .junk),(23, .junk),(24, .junk),(28, .bool true),(33, .bool false),(50,jk n50 (.bool c50)),(58,jk t (.bool true)),(80, .junk),(85, .junk),(103, .junk),(110, .junk),(140, .junk),(151, .junk),(171, .junk),(185, .junk),(199, .junk),(213, .junk)],st:=[some (.arr 1 (rowsL (P++(V.take t++x::(V.drop t++S))))),kb] }
theorem symMerge1 (P V S:List (List Val)) (x:List Val) (cs:List Int) (N a b:Nat) (hP:P.length=a) (hb:b=a+1+V.length) (hN:N=P.length+1+V.length+S.length) (hs:N<1000000) (hcs:cs.length<1000000) (hsV:SrtK cs V) (hrx:∀ c∈cs,0≤c∧c<x.length) (hr:∀ r∈V,∀ c∈cs,0≤c∧c<r.length) :
 ∃ M',callA C0 225 [.osl 0 1 0 N, .int a, .int ((a:Int)+1), .int b, .fn (.func 212) [.own 1 0]] [some (.arr 1 (rowsL (P++[x]++V++S))),some (.box [.i (.isl (intsL cs))])]=some (.tup [],[some (.arr 1 (rowsL (P++M'++S))),some (.box [.i (.isl (intsL cs))])])∧M'.Perm (x::V)∧SrtK cs M':=by
 rw[callA_eq rfl Tryz.func225 rfl rfl]
 have w1:IntKind.i64.wrap ((a:Int)+1-a)=1:=by rw[wrap64 (by omega) (by omega)];omega
 simp[w1]
 generalize hX:execA C0 _ _ (Code.loop _) _=X
 have key:∃ rr,X=some rr∧∃ (p:Nat) (n12:Nat) (h12:Int) (n50:Nat) (c50:Bool),rr=(.exit 0,M1X (P++x::(V++S)) (some (.box [.i (.isl (intsL cs))])) N a b ((a+1+p:Nat):Int) ((a+1+p:Nat):Int) n12 h12 1 false n50 c50)∧p≤V.length∧(p=0∨∃ y,V[p-1]?=some y∧LeK cs y x)∧(p=V.length∨∃ y,V[p]?=some y∧LeK cs x y):=by
  rw[← hX]
  refine loop_wf (fun d St=>∃ (p q:Nat) (n12:Nat) (h12:Int) (n33 n50:Nat) (c33 c50:Bool),St=M1X (P++x::(V++S)) (some (.box [.i (.isl (intsL cs))])) N a b ((a+1+p:Nat):Int) ((a+1+q:Nat):Int) n12 h12 n33 c33 n50 c50∧p≤q∧q≤V.length∧d=q-p∧(p=0∨∃ y,V[p-1]?=some y∧LeK cs y x)∧(q=V.length∨∃ y,V[q]?=some y∧LeK cs x y)) ?_ _ _ ⟨0,V.length,0,0,0,0,true,true,by simp[M1X,hb],by omega,by omega,rfl, .inl rfl, .inl rfl⟩
  rintro d St ⟨p,q,n12,h12,n33,n50,c33,c50,rfl,h1,h2,hd,k1,k2⟩
  by_cases hij:p<q
  ·left
   have mm:=mid64 (i:=a+1+p) (j:=a+1+q) (by omega)
   obtain⟨h,hh,hph,hhq⟩:∃ h,(a+1+p+(a+1+q)) / 2=a+1+h∧p≤h∧h<q:=⟨(a+1+p+(a+1+q)) / 2-(a+1),by omega,by omega,by omega⟩
   rw[hh]at mm
   obtain⟨z,hz⟩:∃ z,V[h]?=some z:=⟨_,List.getElem?_eq_getElem (by omega)⟩
   have hrz:=hr z (List.mem_of_getElem? hz)
   have hg:=gcmp_eq cs hcs z x hrz hrx
   obtain⟨Q0,hQ⟩:∃ Q0:AS→Prop,∀ S1,Q0 S1↔∃ (p' q':Nat) (c50:Bool),S1=M1X (P++x::(V++S)) (some (.box [.i (.isl (intsL cs))])) N a b ((a+1+p':Nat):Int) ((a+1+q':Nat):Int) 1 ((a+1+h:Nat):Int) 1 true 1 c50∧p'≤q'∧q'≤V.length∧q'-p'<q-p∧(p'=0∨∃ y,V[p'-1]?=some y∧LeK cs y x)∧(q'=V.length∨∃ y,V[q']?=some y∧LeK cs x y):=⟨fun S1=>_,fun S1=>Iff.rfl⟩
   refine step_of Q0 ?_ (fun S1 hS1=>by
    obtain⟨p',q',c50',rfl,e1,e2,e3,e4,e5⟩:=(hQ S1).1 hS1
    exact⟨q'-p',by omega,p',q',_,_,_,_,_,_,rfl,e1,e2,rfl,e4,e5⟩)
   have hiI:((a+1+p:Nat):Int)<((a+1+q:Nat):Int):=by omega
   have hh0:(0:Int)≤((a+1+h:Nat):Int):=by omega
   have hh1:((a+1+h:Nat):Int)<N:=by omega
   have ha0:(a:Int)<N:=by omega
   have hw:IntKind.i64.wrap (((a+1+h:Nat):Int)+1)=((a+1+(h+1):Nat):Int):=by rw[wrap64 (by omega) (by omega)];omega
   have hzz:nthE (rowsL (P++x::(V++S))) (a+1+h)=some [.isl (valsL z)]:=by
    have e:P++x::(V++S)=(P++[x])++(V++S):=by simp
    rw[nthE_eq,e];simp only[rowsL,List.getElem?_map]
    rw[List.getElem?_append_right (by simp;omega),List.getElem?_append_left (by simp;omega)]
    have:a+1+h-(P++[x]).length=h:=by simp;omega
    rw[this,hz];rfl
   have hx0:nthE (rowsL (P++x::(V++S))) a=some [.isl (valsL x)]:=by rw[nthE_eq];simp only[rowsL,List.getElem?_map];rw[nth_mid _ _ _ (by omega)];rfl
   generalize hI:((a+1+p:Nat):Int)=I at *
   generalize hJ:((a+1+q:Nat):Int)=J at *
   generalize hH:a+1+h=H at *
   by_cases hlt:rowCmp (pickV cs z) (pickV cs x)<0
   ·refine⟨M1X (P++x::(V++S)) (some (.box [.i (.isl (intsL cs))])) N a b ((a+1+(h+1):Nat):Int) J 1 (H:Int) 1 true 1 true,?_,(hQ _).2 ⟨h+1,q,true,by rw[hJ],by omega,by omega,by omega, .inr ⟨z,by simpa using hz,leK_of_lt hlt⟩,k2⟩⟩
    simp[M1X,hiI,mm,hh0,hh1,ha0,hzz,hx0,hg,hlt,hw]
   ·refine⟨M1X (P++x::(V++S)) (some (.box [.i (.isl (intsL cs))])) N a b I (H:Int) 1 (H:Int) 1 true 1 false,?_,(hQ _).2 ⟨p,h,false,by rw[hI,hH],by omega,by omega,by omega,k1, .inr ⟨z,hz,leK_of_not hlt⟩⟩⟩
    simp[M1X,hiI,mm,hh0,hh1,ha0,hzz,hx0,hg,hlt,hw]
  ·right
   have hpq:p=q:=by omega
   subst hpq
   refine⟨.exit 0,M1X (P++x::(V++S)) (some (.box [.i (.isl (intsL cs))])) N a b ((a+1+p:Nat):Int) ((a+1+p:Nat):Int) n12 h12 1 false n50 c50,?_,by simp,p,n12,h12,n50,c50,rfl,h2,k1,k2⟩
   simp[M1X]
 obtain⟨rr,rfl,p,n12,h12,n50,c50,rfl,hp,k1,k2⟩:=key
 simp[M1X]
 rw[loop_to (M1Y P V S x (some (.box [.i (.isl (intsL cs))])) N a b p n12 h12 n50 c50) p (by simp[M1Y])]
 ·have wp:IntKind.i64.wrap ((a:Int)+1+p-1)=(a:Int)+p:=by rw[wrap64 (by omega) (by omega)];omega
  rw[execA_loop]
  simp[M1Y,wp]
  refine⟨V.take p++x::V.drop p,by simp,?_,ins_srtK (by simpa using hsV) ?_ ?_⟩
  ·exact(List.perm_middle).trans (by simp)
  ·rcases k1 with rfl|⟨y,e1,e2⟩
   ·exact .inl (by simp)
   ·by_cases hp0:p=0
    ·exact .inl (by simp[hp0])
    ·exact .inr ⟨y,by rw[List.getLast?_take,if_neg hp0,e1];rfl,e2⟩
  ·rcases k2 with rfl|⟨y,e1,e2⟩
   ·exact .inl (by simp)
   ·exact .inr ⟨y,by rw[List.head?_drop,e1],e2⟩
 ·intro t ht
  obtain⟨y,hy⟩:∃ y,V[t]?=some y:=⟨_,List.getElem?_eq_getElem (by omega)⟩
  have hd:V.drop t=y::V.drop (t+1):=by rw[List.drop_eq_getElem_cons (by omega)];congr 1;exact Option.some.inj (by rw[← List.getElem?_eq_getElem];exact hy)
  have htk:V.take (t+1)=V.take t++[y]:=by rw[List.take_add_one,hy];rfl
  have ltk:(V.take t).length=t:=by simp;omega
  have wp:IntKind.i64.wrap ((a:Int)+1+p-1)=(a:Int)+p:=by rw[wrap64 (by omega) (by omega)];omega
  have b0:0≤(a:Int)+t:=by omega
  have b1:(a:Int)+t<N:=by omega
  have b2:0≤(a:Int)+(t+1):=by omega
  have b3:(a:Int)+(t+1)<N:=by omega
  have wt:IntKind.i64.wrap ((a:Int)+t+1)=(a:Int)+(t+1):=by rw[wrap64 (by omega) (by omega)];omega
  have t1:((a:Int)+(t+1)).toNat=a+t+1:=by omega
  have t2:((a:Int)+t).toNat=a+t:=by omega
  generalize hA:V.take t=A at *
  generalize hB:V.drop (t+1)=B at *
  have eL:∀ u v:List Val,P++(A++u::v::(B++S))=(P++A)++u::v::(B++S):=by simp
  have eL1:∀ u v:List Val,P++(A++u::v::(B++S))=(P++A++[u])++v::(B++S):=by simp
  have nx:∀ u v:List Val,nthE (rowsL (P++(A++u::v::(B++S)))) (a+t)=some [.isl (valsL u)]:=by intro u v;rw[nthE_eq,eL];simp only[rowsL,List.getElem?_map];rw[nth_mid _ _ _ (by simp;omega)];rfl
  have ny:∀ u v:List Val,nthE (rowsL (P++(A++u::v::(B++S)))) (a+t+1)=some [.isl (valsL v)]:=by intro u v;rw[nthE_eq,eL1];simp only[rowsL,List.getElem?_map];rw[nth_mid _ _ _ (by simp;omega)];rfl
  have sx:∀ u v w:List Val,(rowsL (P++(A++u::v::(B++S)))).set (a+t) [.isl (valsL w)]=rowsL (P++(A++w::v::(B++S))):=by intro u v w;rw[rowsL_set,eL,set_mid _ _ _ _ (by simp;omega)];simp
  have sy:∀ u v w:List Val,(rowsL (P++(A++u::v::(B++S)))).set (a+t+1) [.isl (valsL w)]=rowsL (P++(A++u::w::(B++S))):=by intro u v w;rw[rowsL_set,eL1,set_mid _ _ _ _ (by simp;omega)];simp
  simp[M1Y,wp,hd,htk,hA,hB,ht,b0,b1,b2,b3,wt,t1,t2,nx,ny,sx,sy]
end Go.Proofs.YtiailccmofdhfaaGreat
namespace Go.Av
theorem cut_le {cs:List Int} {U V:List (List Val)} {p q:Nat} (hU:SrtK cs U) (hV:SrtK cs V) (hp:p≤U.length) (hq:q≤V.length)
 (h1:p=0∨q=V.length∨∃ x y,U[p-1]?=some x∧V[q]?=some y∧LeK cs x y) (h2:q=0∨p=U.length∨∃ x y,V[q-1]?=some x∧U[p]?=some y∧LeK cs x y) :
 ∀ x∈U.take p++V.take q,∀ y∈U.drop p++V.drop q,LeK cs x y:=by
 refine halves_le (by rwa [List.take_append_drop]) (by rwa [List.take_append_drop]) ?_ ?_
 ·rcases h1 with rfl|rfl|⟨x,y,e1,e2,e3⟩
  ·exact .inl (by simp)
  ·exact .inr (.inl (by simp))
  ·by_cases hp0:p=0
   ·exact .inl (by simp[hp0])
   ·exact .inr (.inr ⟨x,y,by rw[List.getLast?_take,if_neg hp0,e1];rfl,by rw[List.head?_drop,e2],e3⟩)
 ·rcases h2 with rfl|rfl|⟨x,y,e1,e2,e3⟩
  ·exact .inl (by simp)
  ·exact .inr (.inl (by simp))
  ·by_cases hq0:q=0
   ·exact .inl (by simp[hq0])
   ·exact .inr (.inr ⟨x,y,by rw[List.getLast?_take,if_neg hq0,e1];rfl,by rw[List.head?_drop,e2],e3⟩)
theorem cut_merge {cs:List Int} {U V M1 M2:List (List Val)} {p q:Nat} (h1:M1.Perm (U.take p++V.take q)) (h2:M2.Perm (U.drop p++V.drop q)) (s1:SrtK cs M1) (s2:SrtK cs M2) (h:∀ x∈U.take p++V.take q,∀ y∈U.drop p++V.drop q,LeK cs x y) :
 (M1++M2).Perm (U++V)∧SrtK cs (M1++M2):=by
 refine⟨(h1.append h2).trans ?_,srtK_append s1 s2 fun x hx y hy=>h x (h1.mem_iff.1 hx) y (h2.mem_iff.1 hy)⟩
 have:U++V=U.take p++(U.drop p++(V.take q++V.drop q)):=by rw[List.take_append_drop,← List.append_assoc,List.take_append_drop]
 rw[this,List.append_assoc]
 refine List.Perm.append_left _ ?_
 rw[← List.append_assoc,← List.append_assoc]
 exact List.Perm.append_right _ List.perm_append_comm
inductive Bk (cs:List Int) (k:Nat):List (List Val)→Prop
 | last {l:List (List Val)}:l.length≤k→SrtK cs l→Bk cs k l
 | cons {c l:List (List Val)}:c.length=k→SrtK cs c→Bk cs k l→Bk cs k (c++l)
theorem Bk.one {cs:List Int} {k:Nat} {l:List (List Val)} (h:Bk cs k l) (hl:l.length≤k):SrtK cs l:=by
 cases h with
 | last _ h=>exact h
 | @cons c l h1 h2 h3 =>
  have:l=[]:=List.length_eq_zero_iff.1 (by simp at hl;omega)
  subst this;simpa using h2
theorem Bk.two {cs:List Int} {k:Nat} {l:List (List Val)} (h:Bk cs k l) (hk:0<k) (h1:k<l.length):∃ c l',l=c++l'∧c.length=k∧SrtK cs c∧Bk cs k l':=by
 cases h with
 | last h2 _=>omega
 | @cons c l' h2 h3 h4=>exact⟨c,l',rfl,h2,h3,h4⟩
theorem Bk.pair {cs:List Int} {k:Nat} {l:List (List Val)} (h:Bk cs k l) (hk:0<k) (h1:2*k≤l.length):∃ c d l',l=c++(d++l')∧c.length=k∧d.length=k∧SrtK cs c∧SrtK cs d∧Bk cs k l':=by
 obtain⟨c,l',rfl,h2,h3,h4⟩:=h.two hk (by omega)
 have hl':k≤l'.length:=by simp at h1;omega
 cases h4 with
 | last h5 h6=>exact⟨c,l',[],by simp,h2,by omega,h3,h6, .last (by simp) (by simp[SrtK])⟩
 | @cons d l'' h5 h6 h7=>exact⟨c,d,l'',rfl,h2,h5,h3,h6,h7⟩
def Full (cs:List Int) (k:Nat) (A:List (List Val)):Prop:=∀ X,Bk cs k X→Bk cs k (A++X)
theorem Full.nil (cs:List Int) (k:Nat):Full cs k []:=fun X h=>h
theorem Full.snoc {cs:List Int} {k:Nat} {A c:List (List Val)} (h:Full cs k A) (hc:c.length=k) (hs:SrtK cs c):Full cs k (A++c):=fun X hX=>by
 rw[List.append_assoc];exact h _ (.cons hc hs hX)
theorem SrtK.nil (cs:List Int):SrtK cs []:=by simp[SrtK]
end Go.Av
namespace Go.Proofs.YtiailccmofdhfaaGreat
open Go Go.Av
set_option maxRecDepth 4000
set_option maxHeartbeats 8000000
def M2X (l:List (List Val)) (kb:Option Blk) (N a m:Nat) (i j:Int) (n16:Nat) (h16:Int) (n85:Nat) (c85:Bool) (n103:Nat) (c103:Bool):AS :=
 { env:=[(0, .osl 0 1 0 N),(1, .int a),(2, .int m),(3, .int ((m:Int)+1)),(4, .fn (.func 212) [.own 1 0]),(10, .junk),(11, .junk),(12, .junk),(13, .junk),(14, .int i),(15, .int j),(16,jk n16 (.int h16)),(17, .junk),(18, .junk),(19, .junk),(20, .junk),(21, .junk),(22, .junk),(23, .junk),(24, .junk),(28, .bool false),(33, .junk),(50, .junk),(58, .junk),(80, .bool true),(85,jk n85 (.bool c85)),(103,jk n103 (.bool c103)),(110, .junk),(140, .junk),(151, .junk),(171, .junk),(185, .junk),(199, .junk),(213, .junk)],st:=[some (.arr 1 (rowsL l)),kb] }
def M2Y (P U S:List (List Val)) (x:List Val) (kb:Option Blk) (N a m p:Nat) (n16:Nat) (h16:Int) (n103:Nat) (c103:Bool) (t:Nat):AS :=
 { env:=[(0, .osl 0 1 0 N),(1, .int a),(2, .int m),(3, .int ((m:Int)+1)),(4, .fn (.func 212) [.own 1 0]),(10, .junk),(11, .junk),(12, .junk),(13, .junk),(14, .int ((a:Int)+p)),(15, .int ((a:Int)+p)),(16,jk n16 (.int h16)),(17, .int ((a:Int)+(U.length-t:Nat))),(18, .junk),(19, .junk),(20, .junk),(21, .junk),(22, .junk),(23, .junk),(24, .junk),(28, .bool false),(33, .junk),(50, .junk),(58, .junk),(80, .bool true),(85, .bool false),(103,jk n103 (.bool c103)),(110,jk t (.bool true)),(140, .junk),(151, .junk),(171, .junk),(185, .junk),(199, .junk),(213, .junk)],st:=[some (.arr 1 (rowsL (P++(U.take (U.length-t)++x::(U.drop (U.length-t)++S))))),kb] }
theorem symMerge2 (P U S:List (List Val)) (x:List Val) (cs:List Int) (N a m:Nat) (hU1:U.length≠1) (hP:P.length=a) (hm:m=a+U.length) (hN:N=P.length+U.length+1+S.length) (hs:N<1000000) (hcs:cs.length<1000000) (hsU:SrtK cs U) (hrx:∀ c∈cs,0≤c∧c<x.length) (hr:∀ r∈U,∀ c∈cs,0≤c∧c<r.length) :
 ∃ M',callA C0 225 [.osl 0 1 0 N, .int a, .int m, .int ((m:Int)+1), .fn (.func 212) [.own 1 0]] [some (.arr 1 (rowsL (P++U++[x]++S))),some (.box [.i (.isl (intsL cs))])]=some (.tup [],[some (.arr 1 (rowsL (P++M'++S))),some (.box [.i (.isl (intsL cs))])])∧M'.Perm (x::U)∧SrtK cs M':=by
 rw[callA_eq rfl Tryz.func225 rfl rfl]
 have w1:IntKind.i64.wrap ((m:Int)-a)=(U.length:Int):=by rw[wrap64 (by omega) (by omega)];omega
 have w2:IntKind.i64.wrap ((m:Int)+1-m)=1:=by rw[wrap64 (by omega) (by omega)];omega
 have hU1I:¬ (U.length:Int)=1:=by omega
 simp[w1,w2,hU1I,hU1]
 generalize hX:execA C0 _ _ (Code.loop _) _=X
 have key:∃ rr,X=some rr∧∃ (p:Nat) (n16:Nat) (h16:Int) (n103:Nat) (c103:Bool),rr=(.exit 4,M2X (P++(U++x::S)) (some (.box [.i (.isl (intsL cs))])) N a m ((a+p:Nat):Int) ((a+p:Nat):Int) n16 h16 1 false n103 c103)∧p≤U.length∧(p=0∨∃ y,U[p-1]?=some y∧LeK cs y x)∧(p=U.length∨∃ y,U[p]?=some y∧LeK cs x y):=by
  rw[← hX]
  refine loop_wf (fun d St=>∃ (p q:Nat) (n16:Nat) (h16:Int) (n85 n103:Nat) (c85 c103:Bool),St=M2X (P++(U++x::S)) (some (.box [.i (.isl (intsL cs))])) N a m ((a+p:Nat):Int) ((a+q:Nat):Int) n16 h16 n85 c85 n103 c103∧p≤q∧q≤U.length∧d=q-p∧(p=0∨∃ y,U[p-1]?=some y∧LeK cs y x)∧(q=U.length∨∃ y,U[q]?=some y∧LeK cs x y)) ?_ _ _ ⟨0,U.length,0,0,0,0,true,true,by simp[M2X,hm,hU1,hU1I],by omega,by omega,rfl, .inl rfl, .inl rfl⟩
  rintro d St ⟨p,q,n16,h16,n85,n103,c85,c103,rfl,h1,h2,hd,k1,k2⟩
  by_cases hij:p<q
  ·left
   have mm:=mid64 (i:=a+p) (j:=a+q) (by omega)
   obtain⟨h,hh,hph,hhq⟩:∃ h,(a+p+(a+q)) / 2=a+h∧p≤h∧h<q:=⟨(a+p+(a+q)) / 2-a,by omega,by omega,by omega⟩
   rw[hh]at mm
   obtain⟨z,hz⟩:∃ z,U[h]?=some z:=⟨_,List.getElem?_eq_getElem (by omega)⟩
   have hrz:=hr z (List.mem_of_getElem? hz)
   have hg:=gcmp_eq cs hcs x z hrx hrz
   obtain⟨Q0,hQ⟩:∃ Q0:AS→Prop,∀ S1,Q0 S1↔∃ (p' q':Nat) (c103:Bool),S1=M2X (P++(U++x::S)) (some (.box [.i (.isl (intsL cs))])) N a m ((a+p':Nat):Int) ((a+q':Nat):Int) 1 ((a+h:Nat):Int) 1 true 1 c103∧p'≤q'∧q'≤U.length∧q'-p'<q-p∧(p'=0∨∃ y,U[p'-1]?=some y∧LeK cs y x)∧(q'=U.length∨∃ y,U[q']?=some y∧LeK cs x y):=⟨fun S1=>_,fun S1=>Iff.rfl⟩
   refine step_of Q0 ?_ (fun S1 hS1=>by
    obtain⟨p',q',c103',rfl,e1,e2,e3,e4,e5⟩:=(hQ S1).1 hS1
    exact⟨q'-p',by omega,p',q',_,_,_,_,_,_,rfl,e1,e2,rfl,e4,e5⟩)
   have hiI:((a+p:Nat):Int)<((a+q:Nat):Int):=by omega
   have hh0:(0:Int)≤((a+h:Nat):Int):=by omega
   have hh1:((a+h:Nat):Int)<N:=by omega
   have hm0:(m:Int)<N:=by omega
   have hw:IntKind.i64.wrap (((a+h:Nat):Int)+1)=((a+(h+1):Nat):Int):=by rw[wrap64 (by omega) (by omega)];omega
   have hzz:nthE (rowsL (P++(U++x::S))) (a+h)=some [.isl (valsL z)]:=by
    rw[nthE_eq];simp only[rowsL,List.getElem?_map]
    rw[List.getElem?_append_right (by omega),List.getElem?_append_left (by omega)]
    have:a+h-P.length=h:=by omega
    rw[this,hz];rfl
   have hx0:nthE (rowsL (P++(U++x::S))) m=some [.isl (valsL x)]:=by
    have e:P++(U++x::S)=(P++U)++x::S:=by simp
    rw[nthE_eq,e];simp only[rowsL,List.getElem?_map];rw[nth_mid _ _ _ (by simp;omega)];rfl
   generalize hI:((a+p:Nat):Int)=I at *
   generalize hJ:((a+q:Nat):Int)=J at *
   generalize hH:a+h=H at *
   by_cases hlt:rowCmp (pickV cs x) (pickV cs z)<0
   ·refine⟨M2X (P++(U++x::S)) (some (.box [.i (.isl (intsL cs))])) N a m I (H:Int) 1 (H:Int) 1 true 1 false,?_,(hQ _).2 ⟨p,h,false,by rw[hI,hH],by omega,by omega,by omega,k1, .inr ⟨z,hz,leK_of_lt hlt⟩⟩⟩
    simp[M2X,hiI,mm,hh0,hh1,hm0,hzz,hx0,hg,hlt,hw]
   ·refine⟨M2X (P++(U++x::S)) (some (.box [.i (.isl (intsL cs))])) N a m ((a+(h+1):Nat):Int) J 1 (H:Int) 1 true 1 true,?_,(hQ _).2 ⟨h+1,q,true,by rw[hJ],by omega,by omega,by omega, .inr ⟨z,by simpa using hz,leK_of_not hlt⟩,k2⟩⟩
    simp[M2X,hiI,mm,hh0,hh1,hm0,hzz,hx0,hg,hlt,hw]
  ·right
   have hpq:p=q:=by omega
   subst hpq
   refine⟨.exit 4,M2X (P++(U++x::S)) (some (.box [.i (.isl (intsL cs))])) N a m ((a+p:Nat):Int) ((a+p:Nat):Int) n16 h16 1 false n103 c103,?_,by simp,p,n16,h16,n103,c103,rfl,h2,k1,k2⟩
   simp[M2X]
 obtain⟨rr,rfl,p,n16,h16,n103,c103,rfl,hp,k1,k2⟩:=key
 simp[M2X]
 rw[loop_to (M2Y P U S x (some (.box [.i (.isl (intsL cs))])) N a m p n16 h16 n103 c103) (U.length-p) (by simp[M2Y,hm])]
 ·have e1:U.length-(U.length-p)=p:=by omega
  rw[execA_loop]
  simp[M2Y,e1]
  refine⟨U.take p++x::U.drop p,by simp,?_,ins_srtK (by simpa using hsU) ?_ ?_⟩
  ·exact(List.perm_middle).trans (by simp)
  ·rcases k1 with rfl|⟨y,e1,e2⟩
   ·exact .inl (by simp)
   ·by_cases hp0:p=0
    ·exact .inl (by simp[hp0])
    ·exact .inr ⟨y,by rw[List.getLast?_take,if_neg hp0,e1];rfl,e2⟩
  ·rcases k2 with rfl|⟨y,e1,e2⟩
   ·exact .inl (by simp)
   ·exact .inr ⟨y,by rw[List.head?_drop,e1],e2⟩
 ·intro t ht
  obtain⟨e,he,he2,hpe⟩:∃ e,U.length-t=e+1∧U.length-(t+1)=e∧p≤e:=⟨U.length-t-1,by omega,by omega,by omega⟩
  obtain⟨y,hy⟩:∃ y,U[e]?=some y:=⟨_,List.getElem?_eq_getElem (by omega)⟩
  have hd:U.drop e=y::U.drop (e+1):=by rw[List.drop_eq_getElem_cons (by omega)];congr 1;exact Option.some.inj (by rw[← List.getElem?_eq_getElem];exact hy)
  have htk:U.take (e+1)=U.take e++[y]:=by rw[List.take_add_one,hy];rfl
  have ltk:(U.take e).length=e:=by simp;omega
  have b0:0≤(a:Int)+e:=by omega
  have b1:(a:Int)+e<N:=by omega
  have b2:0≤(a:Int)+(e+1):=by omega
  have b3:(a:Int)+(e+1)<N:=by omega
  have hlt:(a:Int)+p<(a:Int)+(e+1):=by omega
  have hlt2:(p:Int)<(e:Int)+1:=by omega
  have hlt3:p<e+1:=by omega
  have wt:IntKind.i64.wrap ((a:Int)+(e+1)-1)=(a:Int)+e:=by rw[wrap64 (by omega) (by omega)];omega
  have t1:((a:Int)+(e+1)).toNat=a+e+1:=by omega
  have t2:((a:Int)+e).toNat=a+e:=by omega
  generalize hA:U.take e=A at *
  generalize hB:U.drop (e+1)=B at *
  have eL:∀ u v:List Val,P++(A++u::v::(B++S))=(P++A)++u::v::(B++S):=by simp
  have eL1:∀ u v:List Val,P++(A++u::v::(B++S))=(P++A++[u])++v::(B++S):=by simp
  have nx:∀ u v:List Val,nthE (rowsL (P++(A++u::v::(B++S)))) (a+e)=some [.isl (valsL u)]:=by intro u v;rw[nthE_eq,eL];simp only[rowsL,List.getElem?_map];rw[nth_mid _ _ _ (by simp;omega)];rfl
  have ny:∀ u v:List Val,nthE (rowsL (P++(A++u::v::(B++S)))) (a+e+1)=some [.isl (valsL v)]:=by intro u v;rw[nthE_eq,eL1];simp only[rowsL,List.getElem?_map];rw[nth_mid _ _ _ (by simp;omega)];rfl
  have sx:∀ u v w:List Val,(rowsL (P++(A++u::v::(B++S)))).set (a+e) [.isl (valsL w)]=rowsL (P++(A++w::v::(B++S))):=by intro u v w;rw[rowsL_set,eL,set_mid _ _ _ _ (by simp;omega)];simp
  have sy:∀ u v w:List Val,(rowsL (P++(A++u::v::(B++S)))).set (a+e+1) [.isl (valsL w)]=rowsL (P++(A++u::w::(B++S))):=by intro u v w;rw[rowsL_set,eL1,set_mid _ _ _ _ (by simp;omega)];simp
  simp[M2Y,he,he2,hd,htk,hA,hB,hlt,hlt2,hlt3,b0,b1,b2,b3,wt,t1,t2,nx,ny,sx,sy]
def SMX (l:List (List Val)) (kb:Option Blk) (N a m b k:Nat) (i j:Int) (c140:Bool) (n23:Nat) (h23:Int) (n151:Nat) (c151:Bool) (n171:Nat) (c171:Bool):AS :=
 { env:=[(0, .osl 0 1 0 N),(1, .int a),(2, .int m),(3, .int b),(4, .fn (.func 212) [.own 1 0]),(10, .junk),(11, .junk),(12, .junk),(13, .junk),(14, .junk),(15, .junk),(16, .junk),(17, .junk),(18, .int ((a:Int)+k)),(19, .int ((a:Int)+k+m)),(20, .int i),(21, .int j),(22, .int ((a:Int)+k+m-1)),(23,jk n23 (.int h23)),(24, .junk),(28, .bool false),(33, .junk),(50, .junk),(58, .junk),(80, .bool false),(85, .junk),(103, .junk),(110, .junk),(140, .bool c140),(151,jk n151 (.bool c151)),(171,jk n171 (.bool c171)),(185, .junk),(199, .junk),(213, .junk)],st:=[some (.arr 1 (rowsL l)),kb] }
theorem sm_search {P U V S:List (List Val)} {cs:List Int} {N a m b k lo hi:Nat} {c140:Bool} {kb:Option Blk} (hsU:SrtK cs U) (hsV:SrtK cs V) (hlh1:lo≤hi) (hlh2:hi≤U.length) (hlh3:hi≤k) (hlh4:k-lo≤V.length) (hlo:lo=0∨k-lo=V.length) (hhi:k-hi=0∨hi=U.length)
 {S0 : AS} {G:List Nat} {na:Nat} {bd:Code} (h0:S0=SMX (P++(U++(V++S))) kb N a m b k ((a+lo:Nat):Int) ((a+hi:Nat):Int) c140 0 0 0 true 0 true) (hround:∀ (p q:Nat) (n23 n151 n171:Nat) (h23:Int) (c151 c171:Bool),p<q→lo≤p→q≤hi→∃ h,p≤h∧h<q ∧
     ((rowCmp (pickV cs ((V[k-1-h]?).getD [])) (pickV cs ((U[h]?).getD []))<0→execA C0 G na bd (SMX (P++(U++(V++S))) kb N a m b k ((a+p:Nat):Int) ((a+q:Nat):Int) c140 n23 h23 n151 c151 n171 c171)=some (.normal,SMX (P++(U++(V++S))) kb N a m b k ((a+p:Nat):Int) ((a+h:Nat):Int) c140 1 ((a+h:Nat):Int) 1 true 1 false)) ∧
     (¬ rowCmp (pickV cs ((V[k-1-h]?).getD [])) (pickV cs ((U[h]?).getD []))<0→execA C0 G na bd (SMX (P++(U++(V++S))) kb N a m b k ((a+p:Nat):Int) ((a+q:Nat):Int) c140 n23 h23 n151 c151 n171 c171)=some (.normal,SMX (P++(U++(V++S))) kb N a m b k ((a+(h+1):Nat):Int) ((a+q:Nat):Int) c140 1 ((a+h:Nat):Int) 1 true 1 true))))
  (hlast:∀ (p:Nat) (n23 n151 n171:Nat) (h23:Int) (c151 c171:Bool),execA C0 G na bd (SMX (P++(U++(V++S))) kb N a m b k ((a+p:Nat):Int) ((a+p:Nat):Int) c140 n23 h23 n151 c151 n171 c171)=some (.exit 8,SMX (P++(U++(V++S))) kb N a m b k ((a+p:Nat):Int) ((a+p:Nat):Int) c140 n23 h23 1 false n171 c171)) :
  ∃ rr,execA C0 G na (.loop bd) S0=some rr∧∃ (p:Nat) (n23 n171:Nat) (h23:Int) (c171:Bool),rr=(.exit 8,SMX (P++(U++(V++S))) kb N a m b k ((a+p:Nat):Int) ((a+p:Nat):Int) c140 n23 h23 1 false n171 c171)∧p≤U.length∧p≤k∧k-p≤V.length ∧
    (∀ x∈U.take p++V.take (k-p),∀ y∈U.drop p++V.drop (k-p),LeK cs x y):=by
 subst h0
 refine loop_wf (fun d St=>∃ (p q:Nat) (n23 n151 n171:Nat) (h23:Int) (c151 c171:Bool),St=SMX (P++(U++(V++S))) kb N a m b k ((a+p:Nat):Int) ((a+q:Nat):Int) c140 n23 h23 n151 c151 n171 c171∧lo≤p∧p≤q∧q≤hi∧d=q-p∧(p=lo∨∃ x y,U[p-1]?=some x∧V[k-p]?=some y∧LeK cs x y)∧(q=hi∨∃ x y,V[k-q-1]?=some x∧U[q]?=some y∧LeK cs x y)) ?_ _ _ ⟨lo,hi,0,0,0,0,true,true,rfl,Nat.le_refl _,hlh1,Nat.le_refl _,rfl, .inl rfl, .inl rfl⟩
 rintro d St ⟨p,q,n23,n151,n171,h23,c151,c171,rfl,h1,h2,h3,hd,k1,k2⟩
 by_cases hij:p<q
 ·left
  obtain⟨h,e1,e2,e3,e4⟩:=hround p q n23 n151 n171 h23 c151 c171 hij h1 h3
  have hz:=List.getElem?_eq_getElem (l:=U) (show h<U.length by omega)
  have hy:=List.getElem?_eq_getElem (l:=V) (show k-1-h<V.length by omega)
  rw[hz,hy]at e3 e4
  simp only[Option.getD_some]at e3 e4
  by_cases hlt:rowCmp (pickV cs V[k-1-h]) (pickV cs U[h])<0
  ·exact⟨_,h-p,e3 hlt,by omega,p,h,_,_,_,_,_,_,rfl,h1,e1,by omega,rfl,k1, .inr ⟨_,_,by rw[show k-h-1=k-1-h by omega];exact hy,hz,leK_of_lt hlt⟩⟩
  ·exact⟨_,q-(h+1),e4 hlt,by omega,h+1,q,_,_,_,_,_,_,rfl,by omega,by omega,h3,rfl, .inr ⟨_,_,by rw[Nat.add_sub_cancel];exact hz,by rw[show k-(h+1)=k-1-h by omega];exact hy,leK_of_not hlt⟩,k2⟩
 ·right
  have hpq:p=q:=by omega
  subst hpq
  refine⟨.exit 8,_,hlast p n23 n151 n171 h23 c151 c171,by simp,p,n23,n171,h23,c171,rfl,by omega,by omega,by omega,?_⟩
  refine cut_le hsU hsV (by omega) (by omega) ?_ ?_
  ·rcases k1 with e|⟨x,y,e1,e2,e3⟩
   ·subst e
    rcases hlo with e|e
    ·exact .inl e
    ·exact .inr (.inl e)
   ·exact .inr (.inr ⟨x,y,e1,e2,e3⟩)
  ·rcases k2 with e|⟨x,y,e1,e2,e3⟩
   ·subst e
    rcases hhi with e|e
    ·exact .inl e
    ·exact .inr (.inl e)
   ·exact .inr (.inr ⟨x,y,e1,e2,e3⟩)
theorem sm_parts {cs:List Int} {N:Nat} (hs:N<1000000) {d:Nat} (ih:∀ (P U V S:List (List Val)) (a m b:Nat),U.length+V.length≤d→U≠[]→V≠[]→P.length=a→m=a+U.length→b=m+V.length→N=P.length+U.length+V.length+S.length→SrtK cs U→SrtK cs V→(∀ r∈U++V,∀ c∈cs,0≤c∧c<r.length) →
 ∃ M',callA C0 225 [.osl 0 1 0 N, .int a, .int m, .int b, .fn (.func 212) [.own 1 0]] [some (.arr 1 (rowsL (P++(U++(V++S))))),some (.box [.i (.isl (intsL cs))])]=some (.tup [],[some (.arr 1 (rowsL (P++(M'++S)))),some (.box [.i (.isl (intsL cs))])])∧M'.Perm (U++V)∧SrtK cs M')
 {P U V S:List (List Val)} {a m b k p en:Nat} (hd:U.length+V.length≤d+1) (hU:2≤U.length) (hV:2≤V.length) (hP:P.length=a) (hm:m=a+U.length) (hb:b=m+V.length) (hN:N=P.length+U.length+V.length+S.length) (hsU:SrtK cs U) (hsV:SrtK cs V) (hr:∀ r∈U++V,∀ c∈cs,0≤c∧c<r.length)
 (hk:2*k≤U.length+V.length) (hk':U.length+V.length≤2*k+1) (hp1:p≤U.length) (hp2:p≤k) (hp3:k-p≤V.length) (hen:en=m+(k-p)) (hle:∀ x∈U.take p++V.take (k-p),∀ y∈U.drop p++V.drop (k-p),LeK cs x y) :
 ∃ L1 L2 M,((p<U.length∧0<k-p)→callA C0 226 [.osl 0 1 0 N, .int ((a:Int)+p), .int m, .int en, .fn (.func 212) [.own 1 0]] [some (.arr 1 (rowsL (P++(U++(V++S))))),some (.box [.i (.isl (intsL cs))])]=some (.tup [],[some (.arr 1 (rowsL L1)),some (.box [.i (.isl (intsL cs))])]))∧(¬ (p<U.length∧0<k-p)→P++(U++(V++S))=L1) ∧
   ((0<p∧p<k)→callA C0 225 [.osl 0 1 0 N, .int a, .int ((a:Int)+p), .int ((a:Int)+k), .fn (.func 212) [.own 1 0]] [some (.arr 1 (rowsL L1)),some (.box [.i (.isl (intsL cs))])]=some (.tup [],[some (.arr 1 (rowsL L2)),some (.box [.i (.isl (intsL cs))])]))∧(¬ (0<p∧p<k)→L1=L2) ∧
   ((p<U.length∧k-p<V.length)→callA C0 225 [.osl 0 1 0 N, .int ((a:Int)+k), .int en, .int b, .fn (.func 212) [.own 1 0]] [some (.arr 1 (rowsL L2)),some (.box [.i (.isl (intsL cs))])]=some (.tup [],[some (.arr 1 (rowsL (P++(M++S)))),some (.box [.i (.isl (intsL cs))])]))∧(¬ (p<U.length∧k-p<V.length)→L2=P++(M++S))∧M.Perm (U++V)∧SrtK cs M:=by
 have l1:(U.take p).length=p:=by simp;omega
 have l2:(V.take (k-p)).length=k-p:=by simp;omega
 have l3:(U.drop p).length=U.length-p:=by simp
 have l4:(V.drop (k-p)).length=V.length-(k-p):=by simp
 have hsU':SrtK cs (U.take p++U.drop p):=by rwa [List.take_append_drop]
 have hsV':SrtK cs (V.take (k-p)++V.drop (k-p)):=by rwa [List.take_append_drop]
 obtain⟨q1,q2,-⟩:=List.pairwise_append.1 hsU'
 obtain⟨q3,q4,-⟩:=List.pairwise_append.1 hsV'
 obtain⟨M1,f1,f2,f3,f4⟩:∃ M1,((0<p∧p<k)→callA C0 225 [.osl 0 1 0 N, .int a, .int ((a:Int)+p), .int ((a:Int)+k), .fn (.func 212) [.own 1 0]] [some (.arr 1 (rowsL (P++(U.take p++(V.take (k-p)++(U.drop p++(V.drop (k-p)++S))))))),some (.box [.i (.isl (intsL cs))])]=some (.tup [],[some (.arr 1 (rowsL (P++(M1++(U.drop p++(V.drop (k-p)++S)))))),some (.box [.i (.isl (intsL cs))])]))∧(¬ (0<p∧p<k)→M1=U.take p++V.take (k-p))∧M1.Perm (U.take p++V.take (k-p))∧SrtK cs M1:=by
  by_cases h:0<p∧p<k
  ·obtain⟨M1,e1,e2,e3⟩:=ih P (U.take p) (V.take (k-p)) (U.drop p++(V.drop (k-p)++S)) a (a+p) (a+k) (by omega) (fun e=>by rw[e]at l1;simp at l1;omega) (fun e=>by rw[e]at l2;simp at l2;omega) hP (by omega) (by omega) (by simp only[List.length_append];omega) q1 q3 (fun r hr'=>hr r (by
    rcases List.mem_append.1 hr' with h|h
    ·exact List.mem_append_left _ (List.mem_of_mem_take h)
    ·exact List.mem_append_right _ (List.mem_of_mem_take h)))
   exact⟨M1,fun _=>by simpa using e1,fun n=>absurd h n,e2,e3⟩
  ·refine⟨_,fun h'=>absurd h' h,fun _=>rfl, .refl _,?_⟩
   by_cases h0:p=0
   ·subst h0;simpa using q3
   ·have:k-p=0:=by omega
    rw[this];simpa using q1
 have lM1:M1.length=k:=by rw[f3.length_eq,List.length_append,l1,l2];omega
 obtain⟨M2,f5,f6,f7,f8⟩:∃ M2,((p<U.length∧k-p<V.length)→callA C0 225 [.osl 0 1 0 N, .int ((a:Int)+k), .int en, .int b, .fn (.func 212) [.own 1 0]] [some (.arr 1 (rowsL (P++(M1++(U.drop p++(V.drop (k-p)++S)))))),some (.box [.i (.isl (intsL cs))])]=some (.tup [],[some (.arr 1 (rowsL (P++(M1++(M2++S))))),some (.box [.i (.isl (intsL cs))])]))∧(¬ (p<U.length∧k-p<V.length)→M2=U.drop p++V.drop (k-p))∧M2.Perm (U.drop p++V.drop (k-p))∧SrtK cs M2:=by
  by_cases h:p<U.length∧k-p<V.length
  ·obtain⟨M2,e1,e2,e3⟩:=ih (P++M1) (U.drop p) (V.drop (k-p)) S (a+k) en b (by omega) (fun e=>by rw[e]at l3;simp at l3;omega) (fun e=>by rw[e]at l4;simp at l4;omega) (by simp only[List.length_append];omega) (by omega) (by omega) (by simp only[List.length_append];omega) q2 q4 (fun r hr'=>hr r (by
    rcases List.mem_append.1 hr' with h|h
    ·exact List.mem_append_left _ (List.mem_of_mem_drop h)
    ·exact List.mem_append_right _ (List.mem_of_mem_drop h)))
   exact⟨M2,fun _=>by simpa using e1,fun n=>absurd h n,e2,e3⟩
  ·refine⟨_,fun h'=>absurd h' h,fun _=>rfl, .refl _,?_⟩
   by_cases h0:p<U.length
   ·rw[List.drop_eq_nil_of_le (show V.length≤k-p by omega)];simpa using q2
   ·rw[List.drop_eq_nil_of_le (show U.length≤p by omega)];simpa using q4
 obtain⟨hfin1,hfin2⟩:=cut_merge f3 f7 f4 f8 hle
 have hrot:(p<U.length∧0<k-p)→callA C0 226 [.osl 0 1 0 N, .int ((a:Int)+p), .int m, .int en, .fn (.func 212) [.own 1 0]] [some (.arr 1 (rowsL (P++(U++(V++S))))),some (.box [.i (.isl (intsL cs))])]=some (.tup [],[some (.arr 1 (rowsL (P++(U.take p++(V.take (k-p)++(U.drop p++(V.drop (k-p)++S))))))),some (.box [.i (.isl (intsL cs))])]):=by
  intro h
  have:=rotate_eq (P++U.take p) (U.drop p) (V.take (k-p)) (V.drop (k-p)++S) cs 212 N (a+p) m en (fun e=>by rw[e]at l3;simp at l3;omega) (fun e=>by rw[e]at l2;simp at l2;omega) (by simp only[List.length_append];omega) (by omega) (by omega) (by simp only[List.length_append];omega) hs
  have e1:P++U.take p++U.drop p++V.take (k-p)++(V.drop (k-p)++S)=P++(U++(V++S)):=by
   rw[List.append_assoc P,List.take_append_drop,List.append_assoc,← List.append_assoc (V.take _),List.take_append_drop,List.append_assoc]
  rw[e1]at this
  simpa using this
 have hL:¬ (p<U.length∧0<k-p)→P++(U++(V++S))=P++(U.take p++(V.take (k-p)++(U.drop p++(V.drop (k-p)++S)))):=by
  intro h
  by_cases h0:p<U.length
  ·have:k-p=0:=by omega
   rw[this];simp only[List.take_zero,List.nil_append,List.drop_zero]
   rw[← List.append_assoc (U.take p),List.take_append_drop]
  ·rw[List.drop_eq_nil_of_le (show U.length≤p by omega),List.take_of_length_le (show U.length≤p by omega)]
   simp only[List.nil_append]
   rw[← List.append_assoc (V.take _),List.take_append_drop]
 refine⟨P++(U.take p++(V.take (k-p)++(U.drop p++(V.drop (k-p)++S)))),P++(M1++(U.drop p++(V.drop (k-p)++S))),M1++M2,hrot,hL,f1,fun h=>?_,fun h=>?_,fun h=>?_,hfin1,hfin2⟩
 ·rw[f2 h,List.append_assoc]
 ·rw[f5 h,List.append_assoc]
 ·rw[f6 h];simp only[List.append_assoc]
theorem sm_nthU {P U V S:List (List Val)} {a h:Nat} {z:List Val} (hP:P.length=a) (hz:U[h]?=some z):nthE (rowsL (P++(U++(V++S)))) (a+h)=some [.isl (valsL z)]:=by
 have hl:=(List.getElem?_eq_some_iff.1 hz).1
 rw[nthE_eq];simp only[rowsL,List.getElem?_map]
 rw[List.getElem?_append_right (by omega),List.getElem?_append_left (by omega),show a+h-P.length=h by omega,hz];rfl
theorem sm_nthV {P U V S:List (List Val)} {a m h:Nat} {z:List Val} (hP:P.length=a) (hm:m=a+U.length) (hz:V[h]?=some z):nthE (rowsL (P++(U++(V++S)))) (m+h)=some [.isl (valsL z)]:=by
 have hl:=(List.getElem?_eq_some_iff.1 hz).1
 rw[nthE_eq];simp only[rowsL,List.getElem?_map]
 rw[List.getElem?_append_right (by omega),List.getElem?_append_right (by omega),List.getElem?_append_left (by omega),show m+h-P.length-U.length=h by omega,hz];rfl
theorem sm_nums {N:Nat} {P U V S:List (List Val)} {a m b k p q:Nat} (hs:N<1000000) (hP:P.length=a) (hm:m=a+U.length) (hb:b=m+V.length) (hN:N=P.length+U.length+V.length+S.length) (hpq:p<q) (hqU:q≤U.length) (hqk:q≤k) (hpV:k-p≤V.length) :
 ∃ h,IntKind.i64.wrap ((IntKind.u64.wrap (IntKind.i64.wrap (((a+p:Nat):Int)+((a+q:Nat):Int)))).fdiv (2 ^ min 1 IntKind.u64.bits))=((a+h:Nat):Int)∧p≤h∧h<q∧(0:Int)≤((a+h:Nat):Int)∧((a+h:Nat):Int)<N∧(0:Int)≤((m+(k-1-h):Nat):Int)∧((m+(k-1-h):Nat):Int)<N∧((a+p:Nat):Int)<((a+q:Nat):Int) ∧
   IntKind.i64.wrap ((a:Int)+k+m-1-((a+h:Nat):Int))=((m+(k-1-h):Nat):Int)∧IntKind.i64.wrap (((a+h:Nat):Int)+1)=((a+(h+1):Nat):Int):=by
 have mm2:=mid64 (i:=a+p) (j:=a+q) (by omega)
 obtain⟨h,hh,hph,hhq⟩:∃ h,(a+p+(a+q)) / 2=a+h∧p≤h∧h<q:=⟨(a+p+(a+q)) / 2-a,by omega,by omega,by omega⟩
 rw[hh]at mm2
 refine⟨h,mm2,hph,hhq,?_⟩
 clear mm2 hh
 refine⟨by omega,by omega,by omega,by omega,by omega,?_,?_⟩
 ·rw[wrap64 (by omega) (by omega)];omega
 ·rw[wrap64 (by omega) (by omega)];omega
theorem sm_conds {N:Nat} {P U V S:List (List Val)} {a m b k p en:Nat} (hs:N<1000000) (hP:P.length=a) (hm:m=a+U.length) (hb:b=m+V.length) (hN:N=P.length+U.length+V.length+S.length) (hp1:p≤U.length) (hp2:p≤k) (hp3:k-p≤V.length) (hen:en=m+(k-p)) (hk:2*k≤U.length+V.length) :
 IntKind.i64.wrap ((a:Int)+k+m-((a:Int)+p))=(en:Int)∧((p<U.length∧0<k-p)→((a:Int)+p<m∧m<en))∧(¬ (p<U.length∧0<k-p)→(¬ (a:Int)+p<m)∨((a:Int)+p<m∧¬ m<en)) ∧
  ((0<p∧p<k)→(0<p∧p<k))∧(¬ (0<p∧p<k)→(¬ 0<p)∨(0<p∧¬ p<k)) ∧
  ((p<U.length∧k-p<V.length)→((a:Int)+k<en∧en<b))∧(¬ (p<U.length∧k-p<V.length)→(¬ (a:Int)+k<en)∨((a:Int)+k<en∧¬ en<b)):=by
 refine⟨?_,fun h=>?_,fun h=>?_,fun h=>h,fun h=>?_,fun h=>?_,fun h=>?_⟩
 ·rw[wrap64 (by omega) (by omega)];omega
 all_goals omega
theorem symMerge_gen (cs:List Int) (N:Nat) (hs:N<1000000) (hcs:cs.length<1000000) (d:Nat) (ih:∀ (P U V S:List (List Val)) (a m b:Nat),U.length+V.length≤d→U≠[]→V≠[]→P.length=a→m=a+U.length→b=m+V.length→N=P.length+U.length+V.length+S.length→SrtK cs U→SrtK cs V→(∀ r∈U++V,∀ c∈cs,0≤c∧c<r.length) →
 ∃ M',callA C0 225 [.osl 0 1 0 N, .int a, .int m, .int b, .fn (.func 212) [.own 1 0]] [some (.arr 1 (rowsL (P++(U++(V++S))))),some (.box [.i (.isl (intsL cs))])]=some (.tup [],[some (.arr 1 (rowsL (P++(M'++S)))),some (.box [.i (.isl (intsL cs))])])∧M'.Perm (U++V)∧SrtK cs M')
 (P U V S:List (List Val)) (a m b k lo hi:Nat) (c140:Bool) (hd:U.length+V.length≤d+1) (hU:2≤U.length) (hV:2≤V.length) (hP:P.length=a) (hm:m=a+U.length) (hb:b=m+V.length) (hN:N=P.length+U.length+V.length+S.length) (hsU:SrtK cs U) (hsV:SrtK cs V) (hr:∀ r∈U++V,∀ c∈cs,0≤c∧c<r.length)
 (hk:2*k≤U.length+V.length) (hk':U.length+V.length≤2*k+1) (hlh1:lo≤hi) (hlh2:hi≤U.length) (hlh3:hi≤k) (hlh4:k-lo≤V.length) (hlo:lo=0∨k-lo=V.length) (hhi:k-hi=0∨hi=U.length)
 (hc:(c140=true∧(a:Int)+k<m∧(a:Int)+k+m-b=(a:Int)+lo∧hi=k)∨(c140=false∧¬ (a:Int)+k<m∧lo=0∧m=a+hi)) :
 ∃ M',callA C0 225 [.osl 0 1 0 N, .int a, .int m, .int b, .fn (.func 212) [.own 1 0]] [some (.arr 1 (rowsL (P++(U++(V++S))))),some (.box [.i (.isl (intsL cs))])]=some (.tup [],[some (.arr 1 (rowsL (P++(M'++S)))),some (.box [.i (.isl (intsL cs))])])∧M'.Perm (U++V)∧SrtK cs M':=by
 have w1:IntKind.i64.wrap ((m:Int)-a)=(U.length:Int):=by rw[wrap64 (by omega) (by omega)];omega
 have w2:IntKind.i64.wrap ((b:Int)-m)=(V.length:Int):=by rw[wrap64 (by omega) (by omega)];omega
 have n1:¬ (U.length:Int)=1:=by omega
 have n1':¬ U.length=1:=by omega
 have n2:¬ (V.length:Int)=1:=by omega
 have n2':¬ V.length=1:=by omega
 have mm:=mid64 (i:=a) (j:=b) (by omega)
 rw[show(a+b) / 2=a+k by clear hc;omega]at mm
 have w3:IntKind.i64.wrap ((a:Int)+k+m)=(a:Int)+k+m:=wrap64 (by clear hc mm;omega) (by clear hc mm;omega)
 have w4:IntKind.i64.wrap ((a:Int)+k+m-1)=(a:Int)+k+m-1:=wrap64 (by clear hc mm;omega) (by clear hc mm;omega)
 have w5:IntKind.i64.wrap ((a:Int)+k+m-b)=(a:Int)+k+m-b:=wrap64 (by clear hc mm;omega) (by clear hc mm;omega)
 rw[callA_eq rfl Tryz.func225 rfl rfl]
 rcases hc with ⟨hc,gI,g3,g4⟩|⟨hc,gI,g3,g4⟩
 all_goals
  simp[w1,w2,n1,n1',n2,n2',mm,w3,w4,w5,gI]
  generalize hX:execA C0 _ _ (Code.loop _) _=X
  have key:∃ rr,X=some rr∧∃ (p:Nat) (n23 n171:Nat) (h23:Int) (c171:Bool),rr=(.exit 8,SMX (P++(U++(V++S))) (some (.box [.i (.isl (intsL cs))])) N a m b k ((a+p:Nat):Int) ((a+p:Nat):Int) c140 n23 h23 1 false n171 c171)∧p≤U.length∧p≤k∧k-p≤V.length ∧
   (∀ x∈U.take p++V.take (k-p),∀ y∈U.drop p++V.drop (k-p),LeK cs x y):=by
   rw[← hX]
   clear mm w1 w2 w3 w4 w5 ih hX
   refine sm_search hsU hsV hlh1 hlh2 hlh3 hlh4 hlo hhi ?_ ?_ ?_
   ·first
    | (simp[SMX,hc,n1,n1',n2,n2',g3,g4];done)
    | (simp[SMX,hc,n1,n1',n2,n2',g3,← g4];done)
    | (simp[SMX,hc,n1,n1',n2,n2',g3];omega)
   ·intro p q n23 n151 n171 h23 c151 c171 hpq hp0 hq0
    obtain⟨h,mm2,hph,hhq,hH0,hH1,hK0,hK1,hiI,wc,hw⟩:=sm_nums (N:=N) (P:=P) (U:=U) (V:=V) (S:=S) (a:=a) (m:=m) (b:=b) (k:=k) (p:=p) (q:=q) hs hP hm hb hN hpq (by omega) (by omega) (by omega)
    have hz:=List.getElem?_eq_getElem (l:=U) (show h<U.length by omega)
    have hy:=List.getElem?_eq_getElem (l:=V) (show k-1-h<V.length by omega)
    have hrz:=hr _ (List.mem_append_left _ (List.mem_of_getElem? hz))
    have hry:=hr _ (List.mem_append_right _ (List.mem_of_getElem? hy))
    refine⟨h,hph,hhq,?_⟩
    rw[hz,hy]
    simp only[Option.getD_some]
    have hzz:=sm_nthU (P:=P) (V:=V) (S:=S) hP hz
    have hyy:=sm_nthV (P:=P) (S:=S) hP hm hy
    generalize U[h]=z at hz hrz hzz ⊢
    generalize V[k-1-h]=y at hy hry hyy ⊢
    have hg:=gcmp_eq cs hcs y z hry hrz
    clear hz hy hrz hry hsU hsV hr
    generalize ((a+p:Nat):Int)=I at *
    generalize ((a+q:Nat):Int)=J at *
    generalize ((a+(h+1):Nat):Int)=L at *
    generalize a+h=H at *
    generalize m+(k-1-h)=K at *
    refine⟨fun hlt=>?_,fun hlt=>?_⟩
    ·simp[SMX,hiI,mm2,wc,hH0,hH1,hK0,hK1,hzz,hyy,hg,hlt,hw]
    ·simp[SMX,hiI,mm2,wc,hH0,hH1,hK0,hK1,hzz,hyy,hg,hlt,hw]
   ·intro p n23 n151 n171 h23 c151 c171
    simp[SMX]
  clear hX
  obtain⟨rr,rfl,p,n23,n171,h23,c171,rfl,hp1,hp2,hp3,hle⟩:=key
  obtain⟨en,hen⟩:∃ en,en=m+(k-p):=⟨_,rfl⟩
  obtain⟨L1,L2,M,f1,f2,f3,f4,f5,f6,f7,f8⟩:=sm_parts hs ih hd hU hV hP hm hb hN hsU hsV hr hk hk' hp1 hp2 hp3 hen hle
  refine⟨M,?_,f7,f8⟩
  obtain⟨we,c1,c1',c2,c2',c3,c3'⟩:=sm_conds (N:=N) (P:=P) (U:=U) (V:=V) (S:=S) (a:=a) (m:=m) (b:=b) (k:=k) (p:=p) (en:=en) hs hP hm hb hN hp1 hp2 hp3 hen hk
  clear ih hle hr hsU hsV mm w1 w2 w3 w4 w5 hlo hhi f7 f8
  have hm2:0<U.length:=by omega
  have hV2:0<V.length:=by omega
  by_cases hA:p<U.length
  ·by_cases hB:0<k-p
   ·obtain⟨x1,y1⟩:=c1 ⟨hA,hB⟩
    have y1':(m:Int)<en:=by omega
    have e1:=f1 ⟨hA,hB⟩
    have pk:p<k:=by omega
    have pk':(p:Int)<k:=by omega
    have x2:(a:Int)+k<en:=by
     by_cases hq:k-p<V.length
     ·exact(c3 ⟨hA,hq⟩).1
     ·rcases c3' (fun h=>hq h.2)with h|h
      ·omega
      ·exact h.1
    clear f1 f2 c1 c1'
    by_cases hp:0<p
    ·have e2:=f3 ⟨hp,pk⟩
     have hp':(0:Int)<p:=by omega
     have ap:(a:Int)<(a:Int)+p:=by omega
     have akp:(a:Int)+p<(a:Int)+k:=by omega
     by_cases hq:k-p<V.length
     ·have e3:=f5 ⟨hA,hq⟩
      have z2:en<b:=(c3 ⟨hA,hq⟩).2 |> fun h=>by omega
      have z2':(en:Int)<b:=by omega
      simp[SMX,hc,we,x1,x2,y1,y1',hp,hp',ap,akp,pk,pk',e1,e2,e3,z2,z2']
     ·have e3:=f6 fun h=>hq h.2
      have z2:¬ en<b:=by rcases c3' (fun h=>hq h.2)with h|h<;>omega
      have z2':¬ (en:Int)<b:=by omega
      subst e3
      simp[SMX,hc,we,x1,x2,y1,y1',hp,hp',ap,akp,pk,pk',e1,e2,z2,z2']
    ·have e2:=f4 fun h=>hp h.1
     have hp':¬ (0:Int)<p:=by omega
     have ap:¬ (a:Int)<(a:Int)+p:=by omega
     have akp:(a:Int)+p<(a:Int)+k:=by omega
     subst e2
     by_cases hq:k-p<V.length
     ·have e3:=f5 ⟨hA,hq⟩
      have z2:en<b:=(c3 ⟨hA,hq⟩).2 |> fun h=>by omega
      have z2':(en:Int)<b:=by omega
      simp[SMX,hc,we,x1,x2,y1,y1',hp,hp',ap,akp,e1,e3,z2,z2']
     ·have e3:=f6 fun h=>hq h.2
      have z2:¬ en<b:=by rcases c3' (fun h=>hq h.2)with h|h<;>omega
      have z2':¬ (en:Int)<b:=by omega
      subst e3
      simp[SMX,hc,we,x1,x2,y1,y1',hp,hp',ap,akp,e1,z2,z2']
   ·have e1:=f2 fun h=>hB h.2
    have x1:(a:Int)+p<m:=by omega
    have y1:¬ m<en:=by omega
    have y1':¬ (m:Int)<en:=by omega
    have hp:0<p:=by omega
    have hp':(0:Int)<p:=by omega
    have ap:(a:Int)<(a:Int)+p:=by omega
    have akp:¬ (a:Int)+p<(a:Int)+k:=by omega
    have pk:¬ p<k:=by omega
    have pk':¬ (p:Int)<k:=by omega
    have e2:=f4 fun h=>pk h.2
    have e3:=f5 ⟨hA,by omega⟩
    have x2:(a:Int)+k<en:=by omega
    have z2:en<b:=by omega
    have z2':(en:Int)<b:=by omega
    subst e2
    rw[← e1]at e3
    clear f1 f2 f3 f4 f5 f6 c1 c1' c2 c2' c3 c3'
    simp[SMX,hc,we,x1,x2,y1,y1',hp,hp',ap,akp,pk,pk',e3,z2,z2']
  ·have e1:=f2 fun h=>hA h.1
   have x1:¬ (a:Int)+p<m:=by omega
   have hp:0<p:=by omega
   have hp':(0:Int)<p:=by omega
   have ap:(a:Int)<(a:Int)+p:=by omega
   have x2:¬ (a:Int)+k<en:=by omega
   have e3:=f6 fun h=>hA h.1
   subst e3
   subst e1
   by_cases pk:p<k
   ·have pk':(p:Int)<k:=by omega
    have akp:(a:Int)+p<(a:Int)+k:=by omega
    have e2:=f3 ⟨hp,pk⟩
    clear f1 f2 f3 f4 f5 f6 c1 c1' c2 c2' c3 c3'
    simp[SMX,hc,we,x1,x2,hp,hp',ap,akp,pk,pk',e2]
   ·have pk':¬ (p:Int)<k:=by omega
    have akp:¬ (a:Int)+p<(a:Int)+k:=by omega
    have e2:=f4 fun h=>pk h.2
    clear f1 f2 f3 f4 f5 f6 c1 c1' c2 c2' c3 c3'
    simp[SMX,hc,we,x1,x2,hp,hp',ap,akp,pk,pk',e2]
theorem symMerge_eq (cs:List Int) (N:Nat) (hs:N<1000000) (hcs:cs.length<1000000):∀ (d:Nat) (P U V S:List (List Val)) (a m b:Nat),U.length+V.length≤d→U≠[]→V≠[]→P.length=a→m=a+U.length→b=m+V.length→N=P.length+U.length+V.length+S.length→SrtK cs U→SrtK cs V→(∀ r∈U++V,∀ c∈cs,0≤c∧c<r.length) →
 ∃ M',callA C0 225 [.osl 0 1 0 N, .int a, .int m, .int b, .fn (.func 212) [.own 1 0]] [some (.arr 1 (rowsL (P++(U++(V++S))))),some (.box [.i (.isl (intsL cs))])]=some (.tup [],[some (.arr 1 (rowsL (P++(M'++S)))),some (.box [.i (.isl (intsL cs))])])∧M'.Perm (U++V)∧SrtK cs M':=by
 intro d
 induction d with
 | zero=>intro P U V S a m b hd hU;exact absurd (List.length_eq_zero_iff.1 (by omega)) hU
 | succ d ih =>
  intro P U V S a m b hd hU hV hP hm hb hN hsU hsV hr
  have hU0:=List.length_pos_iff.2 hU
  have hV0:=List.length_pos_iff.2 hV
  by_cases h1:U.length=1
  ·obtain⟨x,rfl⟩:=List.length_eq_one_iff.1 h1
   obtain⟨M',e1,e2,e3⟩:=symMerge1 P V S x cs N a b hP (by simpa using by omega) (by simp at hN;omega) hs hcs hsV (hr x (by simp)) fun r hr'=>hr r (by simp[hr'])
   have:(m:Int)=(a:Int)+1:=by simp at hm;omega
   refine⟨M',?_,by simpa using e2,e3⟩
   rw[this]
   simpa using e1
  by_cases h2:V.length=1
  ·obtain⟨x,rfl⟩:=List.length_eq_one_iff.1 h2
   obtain⟨M',e1,e2,e3⟩:=symMerge2 P U S x cs N a m h1 hP hm (by simp at hN;omega) hs hcs hsU (hr x (by simp)) fun r hr'=>hr r (by simp[hr'])
   have:(b:Int)=(m:Int)+1:=by simp at hb;omega
   refine⟨M',?_,e2.trans (by simpa using (List.perm_append_comm (l₁:=[x]) (l₂:=U))),e3⟩
   rw[this]
   simpa using e1
  obtain⟨k,hk,hk'⟩:∃ k,2*k≤U.length+V.length∧U.length+V.length≤2*k+1:=⟨(U.length+V.length) / 2,by omega,by omega⟩
  by_cases hgt:k<U.length
  ·exact symMerge_gen cs N hs hcs d ih P U V S a m b k (k-V.length) k true hd (by omega) (by omega) hP hm hb hN hsU hsV hr hk hk' (by omega) (by omega) (by omega) (by omega) (by omega) (by omega) (.inl ⟨rfl,by omega,by omega,rfl⟩)
  ·exact symMerge_gen cs N hs hcs d ih P U V S a m b k 0 U.length false hd (by omega) (by omega) hP hm hb hN hsU hsV hr hk hk' (by omega) (by omega) (by omega) (by omega) (by omega) (by omega) (.inr ⟨rfl,by omega,rfl,hm⟩)
def ST1 (l:List (List Val)) (kb:Option Blk) (N:Nat) (a:Nat) (g:AV):AS :=
 { env:=[(0, .osl 0 1 0 N),(1, .int N),(2, .fn (.func 212) [.own 1 0]),(6, .int 20),(7, .int a),(8, .int ((a:Int)+20)),(9, .junk),(13,g),(30, .junk),(35, .junk),(54, .junk)],st:=[some (.arr 1 (rowsL l)),kb] }
def ST2 (l:List (List Val)) (kb:Option Blk) (N:Nat) (k:Nat) (v7 v8 v9 v30 v35 v54:AV):AS :=
 { env:=[(0, .osl 0 1 0 N),(1, .int N),(2, .fn (.func 212) [.own 1 0]),(6, .int k),(7,v7),(8,v8),(9,v9),(13, .bool false),(30,v30),(35,v35),(54,v54)],st:=[some (.arr 1 (rowsL l)),kb] }
theorem stable_eq (rows:List (List Val)) (cs:List Int) (N:Nat) (hN:N=rows.length) (hs:N<1000000) (hcs:cs.length<1000000) (hr:∀ r∈rows,∀ c∈cs,0≤c∧c<r.length) :
 ∃ M',callA C0 223 [.osl 0 1 0 N, .int N, .fn (.func 212) [.own 1 0]] [some (.arr 1 (rowsL rows)),some (.box [.i (.isl (intsL cs))])]=some (.tup [],[some (.arr 1 (rowsL M')),some (.box [.i (.isl (intsL cs))])])∧M'.Perm rows∧SrtK cs M':=by
 rw[callA_eq rfl Tryz.func223 rfl rfl]
 simp
 generalize hX:execA C0 _ _ (Code.loop _) _=X
 have key:∃ rr,X=some rr∧∃ (A B:List (List Val)),rr=(.exit 0,ST1 (A++B) (some (.box [.i (.isl (intsL cs))])) N A.length (.bool false))∧(A++B).Perm rows∧Full cs 20 A∧B.length<20:=by
  rw[← hX]
  refine loop_wf (fun d St=>∃ (A B:List (List Val)) (g:AV),St=ST1 (A++B) (some (.box [.i (.isl (intsL cs))])) N A.length g∧(g=.junk∨g=.bool true)∧(A++B).Perm rows∧Full cs 20 A∧d=B.length) ?_ _ _ ⟨[],rows, .junk,by simp[ST1], .inl rfl,by simp,Full.nil _ _,rfl⟩
  rintro d St ⟨A,B,g,rfl,hg,hp,hf,hd⟩
  have hl:=hp.length_eq
  simp only[List.length_append]at hl
  by_cases h20:20≤B.length
  ·left
   have hi:=insertionSort_eq A (B.take 20) (B.drop 20) cs N A.length (A.length+20) rfl (by simp;omega) (by simp;omega) hs hcs (fun r hr'=>hr r (hp.mem_iff.1 (List.mem_append_right _ (List.mem_of_mem_take hr'))))
   obtain⟨M',e1,e2,e3⟩:=hi
   simp at e1
   have hle:(A.length:Int)+20≤N:=by omega
   have hle':A.length+20≤N:=by omega
   have w1:IntKind.i64.wrap ((A.length:Int)+20+20)=(A.length:Int)+20+20:=wrap64 (by omega) (by omega)
   have hml:M'.length=20:=by rw[e2.length_eq];simp;omega
   refine⟨ST1 ((A++M')++B.drop 20) (some (.box [.i (.isl (intsL cs))])) N (A++M').length (.bool true),(B.drop 20).length,?_,by simp;omega,A++M',B.drop 20, .bool true,rfl, .inr rfl,?_,hf.snoc hml e3,rfl⟩
   ·rcases hg with rfl|rfl<;>simp[ST1,hle,hle',e1,w1,hml]
   ·refine List.Perm.trans ?_ hp
    rw[List.append_assoc]
    refine List.Perm.append_left A ?_
    have:=e2.append_right (B.drop 20)
    rwa [List.take_append_drop]at this
  ·right
   have hnl:¬ (A.length:Int)+20≤N:=by omega
   have hnl':¬ A.length+20≤N:=by omega
   refine⟨.exit 0,ST1 (A++B) (some (.box [.i (.isl (intsL cs))])) N A.length (.bool false),?_,by simp,A,B,rfl,hp,hf,by omega⟩
   rcases hg with rfl|rfl<;>simp[ST1,hnl,hnl']
 obtain⟨rr,rfl,A,B,rfl,hp,hf,hB⟩:=key
 have hl:=hp.length_eq
 simp only[List.length_append]at hl
 obtain⟨M0,e1,e2,e3⟩:=insertionSort_eq A B [] cs N A.length N rfl (by omega) (by simp;omega) hs hcs (fun r hr'=>hr r (hp.mem_iff.1 (List.mem_append_right _ hr')))
 simp only[List.append_nil]at e1
 have hp2:(A++M0).Perm rows:=(List.Perm.append_left A e2).trans hp
 have hb2:Bk cs 20 (A++M0):=hf _ (.last (by rw[e2.length_eq];omega) e3)
 clear hX hf e2 e3 hB
 simp[ST1,e1]
 generalize hX:execA C0 _ _ (Code.loop _) _=X
 have key:∃ rr,X=some rr∧∃ (l:List (List Val)) (k:Nat) (v7 v8 v9 v35 v54:AV),rr=(.exit 2,ST2 l (some (.box [.i (.isl (intsL cs))])) N k v7 v8 v9 (.bool false) v35 v54)∧l.Perm rows∧SrtK cs l:=by
  rw[← hX]
  refine loop_wf (fun d St=>∃ (l:List (List Val)) (k:Nat) (v7 v8 v9 v30 v35 v54:IV) (n9 n30:Nat),St=ST2 l (some (.box [.i (.isl (intsL cs))])) N k (.i v7) (.i v8) (jk n9 v9) (jk n30 v30) (jk n9 v35) (jk n9 v54)∧l.Perm rows∧0<k∧k<4000000∧Bk cs k l∧d=2000000-k) ?_ _ _ ⟨A++M0,20, .int A.length, .int ((A.length:Int)+20), .int 0, .int 0, .int 0, .int 0,0,0,by simp[ST2],hp2,by omega,by omega,hb2,rfl⟩
  rintro d St ⟨l,k,v7,v8,v9,v30,v35,v54,n9,n30,rfl,hpl,hk0,hk1,hb,hd⟩
  by_cases hkN:k<N
  ·left
   have hkI:(k:Int)<N:=by omega
   obtain⟨K2,hK2⟩:∃ K2,K2=2*k:=⟨_,rfl⟩
   have w2k:IntKind.i64.wrap (2*(k:Int))=(K2:Int):=by rw[wrap64 (by omega) (by omega)];omega
   have wk2:IntKind.i64.wrap ((k:Int)*2)=(K2:Int):=by rw[wrap64 (by omega) (by omega)];omega
   have hlN:=hpl.length_eq
   obtain⟨Q0,hQ⟩:∃ Q0:AS→Prop,∀ S1,Q0 S1↔∃ (l':List (List Val)) (v7 v8 v9 v35 v54:IV),S1=ST2 l' (some (.box [.i (.isl (intsL cs))])) N K2 (.i v7) (.i v8) (.i v9) (.bool true) (.i v35) (.i v54)∧l'.Perm rows∧Bk cs K2 l':=⟨fun S1=>_,fun S1=>Iff.rfl⟩
   refine step_of Q0 ?_ (fun S1 hS1=>by
    obtain⟨l',v7,v8,v9,v35,v54,rfl,e1,e2⟩:=(hQ S1).1 hS1
    exact⟨2000000-K2,by omega,l',K2,v7,v8,v9, .bool true,v35,v54,1,1,rfl,e1,by omega,by omega,e2,rfl⟩)
   simp[ST2,hkI,w2k]
   generalize hY:execA C0 _ _ (Code.loop _) _=Y
   have key2:∃ rr,Y=some rr∧∃ (A B:List (List Val)),rr=(.exit 4,ST2 (A++B) (some (.box [.i (.isl (intsL cs))])) N k (.int A.length) (.int ((A.length:Int)+K2)) (jk n9 v9) (.bool true) (.bool false) (jk n9 v54))∧(A++B).Perm rows∧Full cs K2 A∧Bk cs k B∧B.length<K2:=by
    rw[← hY]
    refine loop_wf (fun d St=>∃ (A B:List (List Val)) (g:AV),St=ST2 (A++B) (some (.box [.i (.isl (intsL cs))])) N k (.int A.length) (.int ((A.length:Int)+K2)) (jk n9 v9) (.bool true) g (jk n9 v54)∧(g=jk n9 v35∨g=.bool true)∧(A++B).Perm rows∧Full cs K2 A∧Bk cs k B∧d=B.length) ?_ _ _ ⟨[],l,jk n9 v35,by simp[ST2], .inl rfl,by simpa using hpl,Full.nil _ _,hb,rfl⟩
    rintro d St ⟨A,B,g,rfl,hg,hp,hf,hbB,hd⟩
    have hl:=hp.length_eq
    simp only[List.length_append]at hl
    by_cases h20:K2≤B.length
    ·left
     obtain⟨c,c2,l',rfl,hc1,hc2,s1,s2,hb'⟩:=hbB.pair hk0 (by omega)
     simp only[List.length_append]at hl h20
     obtain⟨M',e1,e2,e3⟩:=symMerge_eq cs N hs hcs _ A c c2 l' A.length (A.length+k) (A.length+K2) (Nat.le_refl _) (fun e=>by rw[e]at hc1;simp at hc1;omega) (fun e=>by rw[e]at hc2;simp at hc2;omega) rfl (by omega) (by omega) (by omega) s1 s2 (fun r hr'=>hr r (hp.mem_iff.1 (by
      rcases List.mem_append.1 hr' with h|h<;>simp[h])))
     simp at e1
     have hle:(A.length:Int)+K2≤N:=by omega
     have hle':A.length+K2≤N:=by omega
     have hml:M'.length=K2:=by rw[e2.length_eq];simp;omega
     have w0:IntKind.i64.wrap ((A.length:Int)+k)=(A.length:Int)+k:=wrap64 (by omega) (by omega)
     have w1:IntKind.i64.wrap ((A.length:Int)+K2+K2)=(A.length:Int)+K2+K2:=wrap64 (by omega) (by omega)
     have hmI:(M'.length:Int)=K2:=by omega
     refine⟨ST2 ((A++M')++l') (some (.box [.i (.isl (intsL cs))])) N k (.int (A++M').length) (.int (((A++M').length:Int)+K2)) (jk n9 v9) (.bool true) (.bool true) (jk n9 v54),l'.length,?_,by rw[hd];simp;omega,A++M',l', .bool true,rfl, .inr rfl,?_,hf.snoc hml e3,hb',rfl⟩
     ·rcases hg with rfl|rfl<;>simp[ST2,hle,hle',e1,w0,w1,w2k,hmI]
     ·refine List.Perm.trans ?_ hp
      rw[List.append_assoc]
      refine List.Perm.append_left A ?_
      rw[← List.append_assoc]
      exact e2.append_right l'
    ·right
     have hnl:¬ (A.length:Int)+K2≤N:=by omega
     have hnl':¬ A.length+K2≤N:=by omega
     refine⟨.exit 4,ST2 (A++B) (some (.box [.i (.isl (intsL cs))])) N k (.int A.length) (.int ((A.length:Int)+K2)) (jk n9 v9) (.bool true) (.bool false) (jk n9 v54),?_,by simp,A,B,rfl,hp,hf,hbB,by omega⟩
     rcases hg with rfl|rfl<;>simp[ST2,hnl,hnl']
   clear hY
   obtain⟨rr,rfl,A,B,rfl,hp3,hf3,hb3,hB3⟩:=key2
   have hl:=hp3.length_eq
   simp only[List.length_append]at hl
   have w0:IntKind.i64.wrap ((A.length:Int)+k)=(A.length:Int)+k:=wrap64 (by omega) (by omega)
   by_cases htl:k<B.length
   ·obtain⟨c,l',rfl,hc1,s1,hb'⟩:=hb3.two hk0 htl
    simp only[List.length_append]at hl htl hB3
    have s2:=hb'.one (by omega)
    obtain⟨M',e1,e2,e3⟩:=symMerge_eq cs N hs hcs _ A c l' [] A.length (A.length+k) N (Nat.le_refl _) (fun e=>by rw[e]at hc1;simp at hc1;omega) (fun e=>by rw[e]at htl;simp at htl;omega) rfl (by omega) (by omega) (by simp;omega) s1 s2 (fun r hr'=>hr r (hp3.mem_iff.1 (by
     rcases List.mem_append.1 hr' with h|h<;>simp[h])))
    simp at e1
    have hlt:(A.length:Int)+k<N:=by omega
    have hlt':A.length+k<N:=by omega
    simp[ST2,w0,hlt,hlt',e1,wk2]
    rw[hQ]
    refine⟨A++M',_,_,_,_,_,rfl,(List.Perm.append_left A e2).trans hp3,hf3 _ (.last (by rw[e2.length_eq];simp;omega) e3)⟩
   ·have hnl:¬ (A.length:Int)+k<N:=by omega
    have hnl':¬ A.length+k<N:=by omega
    simp[ST2,w0,hnl,hnl',wk2]
    rw[hQ]
    exact⟨A++B,_,_,_,_,_,rfl,hp3,hf3 _ (.last (by omega) (hb3.one (by omega)))⟩
  ·right
   have hkI:¬ (k:Int)<N:=by omega
   refine⟨.exit 2,ST2 l (some (.box [.i (.isl (intsL cs))])) N k (.i v7) (.i v8) (jk n9 v9) (.bool false) (jk n9 v35) (jk n9 v54),?_,by simp,l,k,_,_,_,_,_,rfl,hpl,hb.one (by rw[hpl.length_eq];omega)⟩
   simp[ST2,hkI,hkN]
 obtain⟨rr,rfl,l,k,v7,v8,v9,v35,v54,rfl,hpl,hsl⟩:=key
 exact⟨l,by simp[ST2],hpl,hsl⟩
theorem sortStable_eq (rows:List (List Val)) (cs:List Int) (N:Nat) (hN:N=rows.length) (hs:N<1000000) (hcs:cs.length<1000000) (hr:∀ r∈rows,∀ c∈cs,0≤c∧c<r.length) :
 ∃ M',callA C0 213 [.osl 0 1 0 N, .fn (.func 212) [.own 1 0]] [some (.arr 1 (rowsL rows)),some (.box [.i (.isl (intsL cs))])]=some (.tup [],[some (.arr 1 (rowsL M')),some (.box [.i (.isl (intsL cs))])])∧M'.Perm rows∧SrtK cs M':=by
 obtain⟨M',e1,e2,e3⟩:=stable_eq rows cs N hN hs hcs hr
 refine⟨M',?_,e2,e3⟩
 rw[callA_eq rfl Tryz.func213 rfl rfl]
 simp[e1]
end Go.Proofs.YtiailccmofdhfaaGreat
namespace Go.Av
def grpsL (gs:List (List (List Val))):List (List IV):=gs.map fun g=>[.isl (rowsL g)]
@[simp] theorem grpsL_length (gs:List (List (List Val))):(grpsL gs).length=gs.length:=by simp[grpsL]
theorem grpsL_nth {gs:List (List (List Val))} {i:Nat} {g:List (List Val)} (h:gs[i]?=some g):nthE (grpsL gs) i=some [.isl (rowsL g)]:=by
 rw[nthE_eq];simp[grpsL,h]
def litsV (vs:List Value):List (List IV):=vs.map fun v=>[.lit v]
@[simp] theorem litsV_length (vs:List Value):(litsV vs).length=vs.length:=by simp[litsV]
theorem litsV_append (a b:List Value):litsV (a++b)=litsV a++litsV b:=by simp[litsV]
theorem litsV_last (vs:List Value) (v:Value) {n:Nat} (h:n=vs.length):nthE (litsV (vs++[v])) n=some [.lit v]:=by
 subst h;rw[nthE_eq];simp[litsV]
theorem litsV_set (vs:List Value) (v u:Value) {n:Nat} (h:n=vs.length):(litsV (vs++[v])).set n [.lit u]=litsV (vs++[u]):=by
 subst h;simp[litsV]
theorem litsV_flat:∀ (vs:List Value),(litsV vs).flatten=vs.map IV.lit
 | []=>rfl
 | v::vs=>by simp[litsV,← litsV_flat vs]
theorem litsV_icells {m:Mem}:∀ {vs us:List Value},ICells m (vs.map IV.lit) us→us=vs
 | [],_, .nil=>rfl
 | v::vs,_, .cons a _ b=>by cases a;rw[litsV_icells b]
structure GB (wi w:World) (m:Mem) (φ:Pl) (v:Value) (g:List (List Val)) (b:Nat):Prop where
 ex:∃ (cap:Nat) (us:List Value) (T:TypeId),v=.slice (some ⟨b,0,none⟩) g.length cap∧g.length≤cap∧cap≤us.length∧w.heap[b]?=some (.cells us.toArray T (0,0))∧(∀ u∈us,u.oneCell'=true)∧ICells m (rowsL g).flatten (us.take g.length)
 ne:g≠[]
 new:wi.heap.size≤b
 free:Free φ b
 nom:∀ o,m b o=none
section
variable {wi w w':World} {m m':Mem} {φ φ':Pl} {v:Value} {g:List (List Val)} {b:Nat}
theorem GB.lt (h:GB wi w m φ v g b):b<w.heap.size:=by
 obtain⟨cap,us,T,_,_,_,h4,_⟩:=h.ex
 exact(Array.getElem?_eq_some_iff.1 h4).1
theorem GB.to (h:GB wi w m φ v g b) (hw:w'.heap[b]?=w.heap[b]?) (hm:MLe m m') (hf:Free φ' b) (hn:∀ o,m' b o=m b o):GB wi w' m' φ' v g b:=by
 obtain⟨cap,us,T,h1,h2,h3,h4,h5,h6⟩:=h.ex
 exact⟨⟨cap,us,T,h1,h2,h3,hw.trans h4,h5,h6.mono hm⟩,h.ne,h.new,hf,fun o=>(hn o).trans (h.nom o)⟩
theorem GB.adv (h:GB wi w m φ v g b) (ha:Adv w m φ w' m' φ'):GB wi w' m' φ' v g b :=
 h.to (ha.block b h.lt h.free) ha.mle (ha.range h.lt h.free) (ha.mnew b h.lt h.free)
end
structure GPS (wi:World) (vs:List Value) (gs:List (List (List Val))) (bs:List Nat) (w:World) (m:Mem) (φ:Pl):Prop where
 l1:gs.length=vs.length
 l2:bs.length=vs.length
 nd:bs.Nodup
 at_:∀ (i:Nat) (v:Value) (g:List (List Val)) (b:Nat),vs[i]?=some v→gs[i]?=some g→bs[i]?=some b→GB wi w m φ v g b
section
variable {wi w w':World} {m m':Mem} {φ φ':Pl} {vs:List Value} {gs:List (List (List Val))} {bs:List Nat} {v:Value} {g:List (List Val)} {b:Nat}
theorem GPS.nil:GPS wi [] [] [] w m φ:=⟨rfl,rfl, .nil,fun i v g b h=>by simp at h⟩
theorem GPS.mem (h:GPS wi vs gs bs w m φ) (hb:b∈bs):∃ v g,GB wi w m φ v g b:=by
 obtain⟨i,hi⟩:=List.getElem?_of_mem hb
 have hl:=(List.getElem?_eq_some_iff.1 hi).1
 exact⟨_,_,h.at_ i _ _ b (List.getElem?_eq_getElem (by rw[← h.l2];exact hl)) (List.getElem?_eq_getElem (by rw[h.l1,← h.l2];exact hl)) hi⟩
theorem GPS.stab (wi:World) (vs:List Value) (gs:List (List (List Val))) (bs:List Nat):Stab (GPS wi vs gs bs):=fun _ _ _ _ _ _ ha h =>
 ⟨h.l1,h.l2,h.nd,fun i v g b e1 e2 e3=>(h.at_ i v g b e1 e2 e3).adv ha⟩
theorem GPS.keep (ids:List Nat) (h:GPS wi vs gs bs w m φ):GPS wi vs gs bs w m (keepP ids φ):=by
 refine⟨h.l1,h.l2,h.nd,fun i v g b e1 e2 e3=>?_⟩
 have k:=h.at_ i v g b e1 e2 e3
 refine k.to rfl (.refl _) (fun id r n e=>?_) fun _=>rfl
 unfold keepP at e
 cases hx:ids[id]? with
 | none=>rw[hx]at e;cases e
 | some j=>rw[hx]at e;exact k.free j r n e
theorem GPS.snoc (h:GPS wi vs gs bs w m φ) (k:GB wi w m φ v g b) (hn:b ∉ bs):GPS wi (vs++[v]) (gs++[g]) (bs++[b]) w m φ:=by
 refine⟨by simp[h.l1],by simp[h.l2],?_,fun i v' g' b' e1 e2 e3=>?_⟩
 ·rw[List.nodup_append]
  exact⟨h.nd,by simp,fun x hx y hy e=>by simp at hy;subst hy;subst e;exact hn hx⟩
 ·by_cases hi:i<vs.length
  ·rw[List.getElem?_append_left hi]at e1
   rw[List.getElem?_append_left (by rw[h.l1];exact hi)]at e2
   rw[List.getElem?_append_left (by rw[h.l2];exact hi)]at e3
   exact h.at_ i v' g' b' e1 e2 e3
  ·have hl:=(List.getElem?_eq_some_iff.1 e1).1
   have:i=vs.length:=by simp at hl;omega
   subst this
   rw[List.getElem?_append_right (Nat.le_refl _)]at e1
   rw[List.getElem?_append_right (by rw[h.l1];exact Nat.le_refl _),h.l1]at e2
   rw[List.getElem?_append_right (by rw[h.l2];exact Nat.le_refl _),h.l2]at e3
   simp at e1 e2 e3
   subst e1;subst e2;subst e3
   exact k
theorem GPS.unsnoc (h:GPS wi (vs++[v]) (gs++[g]) (bs++[b]) w m φ):GPS wi vs gs bs w m φ∧GB wi w m φ v g b∧b ∉ bs:=by
 have l1:gs.length=vs.length:=by have:=h.l1;simpa using this
 have l2:bs.length=vs.length:=by have:=h.l2;simpa using this
 have nd:=List.nodup_append.1 h.nd
 refine⟨⟨l1,l2,nd.1,fun i v' g' b' e1 e2 e3=>?_⟩,?_,fun hb=>nd.2.2 b hb b (by simp) rfl⟩
 ·have hi:=(List.getElem?_eq_some_iff.1 e1).1
  exact h.at_ i v' g' b' (by rw[List.getElem?_append_left hi];exact e1) (by rw[List.getElem?_append_left (by omega)];exact e2) (by rw[List.getElem?_append_left (by omega)];exact e3)
 ·refine h.at_ vs.length v g b ?_ ?_ ?_
  ·simp
  ·rw[← l1];simp
  ·rw[← l2];simp
end
section
variable {C:Ctx} {wi:World} {mi:Mem} {nt:Nat} {ok:Nat→Prop} {vs:List Value} {gs:List (List (List Val))} {bs:List Nat} {env:Nat→AV} {st:Store} {a:Act} {w:World}
theorem wpOp_append {ops:Array Oper} {Q:Exit→Act→World→Prop} {K:Act→World→Prop} {i d:Nat} {t u ty:TypeId} {x y:Operand} {pos:String} {after:Array Edge} {v:Value} {w':World} (ho:ops[i]?=some ⟨some d, .call ⟨.builtin .append,#[x,y],#[t,u]⟩,ty,pos,after,none⟩)
 (hrun:(Builtin.append_ #[t,u] ty #[a.eval x,a.eval y]).run C.P w=.ok v w') (hK:K (a.put (some d) v) w'):wpOpIn (FR none) 0 C.P ops Q i K a w:=by
 unfold wpOpIn
 rw[ho]
 simp only[Region.wanted,if_true]
 refine⟨fun _ _=>trivial,?_⟩
 rw[Oper.semAt_eq _ _ _ (fun c e=>by cases e)]
 have:(execOp a.eval ⟨some d, .call ⟨.builtin .append,#[x,y],#[t,u]⟩,ty,pos,after,none⟩).run C.P w=.ok (.value v) w':=by
  unfold execOp
  simp[resolve,invoke,builtin,hrun]
 rw[this]
 simpa [Oper.uponIn]using hK
theorem GPS.grow {T:TypeId} {olds rest:List Value} {rv:Value} {g:List (List Val)} {r:List Val} {cap:Nat} {m:Mem} {φ:Pl} (hi:Inv w m φ st) (hadv:Adv wi mi (fun _=>none) w m φ) (h:GPS wi vs gs bs w m φ) (ho:∀ u∈olds,u.oneCell'=true) (hc:ICells m (rowsL g).flatten olds) (hr:IRep m (.isl (valsL r)) rv) (hr1:rv.oneCell'=true)
 (hrest:∀ u∈rest,u.oneCell'=true) (hl:olds.length=g.length) (hcap:g.length+1≤cap) (hrl:rest.length=cap-(g.length+1)) :
 Inv (w.drew.alloc (.cells (olds++([rv]++rest)).toArray T)) m φ st∧Adv wi mi (fun _=>none) (w.drew.alloc (.cells (olds++([rv]++rest)).toArray T)) m φ ∧
  GPS wi (vs++[.slice (some ⟨w.heap.size,0,none⟩) (g.length+1) cap]) (gs++[g++[r]]) (bs++[w.heap.size]) (w.drew.alloc (.cells (olds++([rv]++rest)).toArray T)) m φ:=by
 obtain⟨i1,a1⟩:=hi.drew.more (.cells (olds++([rv]++rest)).toArray T)
 have a2:=(Adv.drew w m φ).trans a1
 refine⟨i1,hadv.trans a2,(GPS.stab _ _ _ _ _ _ _ _ _ _ a2 h).snoc ⟨⟨cap,olds++([rv]++rest),T,by simp,by simpa using hcap,by simp;omega,heap_push_new w.drew _,?_,?_⟩,by simp,hadv.size,fun id b n e ho'=>?_,fun o=>?_⟩ fun hb=>?_⟩
 ·intro u hu
  simp only[List.mem_append,List.mem_singleton]at hu
  rcases hu with hu|rfl|hu
  ·exact ho u hu
  ·exact hr1
  ·exact hrest u hu
 ·have e1:(olds++([rv]++rest)).take (g++[r]).length=olds++[rv]:=by
   rw[List.length_append,List.length_singleton,← hl,← List.append_assoc,← List.length_singleton (a:=rv),← List.length_append,List.take_left]
  rw[e1,rowsL_append,List.flatten_append]
  refine hc.append ?_
  show ICells m [.isl (valsL r)] [rv]
  exact .cons hr hr1 .nil
 ·have:=hi.low id b n _ e ho'
  omega
 ·cases hm:m w.heap.size o with
  | none=>rfl
  | some u=>exact absurd (hi.mem.lt hm) (by omega)
 ·obtain⟨v',g',k⟩:=h.mem hb
  have:=k.lt
  omega
theorem GR.addNew {t u ty e:TypeId} {by_:Nat} {z:List Value} {r:List Val} {x d s:Nat} (hzo:ZerosOk C.P) (he:elemD (descK C.P t)=some e) (hk:szOf C.P e=some 1) (hby:byOf C.P e=some by_) (hz:zeroOf C.P e=some z) (hzl:z.length=1) (hb0:0<by_) (hb1:by_≤140737488355328) (hu:notInt (descK C.P u)=true)
 (h:GR wi mi nt ok (GPS wi vs gs bs) env st a w) (hs:env s=.i (.lit (.slice none 0 0))) (hx:elemsOf st 1 (env x)=some [[.isl (valsL r)]]) (hd:d<nt) :
 ∃ y w',(Builtin.append_ #[t,u] ty #[a.tmps.getD s undef,a.tmps.getD x undef]).run C.P w=.ok y w'∧∃ v b,GR wi mi nt ok (GPS wi (vs++[v]) (gs++[[r]]) (bs++[b])) (upd env d (.i (.lit v))) st (a.put (some d) y) w':=by
 obtain⟨⟨m,φ,hi,henv,hadv,hok,hr⟩,hsz,hdf⟩:=h
 have hsv:a.tmps.getD s undef=.slice none 0 0:=by have:=henv s;rw[hs]at this;exact this.lit_eq
 obtain⟨cs,hrr⟩:=elems_read (P:=C.P) hi (henv x) hx
 have hr1:=hrr w rfl
 have hr2:=hrr w.drew rfl
 have hcells:=hr1.cells
 simp only[List.flatten_cons,List.flatten_nil,List.append_nil]at hcells
 cases hcells with
 | @cons _ rv _ _ q1 q2 q3 =>
 cases q3
 have hf2:=hr2.first 1 (by simp)
 simp only[Nat.one_mul,List.take_succ_cons,List.take_zero]at hf2
 have hlen:=hr1.len
 obtain⟨cap',rest,hcap,hrest,hrz,hrun⟩:=append_grow_run (ty:=ty) (len:=0) (cap:=0) (base:=none) (olds:=[]) (und_slice he) hu hk hby hz hlen (by simp) hb0 (by simpa using hb1) hf2 (by simp[Builtin.firstCells])
 rw[hsv]
 obtain⟨g1,g2,g3⟩:=hr.grow (T:=e) (olds:=[]) (rest:=rest) (rv:=rv) (g:=[]) (r:=r) (cap:=cap') hi hadv (by simp) (by simpa [rowsL]using ICells.nil) q1 q2 (fun u hu=>hzo _ _ hz u (hrz u hu)) rfl (by simpa using hcap) (by rw[hrest,hzl];simp)
 refine⟨_,_,hrun,_,_,⟨m,φ,g1,putA_rep (dst:=some d) henv hsz (by simpa [dstOk]using hd) (.i (.lit _)),g2,hok,g3⟩,by rw[put_size];exact hsz,by rw[put_defers'];exact hdf⟩
theorem GR.addLast {t u ty e:TypeId} {by_:Nat} {z:List Value} {r:List Val} {x d s b:Nat} {v:Value} {g:List (List Val)} (hzo:ZerosOk C.P) (he:elemD (descK C.P t)=some e) (hk:szOf C.P e=some 1) (hby:byOf C.P e=some by_) (hz:zeroOf C.P e=some z) (hzl:z.length=1) (hb0:0<by_) (hb1:(g.length+1)*by_≤140737488355328) (hu:notInt (descK C.P u)=true)
 (h:GR wi mi nt ok (GPS wi (vs++[v]) (gs++[g]) (bs++[b])) env st a w) (hs:env s=.i (.lit v)) (hx:elemsOf st 1 (env x)=some [[.isl (valsL r)]]) (hd:d<nt) :
 ∃ y w',(Builtin.append_ #[t,u] ty #[a.tmps.getD s undef,a.tmps.getD x undef]).run C.P w=.ok y w'∧∃ v' b',GR wi mi nt ok (GPS wi (vs++[v']) (gs++[g++[r]]) (bs++[b'])) (upd env d (.i (.lit v'))) st (a.put (some d) y) w':=by
 obtain⟨⟨m,φ,hi,henv,hadv,hok,hr⟩,hsz,hdf⟩:=h
 have hsv:a.tmps.getD s undef=v:=by have:=henv s;rw[hs]at this;exact this.lit_eq
 obtain⟨k1,k2,k3⟩:=hr.unsnoc
 obtain⟨cap,us,T,rfl,j2,j3,j4,j5,j6⟩:=k2.ex
 obtain⟨cs,hrr⟩:=elems_read (P:=C.P) hi (henv x) hx
 have hr1:=hrr w rfl
 have hr2:=hrr w.drew rfl
 have hcells:=hr1.cells
 simp only[List.flatten_cons,List.flatten_nil,List.append_nil]at hcells
 cases hcells with
 | @cons _ rv _ _ q1 q2 q3 =>
 cases q3
 have hf1:=hr1.first 1 (by simp)
 have hf2:=hr2.first 1 (by simp)
 simp only[Nat.one_mul,List.take_succ_cons,List.take_zero]at hf1 hf2
 have hlen:=hr1.len
 rw[hsv]
 have hgl:(us.take g.length).length=g.length:=by simp;omega
 by_cases hroom:g.length+1≤cap
 ·have hstore:=run_storeCells_at C.P b g.length T [rv] 0 us.toArray w j4 (by simp;omega) (by simpa using q2)
  simp only[Nat.add_zero]at hstore
  have hrun:=append_room_run (ty:=ty) (base:=some ⟨b,0,none⟩) (cap:=cap) (und_slice he) hu hk hlen hf1 hroom _ (by
   simp only[Addr.add_none,Nat.zero_add,Nat.mul_one];exact hstore)
  have hus:(us.toArray.toList.take g.length++[rv]++us.toArray.toList.drop (g.length+[rv].length)).toArray=(us.take g.length++([rv]++us.drop (g.length+1))).toArray:=by simp
  rw[hus]at hrun
  generalize hw2:w.setRow b (us.take g.length++([rv]++us.drop (g.length+1))).toArray=w2 at hrun
  have h2b:w2.heap[b]?=some (.cells (us.take g.length++([rv]++us.drop (g.length+1))).toArray T (0,0)):=by rw[← hw2];exact setRow_heap w b _ _ T (0,0) j4
  have h2o:∀ x,x≠b→w2.heap[x]?=w.heap[x]?:=fun x hx=>by rw[← hw2];exact setRow_other w b x _ hx
  have h2z:w2.heap.size=w.heap.size:=by rw[← hw2];simp[World.setRow]
  have h2s:w2.os=w.os∧w2.tape=w.tape∧w2.drawn=w.drawn∧w2.output=w.output:=by rw[← hw2];exact⟨rfl,rfl,rfl,rfl⟩
  have i2:=hi.aside h2z h2o k2.nom k2.free
  have hne:∀ x,x<wi.heap.size→x≠b:=fun x hx e=>by have:=k2.new;omega
  have a2:Adv wi mi (fun _=>none) w2 m φ:=⟨by rw[h2z];exact hadv.size,h2s.1.trans hadv.os,⟨h2s.2.1.trans hadv.tape.tape,by rw[h2s.2.2.1];exact hadv.tape.fwd⟩,h2s.2.2.2.trans hadv.output,fun x hx hf=>(h2o x (hne x hx)).trans (hadv.block x hx hf),hadv.mle,hadv.mnew,hadv.ple,hadv.pnew⟩
  have hg2:GPS wi vs gs bs w2 m φ:=⟨k1.l1,k1.l2,k1.nd,fun i v' g' b' e1 e2 e3=>(k1.at_ i v' g' b' e1 e2 e3).to (h2o b' fun e=>by subst e;exact k3 (List.mem_of_getElem? e3)) (.refl _) (k1.at_ i v' g' b' e1 e2 e3).free fun _=>rfl⟩
  refine⟨_,_,hrun, .slice (some ⟨b,0,none⟩) (g.length+1) cap,b,⟨m,φ,i2,putA_rep (dst:=some d) henv hsz (by simpa [dstOk]using hd) (.i (.lit _)),a2,hok,hg2.snoc ⟨⟨cap,_,T,by simp,by simpa using hroom,by simp;omega,h2b,?_,?_⟩,by simp,k2.new,k2.free,k2.nom⟩ k3⟩,by rw[put_size];exact hsz,by rw[put_defers'];exact hdf⟩
  ·intro u hu
   simp only[List.mem_append,List.mem_singleton]at hu
   rcases hu with hu|rfl|hu
   ·exact j5 u (List.mem_of_mem_take hu)
   ·exact q2
   ·exact j5 u (List.mem_of_mem_drop hu)
  ·have e1:(us.take g.length++([rv]++us.drop (g.length+1))).take (g++[r]).length=us.take g.length++[rv]:=by
    have:(g++[r]).length=(us.take g.length++[rv]).length:=by rw[List.length_append,List.length_append,hgl];rfl
    rw[this,← List.append_assoc,List.take_left]
   rw[e1,rowsL_append,List.flatten_append]
   refine j6.append ?_
   show ICells m [.isl (valsL r)] [rv]
   exact .cons q1 q2 .nil
 ·have hold:(Builtin.firstCells 1 g.length (.slice (some ⟨b,0,none⟩) g.length cap)).run C.P w.drew=.ok (us.take g.length).toArray w.drew:=by
   have:=run_loadCells_list (P:=C.P) w.drew ⟨b,0,none⟩ (us.take g.length) (fun j u hj=>by
    rw[Addr.add_none,Nat.zero_add]
    show w.cell? ⟨b,j,none⟩=some u
    rw[cell_row j4]
    rw[List.getElem?_take]at hj
    split at hj
    ·exact hj
    ·cases hj)
   rw[hgl]at this
   simp only[Builtin.firstCells,Nat.mul_one]
   exact this
  obtain⟨cap',rest,hcap',hrest,hrz,hrun⟩:=append_grow_run (ty:=ty) (len:=g.length) (cap:=cap) (base:=some ⟨b,0,none⟩) (olds:=us.take g.length) (und_slice he) hu hk hby hz hlen (by simp;omega) hb0 (by simpa using hb1) hf2 hold
  obtain⟨g1,g2,g3⟩:=k1.grow (T:=e) (olds:=us.take g.length) (rest:=rest) (rv:=rv) (g:=g) (r:=r) (cap:=cap') hi hadv (fun u hu=>j5 u (List.mem_of_mem_take hu)) j6 q1 q2 (fun u hu=>hzo _ _ hz u (hrz u hu)) hgl (by simpa using hcap') (by rw[hrest,hzl];simp)
  refine⟨_,_,hrun,_,_,⟨m,φ,g1,putA_rep (dst:=some d) henv hsz (by simpa [dstOk]using hd) (.i (.lit _)),g2,hok,g3⟩,by rw[put_size];exact hsz,by rw[put_defers'];exact hdf⟩
theorem GR.grpsDone {id:Nat} (h:GR wi mi nt ok (GPS wi vs gs bs) env st a w) (hst:st id=some (.arr 1 (litsV vs))) :
 GR wi mi nt ok (fun _ _ _=>True) env (upd st id (some (.arr 1 (grpsL gs)))) a w:=by
 classical
 obtain⟨⟨m,φ,hi,henv,hadv,hok,hr⟩,hsz,hdf⟩:=h
 let m':Mem:=fun f o=>if f∈bs then w.cell? ⟨f,o,none⟩else m f o
 have hin:∀ f,f∈bs→∀ o,m' f o=w.cell? ⟨f,o,none⟩:=fun f hf o=>by show(if f∈bs then _ else _)=_;rw[if_pos hf]
 have hout:∀ f,f ∉ bs→∀ o,m' f o=m f o:=fun f hf o=>by show(if f∈bs then _ else _)=_;rw[if_neg hf]
 have hle:MLe m m':=fun f o v e=>by
  by_cases hf:f∈bs
  ·obtain⟨_,_,k⟩:=hr.mem hf
   rw[k.nom o]at e;cases e
  ·rw[hout f hf];exact e
 have hmem:MemOk w m':=fun f o v e=>by
  by_cases hf:f∈bs
  ·rw[hin f hf]at e;exact e
  ·rw[hout f hf]at e;exact hi.mem f o v e
 have hown:∀ i b n f,φ i=some (b,n)→n.own f→f ∉ bs:=fun i b n f e ho hf=>by
  obtain⟨_,_,k⟩:=hr.mem hf
  exact k.free i b n e ho
 have i1:Inv w m' φ st:=⟨hmem,fun i blk hb=>by
  obtain⟨b,n,q1,q2,q3⟩:=hi.live i blk hb
  exact⟨b,n,q1,q2,q3.mono q2.1 (fun _ _=>rfl) hle (.refl _) fun f hf o=>hout f (hown i b n f q1 hf) o⟩,hi.inj,hi.low⟩
 have a1:Adv wi mi (fun _=>none) w m' φ:=⟨hadv.size,hadv.os,hadv.tape,hadv.output,hadv.block,hadv.mle.trans hle,fun f hf hfr o=>by
  rw[hout f (fun hf'=>by obtain⟨_,_,k⟩:=hr.mem hf';have:=k.new;omega)]
  exact hadv.mnew f hf hfr o,hadv.ple,hadv.pnew⟩
 obtain⟨b,n,e,hb,hbo⟩:=i1.live id _ hst
 refine⟨⟨m',φ,i1.reblk hst e ?_,fun t=>(henv t).mono hle (.refl _),a1,hok,trivial⟩,hsz,hdf⟩
 cases hbo with
 | @arr T _ _ xs h1 h2 h3 h4 h5 h6 h7 h8 h9 =>
  rw[litsV_flat,litsV_length]at h5
  have hxs:=litsV_icells h5
  rw[litsV_length]at h6
  refine .arr h1 h2 h3 (fun x hx=>by obtain⟨g,_,rfl⟩:=List.mem_map.1 hx;rfl) ?_ (by rw[grpsL_length,hr.l1];exact h6) h7 h8 h9
  rw[grpsL_length,hr.l1,hxs]
  have key:∀ (i:Nat) (v:Value) (g:List (List Val)),vs[i]?=some v→gs[i]?=some g→IRep m' (.isl (rowsL g)) v∧v.oneCell'=true:=fun i v g e1 e2=>by
   have hl:=(List.getElem?_eq_some_iff.1 e1).1
   have e3:=List.getElem?_eq_getElem (show i<bs.length by rw[hr.l2];exact hl)
   have k:=hr.at_ i v g _ e1 e2 e3
   obtain⟨cap,us,T',rfl,j2,j3,j4,j5,j6⟩:=k.ex
   have hne:rowsL g≠[]:=fun e=>k.ne (List.length_eq_zero_iff.1 (by rw[← rowsL_length,e];rfl))
   refine⟨?_,rfl⟩
   have:=IRep.isl (m:=m') (k:=1) (cap:=cap) hne (elems_of_cells 0 (fun x hx=>by obtain⟨r,_,rfl⟩:=List.mem_map.1 hx;rfl) (j6.mono hle) (fun j u hj=>by
    rw[hin _ (List.mem_of_getElem? e3),Nat.zero_add,cell_row j4]
    rw[List.getElem?_take]at hj
    split at hj
    ·exact hj
    ·cases hj)) (by simpa using j2)
   rwa [rowsL_length]at this
  have gen:∀ (vs:List Value) (gs:List (List (List Val))),gs.length=vs.length→(∀ (i:Nat) (v:Value) (g:List (List Val)),vs[i]?=some v→gs[i]?=some g→IRep m' (.isl (rowsL g)) v∧v.oneCell'=true)→ICells m' (grpsL gs).flatten vs:=by
   intro vs
   induction vs with
   | nil=>intro gs hl _;have:gs=[]:=List.length_eq_zero_iff.1 hl;subst this;exact .nil
   | cons v vs ih =>
    intro gs hl hk
    cases gs with
    | nil=>simp at hl
    | cons g gs =>
     obtain⟨k1,k2⟩:=hk 0 v g rfl rfl
     show ICells m' (IV.isl (rowsL g)::(grpsL gs).flatten) (v::vs)
     exact .cons k1 k2 (ih gs (by simpa using hl) fun i v' g' e1 e2=>hk (i+1) v' g' (by simpa using e1) (by simpa using e2))
  exact gen vs gs hr.l1 key
theorem wpOp_one {ops:Array Oper} {Q:Exit→Act→World→Prop} {K:Act→World→Prop} {i d n:Nat} {t ty:TypeId} {ps:Array (Nat×Operand)} {pos:String} {after:Array Edge} {v:Value} {w':World} (ho:ops[i]?=some ⟨some d, .buildSlice t n ps,ty,pos,after,none⟩)
 (hrun:(Instr.buildSlice t n (ps.map fun p=>(p.1,a.eval p.2))).run C.P w=.ok v w') (hK:K (a.put (some d) v) w'):wpOpIn (FR none) 0 C.P ops Q i K a w:=by
 unfold wpOpIn
 rw[ho]
 simp only[Region.wanted,if_true]
 refine⟨fun _ _=>trivial,?_⟩
 rw[Oper.semAt_eq _ _ _ (fun c e=>by cases e)]
 have:(execOp a.eval ⟨some d, .buildSlice t n ps,ty,pos,after,none⟩).run C.P w=.ok (.value v) w':=by
  unfold execOp
  simp[hrun]
 rw[this]
 simpa [Oper.uponIn]using hK
theorem GR.nilOne {R:World→Mem→Pl→Prop} {base:Nat} {j:Nat} {dn:Nat→Prop} (hR:Stab R) {t e:TypeId} {d:Nat} {z:List Value} {zi:List IV} (hzo:ZerosOk C.P) (he:elemD (descK C.P t)=some e) (hk:szOf C.P e=some 1) (hz:zeroOf C.P e=some z) (hzi:zeroI (litCells z)=some zi) (hzl:zi.length=1) (hdn:¬ dn j)
 (h:GR wi mi nt (okIn base dn) R env st a w) (hd:d<nt) :
 ∃ y w',(Instr.buildSlice t 1 #[(0,Value.slice none 0 0)]).run C.P w=.ok y w'∧GR wi mi nt (okIn base fun i=>dn i∨i=j) R (upd env d (.osl (base+wide*j) 1 0 1)) (upd st (base+wide*j) (some (.arr 1 [[.lit (.slice none 0 0)]]))) (a.put (some d) y) w':=by
 obtain⟨⟨m,φ,hi,henv,hadv,hok,hr⟩,hsz,hdf⟩:=h
 have hfr:∀ id,base+wide*j≤id→id<base+wide*j+wide→φ id=none:=fun id k1 k2=>by
  cases e:φ id with
  | none=>rfl
  | some p=>exact absurd (hok id (by rw[e];simp)) (okIn_fresh hdn k1 k2)
 obtain⟨y,w',k1,m',φ',k2,k3,k4,k5⟩:=sliceLit_sound (w:=w) (C:=C) (n:=1) (ps:=[(0,[.i (.lit (.slice none 0 0))])]) (vs:=[(0, .slice none 0 0)]) (v:=.osl (base+wide*j) 1 0 1) (st':=upd st (base+wide*j) (some (.arr 1 [[.lit (.slice none 0 0)]]))) hzo hi hfr (und_slice he) (.cons (.cons (.i (.lit _)) rfl .nil) .nil) (by
  unfold sliceLit
  simp[hk,hz,hzi,hzl,frzParts,frzVs,frzV,setElems,setElem,repl]) #[(0, .slice none 0 0)] rfl
 refine⟨y,w',k1,⟨m',φ',k3,putA_rep (dst:=some d) (fun t=>(henv t).mono k4.mle k4.ple) hsz (by simpa [dstOk]using hd) k2,hadv.trans k4,fun id hne=>?_,hR _ _ _ _ _ _ k4 hr⟩,by rw[put_size];exact hsz,by rw[put_defers'];exact hdf⟩
 rcases k5 id hne with h1|⟨h1,h2⟩
 ·exact okIn_mono (fun i hi=>.inl hi) (hok id h1)
 ·exact .inr ⟨j, .inr rfl,h1,h2⟩
end
def GLast (wi:World) (vs:List Value) (gs:List (List (List Val))) (bs:List Nat) (v:Value) (g:List (List Val)) (b:Nat) (w:World) (m:Mem) (φ:Pl):Prop :=
 (v=.slice none 0 0∧g=[]∧GPS wi vs gs bs w m φ)∨GPS wi (vs++[v]) (gs++[g]) (bs++[b]) w m φ
theorem GLast.stab (wi:World) (vs:List Value) (gs:List (List (List Val))) (bs:List Nat) (v:Value) (g:List (List Val)) (b:Nat):Stab (GLast wi vs gs bs v g b):=fun _ _ _ _ _ _ ha h =>
 h.imp (fun k=>⟨k.1,k.2.1,GPS.stab _ _ _ _ _ _ _ _ _ _ ha k.2.2⟩) fun k=>GPS.stab _ _ _ _ _ _ _ _ _ _ ha k
theorem GLast.keep {wi w:World} {m:Mem} {φ:Pl} {vs:List Value} {gs:List (List (List Val))} {bs:List Nat} {v:Value} {g:List (List Val)} {b:Nat} (ids:List Nat) (h:GLast wi vs gs bs v g b w m φ):GLast wi vs gs bs v g b w m (keepP ids φ) :=
 h.imp (fun k=>⟨k.1,k.2.1,k.2.2.keep ids⟩) fun k=>k.keep ids
section
variable {C:Ctx} {wi:World} {mi:Mem} {nt:Nat} {ok:Nat→Prop} {vs:List Value} {gs:List (List (List Val))} {bs:List Nat} {env:Nat→AV} {st:Store} {a:Act} {w:World}
theorem GR.mapR {R R':World→Mem→Pl→Prop} (h:GR wi mi nt ok R env st a w) (f:∀ m φ,R w m φ→R' w m φ):GR wi mi nt ok R' env st a w:=by
 obtain⟨⟨m,φ,h1,h2,h3,h4,h5⟩,h6,h7⟩:=h
 exact⟨⟨m,φ,h1,h2,h3,h4,f m φ h5⟩,h6,h7⟩
theorem GR.addRow {t u ty e:TypeId} {by_:Nat} {z:List Value} {r:List Val} {x d s b:Nat} {v:Value} {g:List (List Val)} (hzo:ZerosOk C.P) (he:elemD (descK C.P t)=some e) (hk:szOf C.P e=some 1) (hby:byOf C.P e=some by_) (hz:zeroOf C.P e=some z) (hzl:z.length=1) (hb0:0<by_) (hb1:(g.length+1)*by_≤140737488355328) (hu:notInt (descK C.P u)=true)
 (h:GR wi mi nt ok (GLast wi vs gs bs v g b) env st a w) (hs:env s=.i (.lit v)) (hx:elemsOf st 1 (env x)=some [[.isl (valsL r)]]) (hd:d<nt) :
 ∃ y w',(Builtin.append_ #[t,u] ty #[a.tmps.getD s undef,a.tmps.getD x undef]).run C.P w=.ok y w'∧∃ v' b',GR wi mi nt ok (GPS wi (vs++[v']) (gs++[g++[r]]) (bs++[b'])) (upd env d (.i (.lit v'))) st (a.put (some d) y) w':=by
 obtain⟨⟨m,φ,h1,h2,h3,h4,h5⟩,h6,h7⟩:=h
 rcases h5 with ⟨rfl,rfl,h5⟩|h5
 ·exact GR.addNew hzo he hk hby hz hzl hb0 (by simpa using hb1) hu ⟨⟨m,φ,h1,h2,h3,h4,h5⟩,h6,h7⟩ hs hx hd
 ·exact GR.addLast hzo he hk hby hz hzl hb0 hb1 hu ⟨⟨m,φ,h1,h2,h3,h4,h5⟩,h6,h7⟩ hs hx hd
end
theorem runs_flat (cs:List Int):∀ (n:Nat) (l:List (List Val)),l.length=n→(runs cs l).flatten=l∧(l≠[]→runs cs l≠[])∧(runs cs l).length≤n
 | 0,l,h=>by
  have:l=[]:=List.length_eq_zero_iff.1 h
  subst this
  exact⟨rfl,fun h=>absurd rfl h,Nat.le_refl _⟩
 | n+1,l,h=>by
  have hne:l≠[]:=fun e=>by subst e;simp at h
  obtain⟨l',x,rfl⟩:∃ l' x,l=l'++[x]:=⟨l.dropLast,l.getLast hne,(List.dropLast_concat_getLast hne).symm⟩
  have hl':l'.length=n:=by simpa using h
  obtain⟨i1,i2,i3⟩:=runs_flat cs n l' hl'
  have key:(runs cs (l'++[x])=runs cs l'++[[x]])∨∃ G g,runs cs l'=G++[g]∧runs cs (l'++[x])=G++[g++[x]]:=by
   rw[runs_snoc]
   cases hp:l'.getLast? with
   | none=>exact .inl rfl
   | some p =>
    dsimp only
    split
    ·have hl0:l'≠[]:=fun e=>by subst e;simp at hp
     have hr:=i2 hl0
     refine .inr ⟨(runs cs l').dropLast,(runs cs l').getLast hr,(List.dropLast_concat_getLast hr).symm,?_⟩
     rw[List.getLast?_eq_some_getLast hr];rfl
    ·exact .inl rfl
  rcases key with e|⟨G,g,e1,e2⟩
  ·rw[e];refine⟨by simp[i1],fun _=>by simp,by simp;omega⟩
  ·rw[e2]
   rw[e1]at i1 i3
   refine⟨by rw[← i1];simp,fun _=>by simp,?_⟩
   simp at i3 ⊢;omega
theorem mem_len {α:Type} {g:List α}:∀ {L:List (List α)},g∈L→g.length≤L.flatten.length
 | [],h=>by simp at h
 | a::L,h=>by
  rw[List.flatten_cons,List.length_append]
  rcases List.mem_cons.1 h with rfl|h
  ·omega
  ·have:=mem_len h;omega
end Go.Av
namespace Go.Proofs.YtiailccmofdhfaaGreat
open Go Go.Av
set_option maxRecDepth 4000
noncomputable def C1:Ctx:={ P:=Tryz.prog,G:=GS,ownArgs:=ownA,keepRes:=keepR,eqT:=eqTy,prim:=fun _=>none }
@[simp] theorem C1_P:C1.P=Tryz.prog:=(rfl)
@[simp] theorem C1_G (f):C1.G f=GS f:=(rfl)
@[simp] theorem C1_o (f):C1.ownArgs f=ownA f:=(rfl)
@[simp] theorem C1_k (f):C1.keepRes f=keepR f:=(rfl)
@[simp] theorem C1_e (f):C1.eqT f=eqTy f:=(rfl)
@[simp] theorem C1_t:C1.tree=false:=(rfl)
theorem cpl_nil:callA C1 134 [.i (.isl [])] []=some (.nils,[]):=by
 rw[callA_eq rfl Tryz.func134 rfl rfl]
 simp
theorem cpl_some {ks:List Ex} (h:ks≠[]) (hl:ks.length<1000000000):callA C1 134 [.i (.isl (Ex.cellsL ks))] []=some (.osl 0 5 0 ks.length,[some (.arr 5 (Ex.cellsL ks))]):=by
 rw[callA_eq rfl Tryz.func134 rfl rfl]
 have h1:56*(ks.length:Int)≤281474976710656:=by omega
 simp[h,h1]
 unfold over
 simp
theorem sound1:SoundOk C1:=sound_ok (C:=C1) ft nt eqS mo (prim_none fun _=>rfl)
def ptr (p:Nat×Nat):IV:=.lit (.pointer (some ⟨p.1,p.2,none⟩))
def zc:List AV:=[.int 0, .int 0, .bool false, .int 0, .nils]
def Sini (p:Nat×Nat):AS:={ env:=[(0, .i (ptr p))],st:=[] }
def Sout (e:Ex) (p:Nat×Nat):AS:={ env:=[(0, .i (ptr p)),(2, .own 0 0),(3, .own 1 0),(4, .junk),(5, .junk),(6, .junk),(13, .junk),(37, .junk),(38, .junk),(39, .junk)],st:=[some (.box zc),some (.box (impI e.cells))] }
def SL (b3:Nat) (todo X:KL):AS :=
 { env:=[(0, .junk),(2, .own 0 0),(3, .i (ptr (b3,0))),(4, .osl 1 1 0 todo.length),(5, .junk),(6, .junk),(13, .junk),(37, .junk),(38, .junk),(39, .junk)],st:=[some (.box zc),some (.arr 1 ((todo++X).map fun k=>[ptr k.1]))] }
theorem ptr_lit:∀ (l:KL),∀ c∈(l.map fun k=>[ptr k.1]).flatten,∃ v,c=.lit v
 | [],c,h=>by simp at h
 | k::l,c,h=>by
  simp only[List.map_cons,List.flatten_cons,List.mem_append,List.mem_singleton]at h
  rcases h with rfl|h
  ·exact⟨_,rfl⟩
  ·exact ptr_lit l c h
def PP (b3:Nat) (b o n:Nat) (x:Ex) (ES:List (List IV)) (env:Nat→AV) (st:Store):Prop :=
 env 2=.own 0 0∧env 3=.i (ptr (b3,0))∧env 4=.osl 1 1 0 n∧env 5=.i (ptr (b,o))∧env 32=.i (ptr (b,o+4))∧st 0=some (.box zc)∧st 1=some (.arr 1 ES) ∧
  ((env 30=.nils∧x.kids=[])∨∃ id,env 30=.osl id 5 0 x.kids.length∧x.kids≠[]∧st id=some (.arr 5 (Ex.cellsL x.kids))∧2≤id)
theorem wrap_1':IntKind.i64.wrap 1=1:=wrap64 (by omega) (by omega)
def RW (init:KL) (b' i:Nat):List (List IV):=(init.map fun k=>[ptr k.1])++(List.range i).map fun j=>[ptr (b',j*5)]
theorem RW_len (init:KL) (b' i:Nat):(RW init b' i).length=init.length+i:=by simp[RW]
theorem RW_succ (init:KL) (b' i:Nat):RW init b' i++[[ptr (b',i*5)]]=RW init b' (i+1):=by simp[RW,List.range_succ]
theorem kidsAt_map (b:Nat):∀ (o:Nat) (l:List Ex),(kidsAt b o l).map (fun k=>[ptr k.1])=(List.range l.length).map fun j=>[ptr (b,o+j*5)]
 | _,[]=>by simp[kidsAt]
 | o,a::l=>by
  simp only[kidsAt,List.map_cons,kidsAt_map b (o+5) l,List.length_cons,List.range_succ_eq_map,List.map_map]
  simp only[List.cons.injEq,Nat.zero_mul,Nat.add_zero,true_and]
  apply List.map_congr_left
  intro j _
  simp only[Function.comp,Nat.succ_eq_add_one]
  rw[show o+5+j*5=o+(j+1)*5 by omega]
theorem kidsAt_len (b:Nat):∀ (o:Nat) (l:List Ex),(kidsAt b o l).length=l.length
 | _,[]=>rfl
 | o,a::l=>by simp[kidsAt,kidsAt_len b (o+5) l]
theorem kidsAt_sum (b:Nat):∀ (o:Nat) (l:List Ex),((kidsAt b o l).map fun k=>k.2.size).sum=Ex.sizeL l
 | _,[]=>rfl
 | o,a::l=>by simp[kidsAt,Ex.sizeL,kidsAt_sum b (o+5) l]
def YS (b3 b' cap:Nat) (x:Ex) (init:KL) (ES:List (List IV)) (i:Nat):AS :=
 { env:=[(0, .junk),(2, .own 0 0),(3, .i (ptr (b3,0))),(4,if i=0 then .osl 1 1 0 init.length else .osl 2 1 0 (init.length+i)),(5, .i (.iref [.int x.kind, .int x.col, .bool x.val.null, .int x.val.n, .lit (.slice (some ⟨b',0,none⟩) x.kids.length cap)])),(6,jk i (.int (i-1))),(13, .junk),(37, .int x.kids.length),(38, .int i),(39,jk i (.bool true))],
   st:=some (.box zc)::if i=0 then [some (.arr 1 ES)]else [none,some (.arr 1 (RW init b' i))] }
set_option maxHeartbeats 1000000
theorem copied_at {e:Ex} (he:e.size<1000000000) {wi:World} {mi:Mem} {b o:Nat} (hi:Inv wi mi (fun _=>none) (stOf []))
 (hrun:∀ w',wi.heap.size≤w'.heap.size→(∀ f,f<wi.heap.size→w'.heap[f]?=wi.heap[f]?)→∃ y,(Instr.loadAt 43 (.pointer (some ⟨b,o,none⟩))).run C1.P w'=.ok y w'∧IRep mi (.agg e.cells) y) :
 Calls Tryz.prog 136 #[.pointer (some ⟨b,o,none⟩)] wi (CallPost wi mi (fun _=>none) (.i (.agg e.cells)) []):=by
 refine calls_of_wp (fn:=Tryz.f136) Tryz.func136 rfl ?_
 have g0:GG wi mi 52 (fun id=>id<(Sini (b,o)).st.length) [] (envOf (Sini (b,o)).env) (stOf (Sini (b,o)).st) { tmps:=[Value.pointer (some ⟨b,o,none⟩)].toArray++Array.replicate (52-1) undef,defers:=[] } wi:=by
  refine⟨⟨mi,fun _=>none,hi,?_, .refl _ _ _,fun id h=>absurd rfl h,fun k hk=>by simp at hk⟩,by simp,rfl⟩
  intro t
  have:=enter_rep (m:=mi) (φ:=fun _=>none) (52-1) (show RepL mi (fun _=>none) [.i (ptr (b,o))] [.pointer (some ⟨b,o,none⟩)]from .cons (.i (.lit _)) .nil) t
  cases t with
  | zero=>simpa [Sini,envOf,argAt]using this
  | succ t=>simp only[Sini,envOf];simp;exact .junk _
 refine wp_seq (wp_mono (GG.codeA sound1 (G:=GS 136) (S:=Sini (b,o)) (e:=.normal) (S':={ env:=[(0, .i (ptr (b,o))),(2, .own 0 0),(3, .junk),(4, .junk),(5, .junk),(6, .junk),(13, .junk),(37, .junk),(38, .junk),(39, .junk)],st:=[some (.box zc)] }) (by kernel_rfl) (by simp[Sini,zc,ptr]) g0) ?_)
 rintro _ a1 w1 ⟨rfl,g1⟩
 refine wp_seq (GG.regionL sound1 (os1:=[_,_]) (os2:=[_,_]) (G:=GS 136) (S:={ env:=[(0, .i (ptr (b,o))),(2, .own 0 0),(3, .junk),(4, .junk),(5, .junk),(6, .junk),(13, .junk),(37, .junk),(38, .junk),(39, .junk)],st:=[some (.box zc)] }) (S':=Sout e (b,o)) rfl (by
  have h:∀ ops:Array Oper,ops.all (operOk 52)=true→∀ o∈ops,operOk 52 o=true:=fun ops h o ho=>Array.all_eq_true_iff_forall_mem.1 h o ho
  exact h _ (by kernel_rfl)) g1 (by decide) hrun ?_ ?_)
 ·rw[Ex.cells_eq];simp[Sout,zc,ptr,Ex.cells_eq]
 intro a2 w2 g2
 obtain⟨b3,g3⟩:=g2.pub (u:=3) (id:=1) (e:=e) (st':=stOf [some (.box zc)]) (ok':=fun id=>id<1) rfl rfl (by
  intro i blk h
  cases i with
  | zero=>simp[stOf]at h;subst h;exact⟨by omega,rfl,by simp[LitBlk,zc]⟩
  | succ i=>simp[stOf]at h) (by
  intro i h
  cases i with
  | zero=>omega
  | succ i=>simp[stOf]at h)
 have g3:=g3 (envOf [(2, .own 0 0),(3, .i (ptr (b3,0)))]) (by
  intro t
  simp only[envOf]
  by_cases h2:t=2
  ·subst h2;exact .inr (.inr ⟨rfl,by simp[Sout,envOf,Stays,stOf]⟩)
  ·by_cases h3:t=3
   ·subst h3;exact .inr (.inl ⟨rfl,rfl⟩)
   ·simp[h2,h3])
 refine wp_seq (wp_mono (GG.codeA sound1 (G:=GS 136) (S:={ env:=[(2, .own 0 0),(3, .i (ptr (b3,0)))],st:=[some (.box zc)] }) (e:=.normal) (S':=SL b3 [((b3,0),e)] []) (by kernel_rfl) (by simp[SL,ptr,zc]) g3) ?_)
 rintro _ a3 w3 ⟨rfl,g4⟩
 refine wp_seq (wp_block ?_)
 refine wp_loop_n (fun n a w=>∃ todo X K:KL,(∀ k∈todo,k∈K)∧((b3,0),e)∈K∧(todo.map fun k=>k.2.size).sum=n∧n<1000000000∧GG wi mi 52 (fun id=>id<(SL b3 todo X).st.length) K (envOf (SL b3 todo X).env) (stOf (SL b3 todo X).st) a w) ?_ (n:=e.size) ⟨[((b3,0),e)],[],[((b3,0),e)],fun k hk=>hk,by simp,by simp,he,g4⟩
 rintro n a w ⟨todo,X,K,hsub,hb3,hsum,hn,g⟩
 rcases List.eq_nil_or_concat todo with rfl|⟨init,k,rfl⟩
 ·refine wp_mono (GG.codeA sound1 (G:=GS 136) (S:=SL b3 [] X) (e:=.exit 0) (S':={ env:=[(0, .junk),(2, .own 0 0),(3, .i (ptr (b3,0))),(4, .osl 1 1 0 0),(5, .junk),(6, .junk),(13, .bool false),(37, .junk),(38, .junk),(39, .junk)],st:=[some (.box zc),some (.arr 1 (X.map fun k=>[ptr k.1]))] }) (by kernel_rfl) (by simp[SL,ptr,zc]) g) ?_
  rintro _ a5 w5 ⟨rfl,g5⟩
  simp only[exitOf,Exit.then,Exit.inBlock,if_true]
  have g6:=(g5.see (u:=3) (b:=b3) (o:=0) rfl hb3).envTo (env':=envOf [(2, .own 0 0),(3, .i (.iref e.cells))]) (by
   intro t
   simp only[envOf,upd]
   by_cases h2:t=2
   ·subst h2;simp
   ·by_cases h3:t=3
    ·subst h3;simp
    ·simp[h2,h3])
  refine wp_mono (GG.codeA sound1 (G:=GS 136) (S:={ env:=[(2, .own 0 0),(3, .i (.iref e.cells))],st:=[some (.box zc),some (.arr 1 (X.map fun k=>[ptr k.1]))] }) (e:=.ret) (S':={ env:=[(0, .junk),(2, .own 0 0),(3, .i (.iref e.cells)),(4, .junk),(5, .junk),(6, .junk),(13, .junk),(37, .junk),(38, .junk),(39, .junk)],st:=[some (.box (impI e.cells)),some (.arr 1 (X.map fun k=>[ptr k.1]))] }) (by kernel_rfl) (by simp[zc]) g6) ?_
  rintro _ a6 w6 ⟨rfl,g7⟩
  obtain⟨⟨m,φ,q1,q2,q3,q4,q5⟩,q6,q7⟩:=g7
  obtain⟨v,k1,k2⟩:=finish_sound (C:=C1) (fn:=Tryz.f136) (keep:=false) (na:=0) (S:={ env:=[(0, .junk),(2, .own 0 0),(3, .i (.iref e.cells)),(4, .junk),(5, .junk),(6, .junk),(13, .junk),(37, .junk),(38, .junk),(39, .junk)],st:=[some (.box (impI e.cells)),some (.arr 1 (X.map fun k=>[ptr k.1]))] }) (r:=.i (.agg e.cells)) (stl':=[]) (fun id h=>absurd rfl h) ⟨⟨⟨m,φ,q1,q2,q3,q4, .nil _ _ _⟩,q6,q7⟩,Nat.zero_le _⟩ (by
   show finish C1 false [ResultVar.cell 2 43] 0 _=_
   simp)
  exact⟨q7,v,k1,k2⟩
 ·clear g0 g4 g3 g1 g2
  obtain⟨⟨b,o⟩,x⟩:=k
  have hlen:∀ l:KL,l.length≤(l.map fun k=>k.2.size).sum:=by
   intro l
   induction l with
   | nil=>simp
   | cons a l ih=>have:=Ex.size_pos a.2;simp;omega
  have hil:=hlen init
  simp at hsum
  have hxk:((b,o),x)∈K:=hsub _ (by simp)
  have hxs:=Ex.size_eq x
  have hkl:=Ex.sizeL_length x.kids
  have hne:¬ ((init.length:Int)+1≤0):=by omega
  have hpos:(0:Int)<(init.length:Int)+1:=by omega
  have w1:IntKind.i64.wrap (init.length:Int)=init.length:=wrap64 (by omega) (by omega)
  generalize hES:((init++[((b,o),x)]++X).map fun k=>[ptr k.1])=ES
  have hnth:nthE ES init.length=some [ptr (b,o)]:=by
   rw[nthE_eq,← hES];simp
  have hlit:∀ c∈ES.flatten,∃ v,c=.lit v:=by rw[← hES];exact ptr_lit _
  have hlt:(init.length:Int)<(init.length:Int)+1:=by omega
  have hlt2:(init.length:Int)≤(init.length:Int)+1:=by omega
  refine wp_seq (wp_mono (GG.codeA sound1 (G:=GS 136) (S:=SL b3 (init++[((b,o),x)]) X) (e:=.normal) (S':={ env:=[(0, .junk),(2, .own 0 0),(3, .i (ptr (b3,0))),(4, .osl 1 1 0 (init.length+1)),(5, .junk),(6, .junk),(13, .bool true),(37, .junk),(38, .junk),(39, .junk)],st:=[some (.box zc),some (.arr 1 ES)] }) (by kernel_rfl) (by simp only[SL,hES];simp[ptr,zc,hpos]) (by simpa using g)) ?_)
  rintro _ a5 w5 ⟨rfl,g5⟩
  clear g
  refine wp_block ?_
  refine wp_seq (wp_mono (GG.codeA sound1 (G:=GS 136) (S:={ env:=[(0, .junk),(2, .own 0 0),(3, .i (ptr (b3,0))),(4, .osl 1 1 0 (init.length+1)),(5, .junk),(6, .junk),(13, .bool true),(37, .junk),(38, .junk),(39, .junk)],st:=[some (.box zc),some (.arr 1 ES)] }) (e:=.normal) (S':={ env:=[(0, .junk),(2, .own 0 0),(3, .i (ptr (b3,0))),(4, .osl 1 1 0 (init.length+1)),(5,(.i (ptr (b,o)))),(6, .junk),(13, .bool true),(37, .junk),(38, .junk),(39, .junk)],st:=[some (.box zc),some (.arr 1 ES)] }) (by kernel_rfl) (by simp only[ptr]at hnth;simp[ptr,zc,hnth,w1,hlt]) g5) ?_)
  rintro _ a6 w6 ⟨rfl,g6⟩
  clear g5
  refine wp_seq (wp_mono (GG.codeA sound1 (G:=GS 136) (S:={ env:=[(0, .junk),(2, .own 0 0),(3, .i (ptr (b3,0))),(4, .osl 1 1 0 (init.length+1)),(5,(.i (ptr (b,o)))),(6, .junk),(13, .bool true),(37, .junk),(38, .junk),(39, .junk)],st:=[some (.box zc),some (.arr 1 ES)] }) (e:=.normal) (S':={ env:=[(0, .junk),(2, .own 0 0),(3, .i (ptr (b3,0))),(4, .osl 1 1 0 init.length),(5,(.i (ptr (b,o)))),(6, .junk),(13, .bool true),(37, .junk),(38, .junk),(39, .junk)],st:=[some (.box zc),some (.arr 1 ES)] }) (by kernel_rfl) (by simp[ptr,zc,w1,hlt2]) g6) ?_)
  rintro _ a7 w7 ⟨rfl,g7⟩
  clear g6
  refine wp_seq (GG.region sound1 (os1:=[_,_]) (os2:=[_,_,_,_,_,_]) (u:=26) (PP:=PP b3 b o init.length x ES) rfl (by
   have h:∀ ops:Array Oper,ops.all (operOk 52)=true→∀ o∈ops,operOk 52 o=true:=fun ops h o ho=>Array.all_eq_true_iff_forall_mem.1 h o ho
   exact h _ (by kernel_rfl)) g7 hxk ?_ ?_)
  ·rw[Ex.cells_eq]
   by_cases hx:x.kids=[]
   ·simp[ptr,zc,hx,PP,Ex.cellsL,cpl_nil]
   ·simp[ptr,zc,PP,cpl_some hx (by omega),hx]
  ·rintro env st a8 w8 ⟨p2,p3,p4,p5,p32,q0,q1,p30⟩ g8
   clear g7
   obtain⟨w9,b',ao,cap,e1,e2,hrun,hG⟩:=GG.turn (C:=C1) (ok':=fun id=>id<2) (st':=stOf [some (.box zc),some (.arr 1 ES)]) (u:=30) (t:=23) g8 (by simp) hi.mem hxk rfl (by
    rcases p30 with ⟨h1,h2⟩|⟨id,h1,h2,h3,h4⟩
    ·refine .inl ⟨h1,h2,?_⟩
     intro i blk h
     rcases i with _|_|i
     ·simp[stOf]at h;subst h;exact q0
     ·simp[stOf]at h;subst h;exact q1
     ·simp[stOf]at h
    ·refine .inr ⟨id,h1,h2,h3,?_⟩
     intro i blk h
     rcases i with _|_|i
     ·simp[stOf]at h;subst h;exact⟨by omega,q0⟩
     ·simp[stOf]at h;subst h;exact⟨by omega,q1⟩
     ·simp[stOf]at h) (by
    intro i blk h
    rcases i with _|_|i
    ·simp[stOf]at h;subst h;simp[LitBlk,zc]
    ·simp[stOf]at h;subst h;exact hlit
    ·simp[stOf]at h) (by
    intro i h
    rcases i with _|_|i
    ·omega
    ·omega
    ·simp[stOf]at h)
   have ev5:=g8.litAt (t:=5) p5
   have ev32:=g8.litAt (t:=32) p32
   refine wpOp_store (C:=C1) (w':=w9) rfl (by
    show(Instr.storeAt 23 (a8.tmps.getD 32 undef) (a8.tmps.getD 30 undef)).run C1.P w8=_
    rw[ev32];exact hrun) ?_
   have g9:=hG (envOf [(2, .own 0 0),(3, .i (ptr (b3,0))),(4, .osl 1 1 0 init.length),(5,(.i (.iref [.int x.kind, .int x.col, .bool x.val.null, .int x.val.n, .lit (.slice ao x.kids.length cap)])))]) (by
    intro t
    simp only[envOf]
    by_cases h2:t=2
    ·subst h2;exact .inr (.inr ⟨by simp[p2],by rw[p2];simp[Stays,stOf]⟩)
    by_cases h3:t=3
    ·subst h3;exact .inr (.inr ⟨by simp[p3],by rw[p3];simp[Stays,ptr]⟩)
    by_cases h4:t=4
    ·subst h4;exact .inr (.inr ⟨by simp[p4],by rw[p4];simp[Stays,stOf]⟩)
    by_cases h5:t=5
    ·subst h5;exact .inr (.inl ⟨ev5,by simp⟩)
    ·simp[h2,h3,h4,h5])
   clear hG g8
   show Code.wp _ _ _ _ _
   refine wp_seq (wp_mono (GG.codeA sound1 (G:=GS 136) (S:={ env:=[(2, .own 0 0),(3, .i (ptr (b3,0))),(4, .osl 1 1 0 init.length),(5,(.i (.iref [.int x.kind, .int x.col, .bool x.val.null, .int x.val.n, .lit (.slice ao x.kids.length cap)])))],st:=[some (.box zc),some (.arr 1 ES)] }) (e:=.normal) (S':={ env:=[(0, .junk),(2, .own 0 0),(3, .i (ptr (b3,0))),(4, .osl 1 1 0 init.length),(5,(.i (.iref [.int x.kind, .int x.col, .bool x.val.null, .int x.val.n, .lit (.slice ao x.kids.length cap)]))),(6, .junk),(13, .junk),(37, .int x.kids.length),(38, .int 0),(39, .junk)],st:=[some (.box zc),some (.arr 1 ES)] }) (by kernel_rfl) (by simp[ptr,zc]) g9) ?_)
   rintro _ a10 w10 ⟨rfl,g10⟩
   clear g9
   by_cases hx:x.kids=[]
   ·refine wp_mono (GG.codeA sound1 (G:=GS 136) (S:={ env:=[(0, .junk),(2, .own 0 0),(3, .i (ptr (b3,0))),(4, .osl 1 1 0 init.length),(5,(.i (.iref [.int x.kind, .int x.col, .bool x.val.null, .int x.val.n, .lit (.slice ao x.kids.length cap)]))),(6, .junk),(13, .junk),(37, .int x.kids.length),(38, .int 0),(39, .junk)],st:=[some (.box zc),some (.arr 1 ES)] }) (e:=.normal) (S':={ env:=[(0, .junk),(2, .own 0 0),(3, .i (ptr (b3,0))),(4, .osl 1 1 0 init.length),(5,(.i (.iref [.int x.kind, .int x.col, .bool x.val.null, .int x.val.n, .lit (.slice ao x.kids.length cap)]))),(6, .junk),(13, .junk),(37, .int x.kids.length),(38, .int 0),(39, .bool false)],st:=[some (.box zc),some (.arr 1 ES)] }) (by kernel_rfl) (by
     simp only[hx,List.length_nil]
     simp
     rw[execA_loop]
     simp[ptr,zc]) g10) ?_
    rintro _ a11 w11 ⟨rfl,g11⟩
    simp only[exitOf,Exit.then,Exit.inBlock]
    refine⟨n-1,by omega,init,((b,o),x)::X,K++kidsAt b' 0 x.kids,fun k hk=>List.mem_append_left _ (hsub k (by simp[hk])),List.mem_append_left _ hb3,?_,by omega,?_⟩
    ·rw[hx]at hxs;simp[Ex.sizeL]at hxs;omega
    ·have hES2:((init++((b,o),x)::X).map fun k=>[ptr k.1])=ES:=by rw[← hES];simp
     simp only[SL,hES2]
     exact g11.envTo (by
      intro t
      simp only[envOf]
      by_cases h2:t=2
      ·subst h2;simp
      by_cases h3:t=3
      ·subst h3;simp
      by_cases h4:t=4
      ·subst h4;simp
      ·simp[h2,h3,h4])
   ·obtain rfl:=e2 hx
    have hET:ES.take init.length=RW init b' 0:=by rw[← hES];simp[RW]
    have hEL:init.length≤ES.length:=by rw[← hES];simp
    have hlim:∀ i,i≤x.kids.length→(init.length+i+1)*8≤140737488355328:=fun i hi=>by omega
    have hk0:x.kids.length≠0:=fun h=>hx (List.length_eq_zero_iff.1 h)
    refine wp_mono (GG.codeA sound1 (G:=GS 136) (S:={ env:=[(0, .junk),(2, .own 0 0),(3, .i (ptr (b3,0))),(4, .osl 1 1 0 init.length),(5,(.i (.iref [.int x.kind, .int x.col, .bool x.val.null, .int x.val.n, .lit (.slice (some ⟨b',0,none⟩) x.kids.length cap)]))),(6, .junk),(13, .junk),(37, .int x.kids.length),(38, .int 0),(39, .junk)],st:=[some (.box zc),some (.arr 1 ES)] }) (e:=.normal) (S':={ env:=[(0, .junk),(2, .own 0 0),(3, .i (ptr (b3,0))),(4, .osl 2 1 0 (init.length+x.kids.length)),(5,(.i (.iref [.int x.kind, .int x.col, .bool x.val.null, .int x.val.n, .lit (.slice (some ⟨b',0,none⟩) x.kids.length cap)]))),(6, .int (x.kids.length-1)),(13, .junk),(37, .int x.kids.length),(38, .int x.kids.length),(39, .bool false)],st:=[some (.box zc),none,some (.arr 1 (RW init b' x.kids.length))] }) (by kernel_rfl) (by
     simp
     rw[loop_to (YS b3 b' cap x init ES) x.kids.length (by simp[YS])]
     ·rw[execA_loop]
      simp[YS,hk0,jk_pos hk0,zc,ptr]
     ·intro i hi
      have w2:IntKind.i64.wrap ((i:Int)+1)=i+1:=wrap64 (by omega) (by omega)
      have hi0:(i:Int)<x.kids.length:=by omega
      by_cases h0:i=0
      ·subst h0
       have hl:(init.length+1)*8≤140737488355328:=by omega
       have hR:RW init b' 0++[[.lit (.pointer (some ⟨b',0,none⟩))]]=RW init b' 1:=by simpa [ptr]using RW_succ init b' 0
       simp[YS,zc,ptr,wrap_1',hi,hET,hEL,hl,hR]
      ·have hl:=hlim i (by omega)
       have hT:(RW init b' i).take (init.length+i)=RW init b' i:=List.take_of_length_le (by rw[RW_len];omega)
       have hR:RW init b' i++[[.lit (.pointer (some ⟨b',i*5,none⟩))]]=RW init b' (i+1):=by simpa [ptr]using RW_succ init b' i
       simp[YS,h0,jk_pos h0,zc,ptr,w2,hi,hT,RW_len,hl,hR,← Nat.add_assoc]) g10) ?_
    rintro _ a11 w11 ⟨rfl,g11⟩
    simp only[exitOf,Exit.then,Exit.inBlock]
    refine⟨n-1,by omega,init++kidsAt b' 0 x.kids,[],K++kidsAt b' 0 x.kids,?_,List.mem_append_left _ hb3,?_,by omega,?_⟩
    ·intro k hk
     rcases List.mem_append.1 hk with h|h
     ·exact List.mem_append_left _ (hsub k (by simp[h]))
     ·exact List.mem_append_right _ h
    ·rw[List.map_append,List.sum_append,kidsAt_sum];omega
    ·have g12:=g11.settle [2,3,4]
     have hR:List.map (fun k:(Nat×Nat)×Ex=>[ptr k.1]) (init++kidsAt b' 0 x.kids++[])=RW init b' x.kids.length:=by
      rw[List.append_nil,List.map_append,kidsAt_map];simp[RW]
     have hl:(init++kidsAt b' 0 x.kids).length=init.length+x.kids.length:=by rw[List.length_append,kidsAt_len]
     simp only[SL,hR,hl]
     have hs:Av.settle [2,3,4] 0 (envOf [(0, .junk),(2, .own 0 0),(3, .i (ptr (b3,0))),(4, .osl 2 1 0 (init.length+x.kids.length)),(5, .i (.iref [.int x.kind, .int x.col, .bool x.val.null, .int x.val.n, .lit (.slice (some ⟨b',0,none⟩) x.kids.length cap)])),(6, .int (x.kids.length-1)),(13, .junk),(37, .int x.kids.length),(38, .int x.kids.length),(39, .bool false)]) (stOf [some (.box zc),none,some (.arr 1 (RW init b' x.kids.length))])={ env:=[(2, .own 0 0),(3, .i (ptr (b3,0))),(4, .osl 1 1 0 (init.length+x.kids.length))],st:=[some (.box zc),some (.arr 1 (RW init b' x.kids.length))] }:=by
      simp[zc,ptr]
     rw[hs]at g12
     exact g12.envTo (by
      intro t
      simp only[envOf]
      by_cases h2:t=2
      ·subst h2;simp
      by_cases h3:t=3
      ·subst h3;simp
      by_cases h4:t=4
      ·subst h4;simp
      ·simp[h2,h3,h4])
theorem load_run {w:World} {m:Mem} {φ:Pl} {st:Store} {t:TypeId} {a v:AV} {x:Value} (hi:Inv w m φ st) (hr:Rep m φ a x) (h:loadA C1 t a st=some v):∃ y,(Instr.loadAt t x).run C1.P w=.ok y w∧Rep m φ v y:=by
 obtain⟨ad,y,k1,k2,k3⟩:=loadA_sound hi hr h
 exact⟨y,by subst k1;simpa [Instr.loadAt,Instr.sureAddr]using k2,k3⟩
theorem inv_none {w:World} {m:Mem} (h:MemOk w m):Inv w m (fun _=>none) (stOf []):=⟨h,fun id blk e=>(by simp[stOf]at e),fun i j b b' n n' b1 b2 f e=>(by simp[stOf]at e),fun _ _ _ _ e=>(by cases e)⟩
theorem copied_calls {e:Ex} (he:e.size<1000000000) {wi:World} {mi:Mem} {φ:Pl} {vs:List Value} (hi:Inv wi mi φ (stOf [])) (hr:RepL mi φ [.i (.iref e.cells)] vs) (h0:∀ id,φ id≠none→id<0) :
 Calls Tryz.prog 136 vs.toArray wi (CallPost wi mi φ (.i (.agg e.cells)) []):=by
 obtain rfl:φ=fun _=>none:=by
  funext id
  cases h:φ id with
  | none=>rfl
  | some p=>exact absurd (h0 id (by rw[h];simp)) (Nat.not_lt_zero _)
 cases hr with
 | cons h1 h2 =>
  cases h2
  have hp:=h1
  cases h1 with
  | i h1=>cases h1 with
   | iref ha =>
    refine copied_at he hi fun w' hs hw=>?_
    obtain⟨y,k1,k2⟩:=load_run (t:=43) (v:=.i (.agg e.cells)) (hi.later hs hw) hp (by rw[Ex.cells_eq];simp)
    cases k2 with
    | i k2=>exact⟨y,k1,k2⟩
theorem copied_row {e:Ex} (he:e.size<1000000000) {w:World} {m:Mem} {φ:Pl} {vs:List Value} {es:List (List IV)} {j:Nat} (hes:es[j]?=some e.cells) (hi:Inv w m φ (stOf [some (.arr 5 es)])) (hr:RepL m φ [.ownE 0 5 j 0] vs) (h0:∀ id,φ id≠none→id<1) :
 Calls Tryz.prog 136 vs.toArray w (CallPost w m φ (.i (.agg e.cells)) [some (.arr 5 es)]):=by
 cases hr with
 | cons h1 h2 =>
  cases h2
  have hp:=h1
  cases h1 with
  | ownE hφ =>
   refine(copied_at he (inv_none hi.mem) fun w' hs hw=>?_).mono ?_
   ·obtain⟨y,k1,k2⟩:=load_run (t:=43) (v:=.i (.agg e.cells)) (hi.later hs hw) hp (by
     have h5:=hes
     rw[← nthE_eq]at h5
     rw[Ex.cells_eq]at h5 ⊢;simp[h5])
    cases k2 with
    | i k2=>exact⟨y,k1,k2⟩
   ·rintro en w' ⟨v,m',φ',rfl,j1,j2,j3,j4⟩
    have free0:∀ b,Free (fun _=>none) b:=fun b id r n e=>by cases e
    have hsame:∀ f,f<w.heap.size→w'.heap[f]?=w.heap[f]?:=fun f hf=>j3.block f hf (free0 f)
    refine⟨v,m',φ,rfl,?_,⟨j2.mem,fun id blk hb=>?_,hi.inj,fun id b n f e ho=>Nat.lt_of_lt_of_le (hi.low id b n f e ho) j3.size⟩,⟨j3.size,j3.os,j3.tape,j3.output,fun b hb' _=>hsame b hb',j3.mle,fun b hb' _ o=>j3.mnew b hb' (free0 b) o, .refl _,fun _ _ _ _ e ho=>.inr (Free.not e ho)⟩,h0⟩
    ·cases j1 with
     | i j1=>exact .i j1
    ·obtain⟨b,n,k1,k2,k3⟩:=hi.live id blk hb
     exact⟨b,n,k1,⟨k2.1,fun f hf=>Nat.lt_of_lt_of_le (k2.2 f hf) j3.size⟩,k3.mono k2.1 (fun f hf=>hsame f (k2.2 f hf)) j3.mle (.refl _) fun f hf o=>j3.mnew f (k2.2 f hf) (free0 f) o⟩
end Go.Proofs.YtiailccmofdhfaaGreat
namespace Go.Proofs.YtiailccmofdhfaaGreat.G
open Go Go.Av
set_option maxRecDepth 4000
set_option maxHeartbeats 4000000
noncomputable def prim2:FuncId→Option (List AV→StL→Option (AV×StL))
 | 136=>some copyE
 | _=>none
noncomputable def C2:Ctx:={ P:=Tryz.prog,G:=GS,ownArgs:=ownA,keepRes:=keepR,eqT:=eqTy,prim:=prim2 }
@[simp] theorem C2_P:C2.P=Tryz.prog:=(rfl)
@[simp] theorem C2_G (f):C2.G f=GS f:=(rfl)
@[simp] theorem C2_o (f):C2.ownArgs f=ownA f:=(rfl)
@[simp] theorem C2_k (f):C2.keepRes f=keepR f:=(rfl)
@[simp] theorem C2_e (f):C2.eqT f=eqTy f:=(rfl)
@[simp] theorem C2_t:C2.tree=false:=(rfl)
theorem prim2_ok:PrimOk C2:=by
 have key:∀ g q,C2.prim g=some q→g=136∧q=copyE:=by
  intro g q h
  have h:prim2 g=some q:=h
  unfold prim2 at h
  split at h
  ·injection h with h;exact⟨rfl,h.symm⟩
  ·cases h
 constructor
 ·intro g args st p h
  unfold primCall at h
  cases hq:C2.prim g with
  | none=>rw[hq]at h;cases h
  | some q =>
   obtain⟨rfl,rfl⟩:=key g q hq
   exact⟨Tryz.f136,Tryz.func136,by decide,rfl⟩
 ·intro g args stl r stl' h w m φ vs hi hr h0
  unfold primCall at h
  cases hq:C2.prim g with
  | none=>rw[hq]at h;cases h
  | some q =>
   obtain⟨rfl,rfl⟩:=key g q hq
   rw[hq]at h
   obtain⟨e,he,hres,hor⟩:=copyE_some h
   injection hres with h1 h2
   subst h1;subst h2
   rcases hor with ⟨rfl,rfl⟩|⟨j,es,rfl,rfl,hes⟩
   ·exact copied_calls he hi hr h0
   ·exact copied_row he hes hi hr h0
theorem sound2:SoundOk C2:=sound_ok (C:=C2) ft nt eqS mo prim2_ok
theorem cE_nil:callA C2 134 [.i (.isl [])] []=some (.nils,[]):=by
 rw[callA_eq rfl Tryz.func134 rfl rfl];simp
theorem cE_some {ks:List Ex} (h:ks≠[]) (hl:ks.length<1000000000):callA C2 134 [.i (.isl (Ex.cellsL ks))] []=some (.osl 0 5 0 ks.length,[some (.arr 5 (Ex.cellsL ks))]):=by
 rw[callA_eq rfl Tryz.func134 rfl rfl]
 have h1:56*(ks.length:Int)≤281474976710656:=by omega
 simp[h,h1]
 unfold over
 simp
theorem cI_nil:callA C2 135 [.i (.isl [])] []=some (.nils,[]):=by
 rw[callA_eq rfl Tryz.func135 rfl rfl];simp
theorem cI_some {l:List Int} (h:l≠[]) (hl:l.length<1000000000):callA C2 135 [.i (.isl (intsL l))] []=some (.osl 0 1 0 l.length,[some (.arr 1 (intsL l))]):=by
 rw[callA_eq rfl Tryz.func135 rfl rfl]
 have h1:8*(l.length:Int)≤281474976710656:=by omega
 simp[h,h1]
 unfold over
 simp
theorem cP_nil:callA C2 137 [.i (.isl [])] []=some (.nils,[]):=by
 rw[callA_eq rfl Tryz.func137 rfl rfl];simp
theorem cP_some {ks:List Pn} (h:ks≠[]) (hl:ks.length<1000000000):callA C2 137 [.i (.isl (Pn.cellsL ks))] []=some (.osl 0 5 0 ks.length,[some (.arr 5 (Pn.cellsL ks))]):=by
 rw[callA_eq rfl Tryz.func137 rfl rfl]
 have h1:88*(ks.length:Int)≤281474976710656:=by omega
 simp[h,h1]
 unfold over
 simp
theorem cX_row {e:Ex} {es:List (List IV)} {j:Nat} (h:e.size<1000000000) (he:nthE es j=some e.cells):callA C2 136 [.ownE 0 5 j 0] [some (.arr 5 es)]=some (.i (.agg e.cells),[some (.arr 5 es)]):=by
 rw[callA_prim (p:=copyE) rfl];exact copyE_row h (by rw[← nthE_eq];exact he)
def zp:List AV:=[.int 0, .int 0, .nils, .nils, .nils]
def EV (b3:Nat) (v4 v5 v6 v7 v14 v38 v39 v40 v76 v77 v78:AV):List (Nat×AV):=[(0, .junk),(2, .own 0 0),(3, .i (ptr (b3,0))),(4,v4),(5,v5),(6,v6),(7,v7),(14,v14),(38,v38),(39,v39),(40,v40),(76,v76),(77,v77),(78,v78)]
def rowsP (l:PL):List (List IV):=l.map fun k=>[ptr k.1]
def SLp (b3:Nat) (todo X:PL):AS:={ env:=EV b3 (.osl 1 1 0 todo.length) .junk .junk .junk .junk .junk .junk .junk .junk .junk .junk,st:=[some (.box zp),some (.arr 1 (rowsP (todo++X)))] }
def SRp (b3 n o:Nat) (ES:List (List IV)) (v6 v7 v14 v38 v39 v40 v76 v77 v78:AV) (cells:List AV) (L:StL):AS:={ env:=EV b3 (.osl 1 1 0 n) (.own 2 o) v6 v7 v14 v38 v39 v40 v76 v77 v78,st:=some (.box zp)::some (.arr 1 ES)::some (.box cells)::L }
theorem ptr_lits:∀ (l:PL),∀ c∈(rowsP l).flatten,∃ v,c=.lit v
 | [],c,h=>by simp[rowsP]at h
 | k::l,c,h=>by
  simp only[rowsP,List.map_cons,List.flatten_cons,List.mem_append,List.mem_singleton]at h
  rcases h with rfl|h
  ·exact⟨_,rfl⟩
  ·exact ptr_lits l c h
theorem stOf_upd2 (a b x:Option Blk):upd (stOf [a,b]) 2 x=stOf [a,b,x]:=by
 funext i;rcases i with _|_|_|i<;>simp[stOf,upd]
theorem envEV (b3:Nat) (v4 v5 v5' v6 v7 v14 v38 v39 v40 v76 v77 v78:AV):upd (envOf (EV b3 v4 v5 v6 v7 v14 v38 v39 v40 v76 v77 v78)) 5 v5'=envOf (EV b3 v4 v5' v6 v7 v14 v38 v39 v40 v76 v77 v78):=by
 funext t
 simp only[upd,EV,envOf]
 by_cases h5:t=5
 ·subst h5;simp
 ·simp only[h5,if_false]
def XS (b3 n:Nat) (ES:List (List IV)) (pre post:List Value) (k t:Int) (es:List Ex) (aC aK:AV) (v14:AV) (i:Nat):AS :=
 SRp b3 n pre.length ES (jk i (.int (i-1))) .junk v14 (.int es.length) (.int i) (jk i (.bool true)) .junk .junk .junk (boxL pre [.int k, .int t, .osl 3 5 0 es.length,aC,aK] post) [some (.arr 5 (Ex.cellsL es))]
set_option maxHeartbeats 8000000
def jj:List (Nat×AV):=[(4, .junk),(5, .junk),(6, .junk),(7, .junk),(14, .junk),(38, .junk),(39, .junk),(40, .junk),(76, .junk),(77, .junk),(78, .junk)]
theorem stTrue:Stab (fun _ _ _=>True):=fun _ _ _ _ _ _ _ _=>trivial
theorem wrap_1p:IntKind.i64.wrap 1=1:=wrap64 (by omega) (by omega)
def RWp (init:PL) (b' i:Nat):List (List IV):=rowsP init++(List.range i).map fun j=>[ptr (b',j*5)]
theorem RWp_len (init:PL) (b' i:Nat):(RWp init b' i).length=init.length+i:=by simp[RWp,rowsP]
theorem RWp_succ (init:PL) (b' i:Nat):RWp init b' i++[[ptr (b',i*5)]]=RWp init b' (i+1):=by simp[RWp,List.range_succ]
theorem kidsP_rows (b:Nat):∀ (o:Nat) (l:List Pn),rowsP (kidsP b o l)=(List.range l.length).map fun j=>[ptr (b,o+j*5)]
 | _,[]=>by simp[kidsP,rowsP]
 | o,a::l=>by
  have ih:=kidsP_rows b (o+5) l
  simp only[rowsP]at ih ⊢
  simp only[kidsP,List.map_cons,ih,List.length_cons,List.range_succ_eq_map,List.map_map]
  simp only[List.cons.injEq,Nat.zero_mul,Nat.add_zero,true_and]
  apply List.map_congr_left
  intro j _
  simp only[Function.comp,Nat.succ_eq_add_one]
  rw[show o+5+j*5=o+(j+1)*5 by omega]
theorem kidsP_len (b:Nat):∀ (o:Nat) (l:List Pn),(kidsP b o l).length=l.length
 | _,[]=>rfl
 | o,a::l=>by simp[kidsP,kidsP_len b (o+5) l]
theorem kidsP_sum (b:Nat):∀ (o:Nat) (l:List Pn),((kidsP b o l).map fun k=>k.2.size).sum=Pn.sizeL l
 | _,[]=>by simp[kidsP,Pn.sizeL]
 | o,a::l=>by simp[kidsP,Pn.sizeL,kidsP_sum b (o+5) l]
theorem kidsP_mem {b:Nat}:∀ {o:Nat} {l:List Pn},∀ q∈kidsP b o l,q.2∈l∧q.1.1=b
 | _,[],q,h=>by simp[kidsP]at h
 | o,a::l,q,h=>by
  simp only[kidsP,List.mem_cons]at h
  rcases h with rfl|h
  ·simp
  ·have:=kidsP_mem q h;exact⟨by simp[this.1],this.2⟩
def iE (es:List Ex):Nat:=if es.length=0 then 100 else 3
def lE (es:List Ex):StL:=if es.length=0 then []else [some (.arr 5 (Ex.cellsL es))]
def iC (es:List Ex) (cs:List Int):Nat:=if cs.length=0 then 101 else 3+(lE es).length
def lC (es:List Ex) (cs:List Int):StL:=if cs.length=0 then lE es else lE es++[some (.arr 1 (intsL cs))]
def iK (es:List Ex) (cs:List Int) (ks:List Pn):Nat:=if ks.length=0 then 102 else 3+(lC es cs).length
def lK (es:List Ex) (cs:List Int) (ks:List Pn):StL:=if ks.length=0 then lC es cs else lC es cs++[some (.arr 5 (Pn.cellsL ks))]
def YP (b3 n o:Nat) (ES:List (List IV)) (init:PL) (b' nk:Nat) (cells:List AV) (i:Nat):AS :=
 { env:=EV b3 (if i=0 then .osl 1 1 0 n else .osl 3 1 0 (n+i)) (.own 2 o) .junk (jk i (.int (i-1))) (.bool true) .junk .junk .junk (.int nk) (.int i) (jk i (.bool true)),
   st:=some (.box zp)::(if i=0 then some (.arr 1 ES)else none)::some (.box cells)::(if i=0 then []else [some (.arr 1 (RWp init b' i))]) }
theorem stOf_last (a b c:Option Blk):∀ (l:StL) {x:Option Blk},stOf (a::b::c::(l++[x])) (3+l.length)=x:=by
 intro l x
 rw[stOf_get]
 have:(a::b::c::(l++[x]))[3+l.length]?=some x:=by
  rw[show 3+l.length=l.length+1+1+1 by omega]
  simp
 rw[this];rfl
theorem copiedRaw_calls {p:Pn} (hsz:p.size<1000000000) (hth:p.thin) (hty:p.tiny) {wi:World} {mi:Mem} {vs:List Value} (hi:Inv wi mi (fun _=>none) (stOf [])) (hr:RepL mi (fun _=>none) [.i (.iref p.cells)] vs) :
 Calls Tryz.prog 92 vs.toArray wi (RawPost wi mi p):=by
 refine calls_of_wp (fn:=Tryz.f92) Tryz.func92 rfl ?_
 have hv1:vs.length=1:=by simpa using hr.length.symm
 have g0:GR wi mi 91 (fun id=>id<({ env:=[(0, .i (.iref p.cells))],st:=[] }:AS).st.length) (fun _ _ _=>True) (envOf [(0, .i (.iref p.cells))]) (stOf []) { tmps:=vs.toArray++Array.replicate (91-vs.toArray.size) undef,defers:=[] } wi:=by
  refine⟨⟨mi,fun _=>none,hi,?_, .refl _ _ _,fun id h=>absurd rfl h,trivial⟩,by simp;omega,rfl⟩
  intro t
  have:=enter_rep (m:=mi) (φ:=fun _=>none) (91-vs.toArray.size) hr t
  cases t with
  | zero=>simpa [envOf,argAt]using this
  | succ t=>simp only[envOf];simp;exact .junk _
 refine wp_seq (wp_mono (GR.codeA sound2 (G:=GS 92) (S:={ env:=[(0, .i (.iref p.cells))],st:=[] }) (e:=.normal) (S':={ env:=[(0, .i (.iref p.cells)),(2, .own 0 0),(3, .junk)]++jj,st:=[some (.box zp)] }) stTrue (by kernel_rfl) (by simp[zp,jj]) g0) ?_)
 rintro _ a1 w1 ⟨rfl,g1⟩
 refine wp_seq (wp_mono (GR.codeA sound2 (G:=GS 92) (S:={ env:=[(0, .i (.iref p.cells)),(2, .own 0 0),(3, .junk)]++jj,st:=[some (.box zp)] }) (e:=.normal) (S':={ env:=[(0, .i (.iref p.cells)),(2, .own 0 0),(3, .own 1 0)]++jj,st:=[some (.box zp),some (.box (impI p.cells))] }) stTrue (by kernel_rfl) (by rw[Pn.cells_eq];simp[zp,jj]) g1) ?_)
 rintro _ a2 w2 ⟨rfl,g2⟩
 obtain⟨b3,g3⟩:=g2.pubP (u:=3) (id:=1) (p:=p) (st':=stOf [some (.box zp)]) rfl rfl (by
  intro i blk h
  cases i with
  | zero=>simp[stOf]at h;subst h;exact⟨by omega,rfl,by simp[LitBlk,zp]⟩
  | succ i=>simp[stOf]at h)
 have g3:=g3 (envOf [(2, .own 0 0),(3, .i (ptr (b3,0)))]) (by
  intro t
  simp only[envOf]
  by_cases h2:t=2
  ·subst h2;exact .inr (.inr ⟨rfl,by simp[envOf,Stays,stOf,jj]⟩)
  ·by_cases h3:t=3
   ·subst h3;exact .inr (.inl ⟨rfl,rfl⟩)
   ·simp[h2,h3])
 have g3:=g3.ok' (ok':=fun id=>id<({ env:=[(2, .own 0 0),(3, .i (ptr (b3,0)))],st:=[some (.box zp)] }:AS).st.length) (by
  intro i h
  cases i with
  | zero=>simp
  | succ i=>simp[stOf]at h)
 refine wp_seq (wp_mono (GR.codeA sound2 (G:=GS 92) (S:={ env:=[(2, .own 0 0),(3, .i (ptr (b3,0)))],st:=[some (.box zp)] }) (e:=.normal) (S':=SLp b3 [((b3,0),p)] []) (RAW.stab _ _ _ _ _) (by kernel_rfl) (by simp[SLp,EV,rowsP,ptr,zp]) g3) ?_)
 rintro _ a3 w3 ⟨rfl,g4⟩
 clear g0 g1 g2 g3
 refine wp_seq (wp_block ?_)
 refine wp_loop_n (fun n a w=>∃ (todo X H:PL) (F:List Nat),H.Perm todo∧(todo.map fun k=>k.2.size).sum=n∧n<1000000000∧(∀ q∈todo,q.2.thin∧q.2.tiny)∧GR wi mi 91 (fun id=>id<(SLp b3 todo X).st.length) (RAW wi b3 p F H) (envOf (SLp b3 todo X).env) (stOf (SLp b3 todo X).st) a w) ?_ (n:=p.size) ⟨[((b3,0),p)],[],[((b3,0),p)],[], .refl _,by simp,hsz,by simpa using ⟨hth,hty⟩,g4⟩
 clear g4
 rintro n a w ⟨todo,X,H,F,hperm,hsum,hn,hall,g⟩
 rcases List.eq_nil_or_concat todo with rfl|⟨init,k,rfl⟩
 ·obtain rfl:=List.perm_nil.1 hperm
  refine wp_mono (GR.codeA sound2 (G:=GS 92) (S:=SLp b3 [] X) (e:=.exit 0) (S':={ env:=EV b3 (.osl 1 1 0 0) .junk .junk .junk (.bool false) .junk .junk .junk .junk .junk .junk,st:=[some (.box zp),some (.arr 1 (rowsP X))] }) (RAW.stab _ _ _ _ _) (by kernel_rfl) (by simp[SLp,EV,zp]) g) ?_
  rintro _ a5 w5 ⟨rfl,g5⟩
  simp only[exitOf,Exit.then,Exit.inBlock,if_true]
  obtain⟨v0,v1,v2,v3,v4,post,hone,g6⟩:=g5.adoptC (u:=3) (k:=2) rfl rfl (by simp)
  have g6:=(g6 (envOf [(2, .own 0 0),(3, .own 2 0)]) (by
   intro t
   simp only[envOf]
   by_cases h2:t=2
   ·subst h2;exact .inr (.inr (by simp[envOf,EV]))
   ·by_cases h3:t=3
    ·subst h3;exact .inr (.inl ⟨rfl,rfl⟩)
    ·simp[h2,h3])).ok' (ok':=fun id=>id<({ env:=[(2, .own 0 0),(3, .own 2 0)],st:=[some (.box zp),some (.arr 1 (rowsP X)),some (.box (litVs [v0,v1,v2,v3,v4]++litVs post))] }:AS).st.length) (by
   intro i h
   simp at h ⊢;omega)
  rw[stOf_upd2]at g6
  refine wp_mono (GR.codeA sound2 (G:=GS 92) (S:={ env:=[(2, .own 0 0),(3, .own 2 0)],st:=[some (.box zp),some (.arr 1 (rowsP X)),some (.box (litVs [v0,v1,v2,v3,v4]++litVs post))] }) (e:=.ret) (S':={ env:=[(0, .junk),(2, .own 0 0),(3, .own 2 0)]++jj,st:=[some (.box (litVs [v0,v1,v2,v3,v4])),some (.arr 1 (rowsP X)),some (.box (litVs [v0,v1,v2,v3,v4]++litVs post))] }) (CPY.stab _ _ _ _ _ _ _ _) (by kernel_rfl) (by
   have hz:litVs [v0,v1,v2,v3,v4]=[.i (.lit v0), .i (.lit v1), .i (.lit v2), .i (.lit v3), .i (.lit v4)]:=rfl
   rw[hz]
   simp[zp,jj,idsOf_litVs,renL_litVs]) g6) ?_
  rintro _ a6 w6 ⟨rfl,g7⟩
  obtain⟨⟨m,φ,q1,q2,q3,q4,q5⟩,q6,q7⟩:=g7
  obtain⟨v,k1,k2⟩:=finish_sound (C:=C2) (fn:=Tryz.f92) (keep:=false) (na:=0) (S:={ env:=[(0, .junk),(2, .own 0 0),(3, .own 2 0)]++jj,st:=[some (.box (litVs [v0,v1,v2,v3,v4])),some (.arr 1 (rowsP X)),some (.box (litVs [v0,v1,v2,v3,v4]++litVs post))] }) (r:=.i (.agg [.lit v0, .lit v1, .lit v2, .lit v3, .lit v4])) (stl':=[]) (fun id h=>absurd rfl h) ⟨⟨⟨m,φ,q1,q2,q3,q4, .nil _ _ _⟩,q6,q7⟩,Nat.zero_le _⟩ (by
   show finish C2 false [ResultVar.cell 2 27] 0 _=_
   have hz:litVs [v0,v1,v2,v3,v4]=[.i (.lit v0), .i (.lit v1), .i (.lit v2), .i (.lit v3), .i (.lit v4)]:=rfl
   rw[hz]
   simp)
  have hv:v=.agg #[v0,v1,v2,v3,v4]:=by
   obtain⟨_,_,_,e,r,_⟩:=k2
   injection e with e
   subst e
   cases r with
   | i r=>cases r with
    | agg r =>
     cases r with|cons a0 _ r=>cases r with|cons a1 _ r=>cases r with|cons a2 _ r=>cases r with|cons a3 _ r=>cases r with|cons a4 _ r =>
     cases r
     rw[lit_inv a0,lit_inv a1,lit_inv a2,lit_inv a3,lit_inv a4]
  subst hv
  refine⟨q7,_,k1,v0,v1,v2,v3,v4,F,m,rfl,hone,q1.mem,⟨q3.size,q3.os,q3.tape,q3.output,q3.block,q3.mle,q3.mnew, .refl _,fun _ _ _ _ e=>by cases e⟩,q5.th,q5.cells,q5.nd,fun f hf=>?_⟩
  obtain⟨z1,z2,z3,z4,z5⟩:=q5.all f hf
  exact⟨z1,z2,(by intro _ _ _ e;cases e),z4,z5⟩
 ·obtain⟨⟨b,o⟩,x⟩:=k
  rw[List.concat_eq_append]at hperm hsum hall g
  have hlen:∀ l:PL,l.length≤(l.map fun k=>k.2.size).sum:=by
   intro l
   induction l with
   | nil=>simp
   | cons a l ih=>have:=Pn.size_pos a.2;simp;omega
  have hil:=hlen init
  simp at hsum
  have hq:((b,o),x)∈H:=hperm.mem_iff.2 (by simp)
  have hxs:=Pn.size_eq x
  have hkl:=Pn.sizeL_length x.kids
  have hpos:(0:Int)<(init.length:Int)+1:=by omega
  have w1:IntKind.i64.wrap (init.length:Int)=init.length:=wrap64 (by omega) (by omega)
  generalize hES:rowsP (init++[((b,o),x)]++X)=ES at *
  have hnth:nthE ES init.length=some [ptr (b,o)]:=by
   rw[nthE_eq,← hES];simp[rowsP]
  have hlit:∀ c∈ES.flatten,∃ v,c=.lit v:=by rw[← hES];exact ptr_lits _
  have htake:ES.take init.length=rowsP init:=by rw[← hES];simp[rowsP]
  have hESl:init.length≤ES.length:=by rw[← hES];simp[rowsP]
  have hlt:(init.length:Int)<(init.length:Int)+1:=by omega
  have hlt2:(init.length:Int)≤(init.length:Int)+1:=by omega
  obtain⟨hxt,hxy⟩:=hall ((b,o),x) (by simp)
  simp only at hxt hxy
  refine wp_seq (wp_mono (GR.codeA sound2 (G:=GS 92) (S:=SLp b3 (init++[((b,o),x)]) X) (e:=.normal) (S':={ env:=EV b3 (.osl 1 1 0 (init.length+1)) .junk .junk .junk (.bool true) .junk .junk .junk .junk .junk .junk,st:=[some (.box zp),some (.arr 1 ES)] }) (RAW.stab _ _ _ _ _) (by kernel_rfl) (by simp only[SLp,hES];simp[EV,zp,hpos]) g) ?_)
  rintro _ a5 w5 ⟨rfl,g5⟩
  clear g
  refine wp_block ?_
  refine wp_seq (wp_mono (GR.codeA sound2 (G:=GS 92) (S:={ env:=EV b3 (.osl 1 1 0 (init.length+1)) .junk .junk .junk (.bool true) .junk .junk .junk .junk .junk .junk,st:=[some (.box zp),some (.arr 1 ES)] }) (e:=.normal) (S':={ env:=EV b3 (.osl 1 1 0 (init.length+1)) (.i (ptr (b,o))) .junk .junk (.bool true) .junk .junk .junk .junk .junk .junk,st:=[some (.box zp),some (.arr 1 ES)] }) (RAW.stab _ _ _ _ _) (by kernel_rfl) (by simp only[ptr]at hnth;simp[EV,ptr,zp,hnth,w1,hlt]) g5) ?_)
  rintro _ a6 w6 ⟨rfl,g6⟩
  clear g5
  refine wp_seq (wp_mono (GR.codeA sound2 (G:=GS 92) (S:={ env:=EV b3 (.osl 1 1 0 (init.length+1)) (.i (ptr (b,o))) .junk .junk (.bool true) .junk .junk .junk .junk .junk .junk,st:=[some (.box zp),some (.arr 1 ES)] }) (e:=.normal) (S':={ env:=EV b3 (.osl 1 1 0 init.length) (.i (ptr (b,o))) .junk .junk (.bool true) .junk .junk .junk .junk .junk .junk,st:=[some (.box zp),some (.arr 1 ES)] }) (RAW.stab _ _ _ _ _) (by kernel_rfl) (by simp[EV,ptr,zp,w1,hlt2]) g6) ?_)
  rintro _ a7 w7 ⟨rfl,g7⟩
  clear g6
  obtain⟨pre,post,us,ma,e1,e2,e3,e4,e5,g8⟩:=g7.adopt (u:=5) (y:=x) rfl (by simp) hq rfl
  clear g7
  rw[envEV,stOf_upd2]at g8
  subst e3
  obtain⟨kd,tb,es,cs,ks⟩:=x
  obtain⟨t1,t2,t3,t4,t5⟩:=(Pn.thin_iff _).1 hxt
  obtain⟨y1,y2⟩:=(Pn.tiny_iff _).1 hxy
  simp only[Pn.kids_mk,Pn.exprs_mk,Pn.cols_mk]at t1 t2 t3 t4 t5 y1 y2 hxs hkl
  rw[Pn.cells_mk]at g8
  have hst:=ADP.stab wi b3 p F H b us w7 ma
  refine wp_seq (wp_mono (GR.codeA sound2 (G:=GS 92) (S:=SRp b3 init.length pre.length ES .junk .junk (.bool true) .junk .junk .junk .junk .junk .junk (boxL pre [.int kd, .int tb, .i (.isl (Ex.cellsL es)), .i (.isl (intsL cs)), .i (.isl (Pn.cellsL ks))] post) []) (e:=.normal) (S':=SRp b3 init.length pre.length ES .junk .junk (.bool true) .junk .junk .junk .junk .junk .junk (boxL pre [.int kd, .int tb,slA es.length (iE es) 5, .i (.isl (intsL cs)), .i (.isl (Pn.cellsL ks))] post) (lE es)) hst (by kernel_rfl) (by
   by_cases he:es=[]
   ·subst he
    simp[SRp,EV,zp,tkB2,splB2,idsOfL_boxL,renL_boxL,Ex.cellsL,cE_nil,slA,lE]
   ·have hel:es.length≠0:=fun h=>he (List.length_eq_zero_iff.1 h)
    simp[SRp,EV,zp,tkB2,splB2,idsOfL_boxL,renL_boxL,cE_some he t1,slA,lE,iE,he]) (g8.ok' fun id h=>by simp at h ⊢;simp[SRp];omega)) ?_)
  rintro _ a9 w9 ⟨rfl,g9⟩
  clear g8
  refine wp_seq (wp_mono (GR.codeX sound2 (G:=GS 92) (S:=SRp b3 init.length pre.length ES .junk .junk (.bool true) .junk .junk .junk .junk .junk .junk (boxL pre [.int kd, .int tb,slA es.length (iE es) 5, .i (.isl (intsL cs)), .i (.isl (Pn.cellsL ks))] post) (lE es)) hst
   (PP:=fun e S'=>e=.normal∧∃ v6 v38 v39 v40,S'=SRp b3 init.length pre.length ES v6 .junk (.bool true) v38 v39 v40 .junk .junk .junk (boxL pre [.int kd, .int tb,slA es.length (iE es) 5, .i (.isl (intsL cs)), .i (.isl (Pn.cellsL ks))] post) (lE es)) (by kernel_rfl) (by
   by_cases he:es=[]
   ·subst he
    refine⟨.normal,SRp b3 init.length pre.length ES .junk .junk (.bool true) (.int 0) (.int 0) (.bool false) .junk .junk .junk (boxL pre [.int kd, .int tb,slA 0 (iE []) 5, .i (.isl (intsL cs)), .i (.isl (Pn.cellsL ks))] post) (lE []),?_,rfl,_,_,_,_,rfl⟩
    simp[SRp,EV,zp,tkB2,splB2,idsOfL_boxL,renL_boxL,slA,lE]
    rw[execA_loop]
    simp[idsOfL_boxL,renL_boxL]
   ·have hel:es.length≠0:=fun h=>he (List.length_eq_zero_iff.1 h)
    refine⟨.normal,SRp b3 init.length pre.length ES (.int (es.length-1)) .junk (.bool true) (.int es.length) (.int es.length) (.bool false) .junk .junk .junk (boxL pre [.int kd, .int tb,slA es.length (iE es) 5, .i (.isl (intsL cs)), .i (.isl (Pn.cellsL ks))] post) (lE es),?_,rfl,_,_,_,_,rfl⟩
    simp[SRp,EV,zp,tkB2,splB2,idsOfL_boxL,renL_boxL,slA,lE,iE,he]
    rw[loop_to (XS b3 init.length ES pre post kd tb es (.i (.isl (intsL cs))) (.i (.isl (Pn.cellsL ks))) (.bool true)) es.length (by simp[XS,SRp,EV,zp])]
    ·rw[execA_loop]
     simp[XS,SRp,EV,zp,tkB2,splB2,idsOfL_boxL,renL_boxL,jk_pos hel]
    ·intro i hi
     have h3:=List.getElem?_eq_getElem hi
     have hs:=y1 _ (List.mem_of_getElem? h3)
     have r2:=Ex.cellsL_nth h3
     generalize es[i]=a at h3 hs r2
     have hk:=cX_row hs r2
     have hput:=Ex.cellsL_set h3
     have w2:IntKind.i64.wrap ((i:Int)+1)=i+1:=wrap64 (by omega) (by omega)
     rw[Ex.cells_eq]at r2 hk hput
     simp[XS,SRp,EV,zp,tkB2,splB2,idsOfL_boxL,renL_boxL,hi,r2,hk,w2,hput]) g9) ?_)
  rintro _ a10 w10 ⟨e,S',rfl,⟨rfl,v6,v38,v39,v40,rfl⟩,g10⟩
  clear g9
  have g10:=(g10.envTo (env':=envOf (SRp b3 init.length pre.length ES .junk .junk (.bool true) .junk .junk .junk .junk .junk .junk (boxL pre [.int kd, .int tb,slA es.length (iE es) 5, .i (.isl (intsL cs)), .i (.isl (Pn.cellsL ks))] post) (lE es)).env) (by
   intro t
   simp only[SRp,EV,envOf]
   by_cases h6:t=6
   ·subst h6;simp
   by_cases h38:t=38
   ·subst h38;simp
   by_cases h39:t=39
   ·subst h39;simp
   by_cases h40:t=40
   ·subst h40;simp
   ·simp[h6,h38,h39,h40]))
  refine wp_seq (wp_mono (GR.codeA sound2 (G:=GS 92) (S:=SRp b3 init.length pre.length ES .junk .junk (.bool true) .junk .junk .junk .junk .junk .junk (boxL pre [.int kd, .int tb,slA es.length (iE es) 5, .i (.isl (intsL cs)), .i (.isl (Pn.cellsL ks))] post) (lE es)) (e:=.normal) (S':=SRp b3 init.length pre.length ES .junk .junk (.bool true) .junk .junk .junk .junk .junk .junk (boxL pre [.int kd, .int tb,slA es.length (iE es) 5,slA cs.length (iC es cs) 1, .i (.isl (Pn.cellsL ks))] post) (lC es cs)) hst (by kernel_rfl) (by
   by_cases he:es=[]<;>by_cases hc:cs=[]
   ·subst he;subst hc
    simp[SRp,EV,zp,tkB3,splB3,idsOfL_boxL,renL_boxL,intsL,cI_nil,slA,lE,lC]
   ·have hcl:cs.length≠0:=fun h=>hc (List.length_eq_zero_iff.1 h)
    subst he
    simp[SRp,EV,zp,tkB3,splB3,idsOfL_boxL,renL_boxL,cI_some hc t3,slA,lE,lC,iC,hc]
   ·have hel:es.length≠0:=fun h=>he (List.length_eq_zero_iff.1 h)
    subst hc
    simp[SRp,EV,zp,tkB3,splB3,idsOfL_boxL,renL_boxL,intsL,cI_nil,slA,lE,lC,iE,he]
   ·have hel:es.length≠0:=fun h=>he (List.length_eq_zero_iff.1 h)
    have hcl:cs.length≠0:=fun h=>hc (List.length_eq_zero_iff.1 h)
    simp[SRp,EV,zp,tkB3,splB3,idsOfL_boxL,renL_boxL,cI_some hc t3,slA,lE,lC,iE,iC,he,hc]) g10) ?_)
  rintro _ a11 w11 ⟨rfl,g11⟩
  clear g10
  refine wp_seq (wp_mono (GR.codeA sound2 (G:=GS 92) (S:=SRp b3 init.length pre.length ES .junk .junk (.bool true) .junk .junk .junk .junk .junk .junk (boxL pre [.int kd, .int tb,slA es.length (iE es) 5,slA cs.length (iC es cs) 1, .i (.isl (Pn.cellsL ks))] post) (lC es cs)) (e:=.normal) (S':=SRp b3 init.length pre.length ES .junk .junk (.bool true) .junk .junk .junk .junk .junk .junk (boxL pre [.int kd, .int tb,slA es.length (iE es) 5,slA cs.length (iC es cs) 1,slA ks.length (iK es cs ks) 5] post) (lK es cs ks)) hst (by kernel_rfl) (by
   by_cases he:es=[]<;>by_cases hc:cs=[]<;>by_cases hk:ks=[]
   all_goals (try subst he)
   all_goals (try subst hc)
   all_goals (try subst hk)
   ·simp[SRp,EV,zp,tkB4,splB4,idsOfL_boxL,renL_boxL,Pn.cellsL,cP_nil,slA,lE,lC,lK]
   ·simp[SRp,EV,zp,tkB4,splB4,idsOfL_boxL,renL_boxL,cP_some hk t4,slA,lE,lC,lK,iK,hk]
   ·simp[SRp,EV,zp,tkB4,splB4,idsOfL_boxL,renL_boxL,Pn.cellsL,cP_nil,slA,lE,lC,lK,iC,hc]
   ·simp[SRp,EV,zp,tkB4,splB4,idsOfL_boxL,renL_boxL,cP_some hk t4,slA,lE,lC,lK,iC,iK,hc,hk]
   ·simp[SRp,EV,zp,tkB4,splB4,idsOfL_boxL,renL_boxL,Pn.cellsL,cP_nil,slA,lE,lC,lK,iE,he]
   ·simp[SRp,EV,zp,tkB4,splB4,idsOfL_boxL,renL_boxL,cP_some hk t4,slA,lE,lC,lK,iE,iK,he,hk]
   ·simp[SRp,EV,zp,tkB4,splB4,idsOfL_boxL,renL_boxL,Pn.cellsL,cP_nil,slA,lE,lC,lK,iE,iC,he,hc]
   ·simp[SRp,EV,zp,tkB4,splB4,idsOfL_boxL,renL_boxL,cP_some hk t4,slA,lE,lC,lK,iE,iC,iK,he,hc,hk]) g11) ?_)
  rintro _ a12 w12 ⟨rfl,g12⟩
  clear g11
  obtain⟨F',H',us',b',cap,vE,vC,m2,hpm,hus,hone,hbn,g13⟩:=g12.relit (u:=5) (st':=stOf [some (.box zp),some (.arr 1 ES)]) (env':=envOf (EV b3 (.osl 1 1 0 init.length) (.own 2 pre.length) .junk .junk (.bool true) .junk .junk .junk .junk .junk .junk)) (idE:=iE es) (idC:=iC es cs) (idK:=iK es cs ks) (oq:=pre.length) e1 e2 rfl e4 hq rfl
   (fun h=>by simp[SRp,iE,lE,lC,lK,h];split<;>split<;>simp[stOf])
   (fun h=>by simp only[SRp,iC,lC,lK,h,if_false];cases hh:lE es with
    | nil=>split<;>simp[stOf]
    | cons a l =>
     have:l=[]:=by unfold lE at hh;split at hh<;>simp_all
     subst this;split<;>simp[stOf])
   (fun h=>by simp only[SRp,iK,lK,h,if_false];exact stOf_last _ _ _ _)
   (by unfold iE iC iK lC lE;repeat' split<;>simp_all)
   (by
    intro i blk h
    rcases i with _|_|i
    ·simp[stOf]at h;subst h;exact⟨by omega,rfl,by simp[LitBlk,zp]⟩
    ·simp[stOf]at h;subst h;exact⟨by omega,rfl,hlit⟩
    ·simp[stOf]at h)
   (by
    intro t
    simp only[SRp,EV,envOf]
    by_cases h0:t=0
    ·subst h0;simp
    by_cases h2:t=2
    ·subst h2;exact .inr ⟨by simp, .inr (by simp[Stays,stOf])⟩
    by_cases h3:t=3
    ·subst h3;exact .inr ⟨by simp, .inr (by simp[Stays,ptr])⟩
    by_cases h4:t=4
    ·subst h4;exact .inr ⟨by simp, .inr (by simp[Stays,stOf])⟩
    by_cases h5:t=5
    ·subst h5;exact .inr ⟨by simp, .inl (by simp)⟩
    by_cases h14:t=14
    ·subst h14;exact .inr ⟨by simp, .inr (by simp[Stays])⟩
    simp[h0,h2,h3,h4,h5,h14])
  clear g12
  rw[stOf_upd2]at g13
  have hbx:litVs us'=boxL pre [.i (.lit (.int .i64 kd)), .i (.lit (.int .i64 tb)), .i (.lit vE), .i (.lit vC), .i (.lit (if ks.length=0 then .slice none 0 0 else .slice (some ⟨b',0,none⟩) ks.length cap))] post:=by rw[hus];simp[boxL,litVs]
  rw[hbx]at g13
  have hst':=ADP.stab wi b3 p F' H' b us' w12 m2
  refine wp_mono (GR.codeX sound2 (G:=GS 92) (S:=SRp b3 init.length pre.length ES .junk .junk (.bool true) .junk .junk .junk .junk .junk .junk (boxL pre [.i (.lit (.int .i64 kd)), .i (.lit (.int .i64 tb)), .i (.lit vE), .i (.lit vC), .i (.lit (if ks.length=0 then .slice none 0 0 else .slice (some ⟨b',0,none⟩) ks.length cap))] post) []) hst'
   (PP:=fun e S'=>e=.normal∧∃ v7 v76 v77 v78,S'={ env:=EV b3 (if ks.length=0 then .osl 1 1 0 init.length else .osl 3 1 0 (init.length+ks.length)) (.own 2 pre.length) .junk v7 (.bool true) .junk .junk .junk v76 v77 v78,st:=some (.box zp)::(if ks.length=0 then some (.arr 1 ES)else none)::some (.box (boxL pre [.i (.lit (.int .i64 kd)), .i (.lit (.int .i64 tb)), .i (.lit vE), .i (.lit vC), .i (.lit (if ks.length=0 then .slice none 0 0 else .slice (some ⟨b',0,none⟩) ks.length cap))] post))::(if ks.length=0 then []else [some (.arr 1 (RWp init b' ks.length))]) }) (by kernel_rfl) (by
   by_cases h0:ks.length=0
   ·refine⟨.normal,{ env:=EV b3 (.osl 1 1 0 init.length) (.own 2 pre.length) .junk .junk (.bool true) .junk .junk .junk (.int 0) (.int 0) (.bool false),st:=some (.box zp)::some (.arr 1 ES)::some (.box (boxL pre [.i (.lit (.int .i64 kd)), .i (.lit (.int .i64 tb)), .i (.lit vE), .i (.lit vC), .i (.lit (if ks.length=0 then .slice none 0 0 else .slice (some ⟨b',0,none⟩) ks.length cap))] post))::[] },?_,rfl, .junk, .int 0, .int 0, .bool false,by simp[h0]⟩
    simp[SRp,EV,zp,tkB4,idsOfL_boxL,renL_boxL,h0]
    rw[execA_loop]
    simp[idsOfL_boxL,renL_boxL]
   ·refine⟨.normal,{ env:=EV b3 (.osl 3 1 0 (init.length+ks.length)) (.own 2 pre.length) .junk (.int (ks.length-1)) (.bool true) .junk .junk .junk (.int ks.length) (.int ks.length) (.bool false),st:=some (.box zp)::none::some (.box (boxL pre [.i (.lit (.int .i64 kd)), .i (.lit (.int .i64 tb)), .i (.lit vE), .i (.lit vC), .i (.lit (if ks.length=0 then .slice none 0 0 else .slice (some ⟨b',0,none⟩) ks.length cap))] post))::[some (.arr 1 (RWp init b' ks.length))] },?_,rfl, .int (ks.length-1), .int ks.length, .int ks.length, .bool false,by simp[h0]⟩
    simp only[h0,if_false]
    simp[SRp,EV,zp,tkB4,idsOfL_boxL,renL_boxL]
    rw[loop_to (YP b3 init.length pre.length ES init b' ks.length (boxL pre [.i (.lit (.int .i64 kd)), .i (.lit (.int .i64 tb)), .i (.lit vE), .i (.lit vC), .i (.lit (if ks.length=0 then .slice none 0 0 else .slice (some ⟨b',0,none⟩) ks.length cap))] post)) ks.length (by simp[YP,EV,zp,h0])]
    ·rw[execA_loop]
     simp[YP,EV,zp,tkB4,idsOfL_boxL,renL_boxL,h0,jk_pos h0]
    ·intro i hi
     have w2:IntKind.i64.wrap ((i:Int)+1)=i+1:=wrap64 (by omega) (by omega)
     by_cases hi0:i=0
     ·subst hi0
      have hR:rowsP init++[[.lit (.pointer (some ⟨b',0,none⟩))]]=RWp init b' 1:=by simp[RWp,ptr]
      have hl:(init.length+1)*8≤140737488355328:=by omega
      simp[YP,EV,zp,tkB4,idsOfL_boxL,renL_boxL,h0,wrap_1p,hi,htake,hR,hl,hESl]
     ·have hl:(init.length+i+1)*8≤140737488355328:=by omega
      have hT:(RWp init b' i).take (init.length+i)=RWp init b' i:=List.take_of_length_le (by rw[RWp_len];omega)
      have hR:RWp init b' i++[[.lit (.pointer (some ⟨b',i*5,none⟩))]]=RWp init b' (i+1):=by simpa [ptr]using RWp_succ init b' i
      simp[YP,EV,zp,tkB4,idsOfL_boxL,renL_boxL,h0,hi0,jk_pos hi0,w2,hi,hT,RWp_len,hl,hR,← Nat.add_assoc]) (g13.ok' fun id h=>by simp[SRp];omega)) ?_
  rintro _ a13 w13 ⟨e,S',rfl,⟨rfl,v7,v76,v77,v78,rfl⟩,g14⟩
  clear g13
  simp only[exitOf,Exit.then,Exit.inBlock]
  have hpm2:H'.Perm (init++kidsP b' 0 ks):=by
   have h1:(((b,pre.length),Pn.mk kd tb es cs ks)::H').Perm (((b,pre.length),Pn.mk kd tb es cs ks)::(init++kidsP b' 0 ks)):=by
    refine hpm.trans ((hperm.append_right _).trans ?_)
    rw[List.append_assoc]
    exact List.perm_middle
   exact(List.perm_cons _).1 h1
  have hszx:(Pn.mk kd tb es cs ks).size=1+Pn.sizeL ks:=hxs
  have hall2:∀ q∈init++kidsP b' 0 ks,q.2.thin∧q.2.tiny:=by
   intro q hq'
   rcases List.mem_append.1 hq' with h|h
   ·exact hall q (by simp[h])
   ·have:=(kidsP_mem q h).1;exact⟨t5 _ this,y2 _ this⟩
  have hsum2:((init++kidsP b' 0 ks).map fun k=>k.2.size).sum=n-1:=by
   rw[List.map_append,List.sum_append,kidsP_sum];omega
  by_cases hk0:ks.length=0
  ·have hks:ks=[]:=List.length_eq_zero_iff.1 hk0
   subst hks
   simp only[List.length_nil,if_true]at g14 hbx
   have g15:=g14.giveback (st':=stOf [some (.box zp),some (.arr 1 ES)]) (env':=envOf (EV b3 (.osl 1 1 0 init.length) .junk .junk .junk .junk .junk .junk .junk .junk .junk .junk)) (by rw[hbx];rfl) (by
    intro i blk h
    rcases i with _|_|i
    ·simp[stOf]at h;subst h;exact⟨by omega,rfl,by simp[LitBlk,zp]⟩
    ·simp[stOf]at h;subst h;exact⟨by omega,rfl,hlit⟩
    ·simp[stOf]at h) (by
    intro t
    simp only[EV,envOf]
    by_cases h0:t=0
    ·subst h0;simp
    by_cases h2:t=2
    ·subst h2;exact .inr ⟨by simp,by simp[Stays,stOf]⟩
    by_cases h3:t=3
    ·subst h3;exact .inr ⟨by simp,by simp[Stays,ptr]⟩
    by_cases h4:t=4
    ·subst h4;exact .inr ⟨by simp,by simp[Stays,stOf]⟩
    simp[h0,h2,h3,h4])
   simp only[kidsP,List.append_nil]at hpm2 hall2 hsum2
   refine⟨n-1,by omega,init,[((b,pre.length),Pn.mk kd tb es cs [])]++X,H',F',hpm2,hsum2,by omega,hall2,?_⟩
   have hES2:rowsP (init++([((b,pre.length),Pn.mk kd tb es cs [])]++X))=ES:=by rw[← hES,List.append_assoc]
   simp only[SLp,hES2]
   exact g15.ok' (by
    intro i h
    rcases i with _|_|i
    ·simp
    ·simp
    ·simp[stOf]at h)
  ·simp only[hk0,if_false]at g14 hbx
   have g15:=g14.giveback (st':=stOf [some (.box zp),none,none,some (.arr 1 (RWp init b' ks.length))]) (env':=envOf [(2, .own 0 0),(3, .i (ptr (b3,0))),(4, .osl 3 1 0 (init.length+ks.length))]) (by rw[hbx];rfl) (by
    intro i blk h
    rcases i with _|_|_|_|i
    ·simp[stOf]at h;subst h;exact⟨by omega,rfl,by simp[LitBlk,zp]⟩
    ·simp[stOf]at h
    ·simp[stOf]at h
    ·simp[stOf]at h;subst h;exact⟨by omega,rfl,by
      intro c hc
      rw[List.mem_flatten]at hc
      obtain⟨r,hr1,hr2⟩:=hc
      unfold RWp at hr1
      rcases List.mem_append.1 hr1 with h|h
      ·exact ptr_lits init c (List.mem_flatten.2 ⟨r,h,hr2⟩)
      ·obtain⟨j,_,rfl⟩:=List.mem_map.1 h
       simp at hr2;subst hr2;exact⟨_,rfl⟩⟩
    ·simp[stOf]at h) (by
    intro t
    simp only[EV,envOf]
    by_cases h2:t=2
    ·subst h2;exact .inr ⟨by simp,by simp[Stays,stOf]⟩
    by_cases h3:t=3
    ·subst h3;exact .inr ⟨by simp,by simp[Stays,ptr]⟩
    by_cases h4:t=4
    ·subst h4;exact .inr ⟨by simp,by simp[Stays,stOf]⟩
    simp[h2,h3,h4])
   have g16:=g15.settle (fun w m φ ids h=>RAW.keep ids h) [2,3,4]
   have hs:Av.settle [2,3,4] 0 (envOf [(2, .own 0 0),(3, .i (ptr (b3,0))),(4, .osl 3 1 0 (init.length+ks.length))]) (stOf [some (.box zp),none,none,some (.arr 1 (RWp init b' ks.length))])={ env:=[(2, .own 0 0),(3, .i (ptr (b3,0))),(4, .osl 1 1 0 (init.length+ks.length))],st:=[some (.box zp),some (.arr 1 (RWp init b' ks.length))] }:=by
    simp[zp,ptr]
   rw[hs]at g16
   refine⟨n-1,by omega,init++kidsP b' 0 ks,[],H',F',hpm2,hsum2,by omega,hall2,?_⟩
   have hR:rowsP (init++kidsP b' 0 ks++[])=RWp init b' ks.length:=by
    rw[List.append_nil]
    have:=kidsP_rows b' 0 ks
    simp only[rowsP]at this
    simp only[rowsP,RWp,List.map_append,this,Nat.zero_add]
   have hl:(init++kidsP b' 0 ks).length=init.length+ks.length:=by rw[List.length_append,kidsP_len]
   simp only[SLp,hR,hl]
   exact g16.envTo (by
    intro t
    simp only[EV,envOf]
    by_cases h0:t=0
    ·subst h0;simp
    by_cases h2:t=2
    ·subst h2;simp
    by_cases h3:t=3
    ·subst h3;simp
    by_cases h4:t=4
    ·subst h4;simp
    ·simp[h0,h2,h3,h4])
theorem copiedP_calls {p:Pn} (hsz:p.size<1000000000) (hth:p.thin) (hty:p.tiny) {wi:World} {mi:Mem} {φ:Pl} {vs:List Value} (hi:Inv wi mi φ (stOf [])) (hr:RepL mi φ [.i (.iref p.cells)] vs) (h0:∀ id,φ id≠none→id<0) :
 Calls Tryz.prog 92 vs.toArray wi (CallPost wi mi φ (.i (.agg p.cells)) []):=by
 obtain rfl:φ=fun _=>none:=by
  funext id
  cases h:φ id with
  | none=>rfl
  | some p=>exact absurd (h0 id (by rw[h];simp)) (Nat.not_lt_zero _)
 exact(copiedRaw_calls hsz hth hty hi hr).mono fun _ _ h=>h.tree
end Go.Proofs.YtiailccmofdhfaaGreat.G
namespace Go.Proofs.YtiailccmofdhfaaGreat
open Go Go.Av
theorem prim_only {g:FuncId} {q:List AV→StL→Option (AV×StL)} (h:C0.prim g=some q):(g=136∧q=copyE)∨(g=92∧q=copyP):=by
 have h:primF g=some q:=h
 unfold primF at h
 split at h
 ·injection h with h;exact .inl ⟨rfl,h.symm⟩
 ·injection h with h;exact .inr ⟨rfl,h.symm⟩
 ·cases h
theorem prim0:PrimOk C0:=by
 constructor
 ·intro g args st p h
  unfold primCall at h
  cases hq:C0.prim g with
  | none=>rw[hq]at h;cases h
  | some q =>
   rcases prim_only hq with ⟨rfl,rfl⟩|⟨rfl,rfl⟩
   ·exact⟨Tryz.f136,Tryz.func136,by decide,rfl⟩
   ·exact⟨Tryz.f92,Tryz.func92,by decide,rfl⟩
 ·intro g args stl r stl' h w m φ vs hi hr h0
  unfold primCall at h
  cases hq:C0.prim g with
  | none=>rw[hq]at h;cases h
  | some q =>
   rcases prim_only hq with ⟨rfl,rfl⟩|⟨rfl,rfl⟩
   ·rw[hq]at h
    obtain⟨e,he,hres,hor⟩:=copyE_some h
    injection hres with h1 h2
    subst h1;subst h2
    rcases hor with ⟨rfl,rfl⟩|⟨j,es,rfl,rfl,hes⟩
    ·exact copied_calls he hi hr h0
    ·exact copied_row he hes hi hr h0
   ·rw[hq]at h
    obtain⟨p,⟨k1,k2,k3⟩,rfl,rfl,hres⟩:=copyP_some h
    injection hres with h1 h2
    subst h1;subst h2
    exact G.copiedP_calls k1 k2 k3 hi hr h0
theorem sound0:SoundOk C0:=sound_ok (C:=C0) ft nt eqS mo prim0
end Go.Proofs.YtiailccmofdhfaaGreat
namespace Go.Proofs.YtiailccmofdhfaaGreat.P
open Go Go.Av G
theorem hb181:Tryz.f181.body.isSome=true:=rfl
theorem hn181:Tryz.f181.name≠ "runtime.NumGoroutine":=by decide
set_option maxRecDepth 4000
set_option maxHeartbeats 8000000
theorem updG {α:Type} (f:Nat→α) (a:Nat) (x y:α):upd (upd f a x) a y=upd f a y:=by funext i;simp only[upd];split<;>rfl
def GEV (w:Int) (rows:List (List Val)) (cs:List Int) (N:Nat) (v7 v8 v9 v10 v20 v21 v37:AV):List (Nat×AV):=[(0, .i (.agg [.int w, .isl (rowsL rows)])),(1, .i (.isl (intsL cs))),(2, .own 0 0),(3, .own 1 0),(4, .nils),(5, .osl 2 1 0 N),(6, .fn (.func 212) [.own 1 0]),(7,v7),(8,v8),(9,v9),(10,v10),(18, .osl 2 1 0 N),(19, .int N),(20,v20),(21,v21),(37,v37)]
def GST (w:Int) (rows:List (List Val)) (cs:List Int) (M:List (List Val)) (L:StL):StL:=some (.box [.i (.int w), .i (.isl (rowsL rows))])::some (.box [.i (.isl (intsL cs))])::some (.arr 1 (rowsL M))::L
def GLX (w:Int) (rows:List (List Val)) (cs:List Int) (N:Nat) (M:List (List Val)) (vs:List Value) (i:Nat):AS :=
 { env:=GEV w rows cs N (gro 3 1 vs.length) .junk .junk .junk (.int i) .junk .junk,st:=GST w rows cs M (groB 1 (litsV vs) vs.length) }
theorem groups_some {rows:List (List Val)} {cs:List Int} {w0:Int} (h0:rows≠[]) (hs:rows.length<1000000) (hcs:cs.length<1000000) (hr:∀ r∈rows,∀ c∈cs,0≤c∧c<r.length) {M:List (List Val)}
 (hM:callA C0 213 [.osl 0 1 0 rows.length, .fn (.func 212) [.own 1 0]] [some (.arr 1 (rowsL rows)),some (.box [.i (.isl (intsL cs))])]=some (.tup [],[some (.arr 1 (rowsL M)),some (.box [.i (.isl (intsL cs))])])) (hMp:M.Perm rows)
 {wi:World} {mi:Mem} {vs:List Value} (hi:Inv wi mi (fun _=>none) (stOf [])) (hrr:RepL mi (fun _=>none) [.i (.agg [.int w0, .isl (rowsL rows)]), .i (.isl (intsL cs))] vs) :
 Calls Tryz.prog 181 vs.toArray wi (CallPost wi mi (fun _=>none) (.i (.isl (grpsL (runs cs M)))) []):=by
 refine calls_of_wp (fn:=Tryz.f181) Tryz.func181 rfl ?_
 have hv1:vs.length=2:=by simpa using hrr.length.symm
 obtain⟨N,hN⟩:∃ N,N=rows.length:=⟨_,rfl⟩
 have hN0:N≠0:=fun e=>h0 (List.length_eq_zero_iff.1 (by omega))
 have hMl:M.length=N:=by rw[hMp.length_eq,hN]
 rw[← hN]at hM
 have g0:GR wi mi 56 (fun id=>id<({ env:=[(0, .i (.agg [.int w0, .isl (rowsL rows)])),(1, .i (.isl (intsL cs)))],st:=[] }:AS).st.length) (GPS wi [] [] []) (envOf [(0, .i (.agg [.int w0, .isl (rowsL rows)])),(1, .i (.isl (intsL cs)))]) (stOf []) { tmps:=vs.toArray++Array.replicate (56-vs.toArray.size) undef,defers:=[] } wi:=by
  refine⟨⟨mi,fun _=>none,hi,?_, .refl _ _ _,fun id h=>absurd rfl h,GPS.nil⟩,by simp;omega,rfl⟩
  intro t
  have:=enter_rep (m:=mi) (φ:=fun _=>none) (56-vs.toArray.size) hrr t
  rcases t with _|_|t
  ·simpa [envOf,argAt]using this
  ·simpa [envOf,argAt]using this
  ·simp only[envOf];simp;exact .junk _
 have hcp:callA C0 211 [.i (.isl (rowsL rows))] []=some (.osl 0 1 0 N,[some (.arr 1 (rowsL rows))]):=by
  rw[callA_eq rfl Tryz.func211 rfl rfl]
  have h1:24*(rows.length:Int)≤281474976710656:=by omega
  have h1':24*rows.length≤281474976710656:=by omega
  have e1:List.take rows.length (rowsL rows)=rowsL rows:=List.take_of_length_le (by simp)
  subst hN
  simp[h0,hN0,h1,h1',e1,over]
 refine wp_seq (wp_mono (GR.codeA sound0 (G:=GS 181) (S:={ env:=[(0, .i (.agg [.int w0, .isl (rowsL rows)])),(1, .i (.isl (intsL cs)))],st:=[] }) (e:=.normal) (S':={ env:=[(0, .i (.agg [.int w0, .isl (rowsL rows)])),(1, .i (.isl (intsL cs))),(2, .own 0 0),(3, .own 1 0),(4, .nils),(5, .junk),(6, .junk),(7, .junk),(8, .junk),(9, .junk),(10, .junk),(18, .junk),(19, .junk),(20, .junk),(21, .junk),(37, .junk)],st:=[some (.box [.i (.int w0), .i (.isl (rowsL rows))]),some (.box [.i (.isl (intsL cs))])] }) (GPS.stab _ _ _ _) (by kernel_rfl) (by simp) g0) ?_)
 rintro _ a1 w1 ⟨rfl,g1⟩
 clear g0
 refine wp_seq (wp_mono (GR.codeA sound0 (G:=GS 181) (S:={ env:=[(0, .i (.agg [.int w0, .isl (rowsL rows)])),(1, .i (.isl (intsL cs))),(2, .own 0 0),(3, .own 1 0),(4, .nils),(5, .junk),(6, .junk),(7, .junk),(8, .junk),(9, .junk),(10, .junk),(18, .junk),(19, .junk),(20, .junk),(21, .junk),(37, .junk)],st:=[some (.box [.i (.int w0), .i (.isl (rowsL rows))]),some (.box [.i (.isl (intsL cs))])] }) (e:=.normal) (S':={ env:=[(0, .i (.agg [.int w0, .isl (rowsL rows)])),(1, .i (.isl (intsL cs))),(2, .own 0 0),(3, .own 1 0),(4, .nils),(5, .osl 2 1 0 N),(6, .junk),(7, .junk),(8, .junk),(9, .junk),(10, .junk),(18, .junk),(19, .junk),(20, .junk),(21, .junk),(37, .junk)],st:=[some (.box [.i (.int w0), .i (.isl (rowsL rows))]),some (.box [.i (.isl (intsL cs))]),some (.arr 1 (rowsL rows))] }) (GPS.stab _ _ _ _) (by kernel_rfl) (by simp[hcp]) g1) ?_)
 rintro _ a2 w2 ⟨rfl,g2⟩
 clear g1
 refine wp_seq (wp_mono (GR.codeA sound0 (G:=GS 181) (S:={ env:=[(0, .i (.agg [.int w0, .isl (rowsL rows)])),(1, .i (.isl (intsL cs))),(2, .own 0 0),(3, .own 1 0),(4, .nils),(5, .osl 2 1 0 N),(6, .junk),(7, .junk),(8, .junk),(9, .junk),(10, .junk),(18, .junk),(19, .junk),(20, .junk),(21, .junk),(37, .junk)],st:=[some (.box [.i (.int w0), .i (.isl (rowsL rows))]),some (.box [.i (.isl (intsL cs))]),some (.arr 1 (rowsL rows))] }) (e:=.normal) (S':={ env:=[(0, .i (.agg [.int w0, .isl (rowsL rows)])),(1, .i (.isl (intsL cs))),(2, .own 0 0),(3, .own 1 0),(4, .nils),(5, .osl 2 1 0 N),(6, .fn (.func 212) [.own 1 0]),(7, .junk),(8, .junk),(9, .junk),(10, .junk),(18, .junk),(19, .junk),(20, .junk),(21, .junk),(37, .junk)],st:=[some (.box [.i (.int w0), .i (.isl (rowsL rows))]),some (.box [.i (.isl (intsL cs))]),some (.arr 1 (rowsL rows))] }) (GPS.stab _ _ _ _) (by kernel_rfl) (by simp) g2) ?_)
 rintro _ a3 w3 ⟨rfl,g3⟩
 clear g2
 refine wp_seq (wp_mono (GR.codeA sound0 (G:=GS 181) (S:={ env:=[(0, .i (.agg [.int w0, .isl (rowsL rows)])),(1, .i (.isl (intsL cs))),(2, .own 0 0),(3, .own 1 0),(4, .nils),(5, .osl 2 1 0 N),(6, .fn (.func 212) [.own 1 0]),(7, .junk),(8, .junk),(9, .junk),(10, .junk),(18, .junk),(19, .junk),(20, .junk),(21, .junk),(37, .junk)],st:=[some (.box [.i (.int w0), .i (.isl (rowsL rows))]),some (.box [.i (.isl (intsL cs))]),some (.arr 1 (rowsL rows))] }) (e:=.normal) (S':={ env:=[(0, .i (.agg [.int w0, .isl (rowsL rows)])),(1, .i (.isl (intsL cs))),(2, .own 0 0),(3, .own 1 0),(4, .nils),(5, .osl 2 1 0 N),(6, .fn (.func 212) [.own 1 0]),(7, .junk),(8, .junk),(9, .junk),(10, .junk),(18, .junk),(19, .junk),(20, .junk),(21, .junk),(37, .junk)],st:=[some (.box [.i (.int w0), .i (.isl (rowsL rows))]),some (.box [.i (.isl (intsL cs))]),some (.arr 1 (rowsL M))] }) (GPS.stab _ _ _ _) (by kernel_rfl) (by simp[hM]) g3) ?_)
 rintro _ a4 w4 ⟨rfl,g4⟩
 clear g3
 refine wp_seq (wp_mono (GR.codeA sound0 (G:=GS 181) (S:={ env:=[(0, .i (.agg [.int w0, .isl (rowsL rows)])),(1, .i (.isl (intsL cs))),(2, .own 0 0),(3, .own 1 0),(4, .nils),(5, .osl 2 1 0 N),(6, .fn (.func 212) [.own 1 0]),(7, .junk),(8, .junk),(9, .junk),(10, .junk),(18, .junk),(19, .junk),(20, .junk),(21, .junk),(37, .junk)],st:=[some (.box [.i (.int w0), .i (.isl (rowsL rows))]),some (.box [.i (.isl (intsL cs))]),some (.arr 1 (rowsL M))] }) (e:=.normal) (S':={ env:=[(0, .i (.agg [.int w0, .isl (rowsL rows)])),(1, .i (.isl (intsL cs))),(2, .own 0 0),(3, .own 1 0),(4, .nils),(5, .osl 2 1 0 N),(6, .fn (.func 212) [.own 1 0]),(7, .nils),(8, .junk),(9, .junk),(10, .junk),(18, .junk),(19, .junk),(20, .junk),(21, .junk),(37, .junk)],st:=[some (.box [.i (.int w0), .i (.isl (rowsL rows))]),some (.box [.i (.isl (intsL cs))]),some (.arr 1 (rowsL M))] }) (GPS.stab _ _ _ _) (by kernel_rfl) (by simp) g4) ?_)
 rintro _ a5 w5 ⟨rfl,g5⟩
 clear g4
 refine wp_seq (wp_seq (wp_mono (GR.codeA sound0 (G:=GS 181) (S:={ env:=[(0, .i (.agg [.int w0, .isl (rowsL rows)])),(1, .i (.isl (intsL cs))),(2, .own 0 0),(3, .own 1 0),(4, .nils),(5, .osl 2 1 0 N),(6, .fn (.func 212) [.own 1 0]),(7, .nils),(8, .junk),(9, .junk),(10, .junk),(18, .junk),(19, .junk),(20, .junk),(21, .junk),(37, .junk)],st:=[some (.box [.i (.int w0), .i (.isl (rowsL rows))]),some (.box [.i (.isl (intsL cs))]),some (.arr 1 (rowsL M))] }) (e:=.normal) (S':=GLX w0 rows cs N M [] 0) (GPS.stab _ _ _ _) (by kernel_rfl) (by simp[GLX,GEV,GST]) g5) ?_))
 rintro _ a6 w6 ⟨rfl,g6⟩
 clear g5
 refine wp_block ?_
 refine wp_loop_n (fun n a w=>∃ (i:Nat) (vs:List Value) (bs:List Nat),n=N-i∧i≤N∧GR wi mi 56 (fun id=>id<(GLX w0 rows cs N M vs i).st.length) (GPS wi vs (runs cs (M.take i)) bs) (envOf (GLX w0 rows cs N M vs i).env) (stOf (GLX w0 rows cs N M vs i).st) a w) ?_ (n:=N) ⟨0,[],[],by omega,by omega,by simpa [runs]using g6⟩
 clear g6
 rintro n a w ⟨i,vs,bs,rfl,hiN,g⟩
 have hgl:(runs cs (M.take i)).length=vs.length:=by obtain⟨⟨m,φ,_,_,_,_,k⟩,_⟩:=g;exact k.l1
 by_cases hlt:i<N
 ·obtain⟨r,hx⟩:∃ r,M[i]?=some r:=⟨_,List.getElem?_eq_getElem (by omega)⟩
  have hxI:(i:Int)<N:=by omega
  have hxn:nthE (rowsL M) i=some [.isl (valsL r)]:=rowsL_nth hx
  have hrr:∀ c∈cs,0≤c∧c<r.length:=hr r (hMp.mem_iff.1 (List.mem_of_getElem? hx))
  have htk:M.take (i+1)=M.take i++[r]:=take_snoc hx
  obtain⟨hfl,hrne,hrl⟩:=runs_flat cs _ (M.take i) rfl
  have hvl:vs.length<1000000:=by rw[← hgl];have:(M.take i).length≤M.length:=by simp;omega
                                 omega
  refine wp_seq (wp_mono (GR.codeA sound0 (G:=GS 181) (S:=GLX w0 rows cs N M vs i) (e:=.normal) (S':={ env:=GEV w0 rows cs N (gro 3 1 vs.length) (.junk) (.junk) (.junk) (.int i) (.bool true) (.junk),st:=GST w0 rows cs M (groB 1 (litsV vs) vs.length) }) (GPS.stab _ _ _ _) (by kernel_rfl) (by by_cases hv:vs.length=0<;>simp[GLX,GEV,GST,hv,gro_pos,groB_pos,hxI,hlt]) g) ?_)
  rintro _ a1 w1 ⟨rfl,g1⟩
  refine wp_seq (wp_mono (GR.codeA sound0 (G:=GS 181) (S:={ env:=GEV w0 rows cs N (gro 3 1 vs.length) (.junk) (.junk) (.junk) (.int i) (.bool true) (.junk),st:=GST w0 rows cs M (groB 1 (litsV vs) vs.length) }) (e:=.normal) (S':={ env:=GEV w0 rows cs N (gro 3 1 vs.length) (.junk) (.junk) (.junk) (.int i) (.bool true) (.junk),st:=GST w0 rows cs M (groB 1 (litsV vs) vs.length) }) (GPS.stab _ _ _ _) (by kernel_rfl) (by by_cases hv:vs.length=0<;>simp[GEV,GST,hv,gro_pos,groB_pos]) g1) ?_)
  rintro _ a2 w2 ⟨rfl,g2⟩
  clear g g1
  refine wp_seq (wp_block ?_)
  refine wp_seq (wp_mono (GR.codeA sound0 (G:=GS 181) (S:={ env:=GEV w0 rows cs N (gro 3 1 vs.length) (.junk) (.junk) (.junk) (.int i) (.bool true) (.junk),st:=GST w0 rows cs M (groB 1 (litsV vs) vs.length) }) (e:=.normal) (S':={ env:=GEV w0 rows cs N (gro 3 1 vs.length) (.int i) (.i (.isl (valsL r))) (.junk) (.int i) (.bool true) (.junk),st:=GST w0 rows cs M (groB 1 (litsV vs) vs.length) }) (GPS.stab _ _ _ _) (by kernel_rfl) (by by_cases hv:vs.length=0<;>simp[GEV,GST,hv,gro_pos,groB_pos,hlt,hxn,hMl]) g2) ?_)
  rintro _ a3 w3 ⟨rfl,g3⟩
  clear g2
  refine wp_seq (wp_mono (Q:=fun e a w=>e=.normal∧∃ (vs0:List Value) (gs0:List (List (List Val))) (bs0:List Nat) (v:Value) (g:List (List Val)) (b:Nat),runs cs (M.take (i+1))=gs0++[g++[r]]∧g.length<1000000∧vs0.length<1000000∧GR wi mi 56 (fun id=>id<4) (GLast wi vs0 gs0 bs0 v g b) (envOf (GEV w0 rows cs N (.osl 3 1 0 (vs0.length+1)) (.int i) (.i (.isl (valsL r))) (.junk) (.int i) (.bool true) (.junk))) (stOf (GST w0 rows cs M [some (.arr 1 (litsV (vs0++[v])))])) a w) ?_ ?_)
  ·obtain⟨bb,hbb⟩:∃ bb:Bool,bb=(decide (i=0) || decide (rowCmp (pickV cs ((M[i-1]?).getD [])) (pickV cs r)≠0)):=⟨_,rfl⟩
   have hnew:bb=true→runs cs (M.take (i+1))=runs cs (M.take i)++[[]++[r]]:=by
    intro hb
    rw[htk,runs_snoc]
    cases hp:(M.take i).getLast? with
    | none=>rfl
    | some p =>
     have hi0:i≠0:=fun e=>by subst e;simp at hp
     rw[List.getLast?_take,if_neg hi0]at hp
     have hpi:M[i-1]?=some p:=by
      rw[List.getElem?_eq_getElem (show i-1<M.length by omega)]at hp ⊢;simpa using hp
     rw[hbb,hpi]at hb
     simp[hi0]at hb
     dsimp only
     rw[if_neg hb];rfl
   have hold:bb=false→∃ G g,runs cs (M.take i)=G++[g]∧runs cs (M.take (i+1))=G++[g++[r]]:=by
    intro hb
    rw[hbb]at hb
    have hi0:i≠0:=fun e=>by simp[e]at hb
    have hpi:=List.getElem?_eq_getElem (l:=M) (show i-1<M.length by omega)
    rw[hpi]at hb
    simp[hi0]at hb
    have hne:=hrne (fun e=>by have:=congrArg List.length e;rw[List.length_take]at this;simp only[List.length_nil]at this;omega)
    have hp:(M.take i).getLast?=some M[i-1]:=by rw[List.getLast?_take,if_neg hi0,hpi];rfl
    refine⟨(runs cs (M.take i)).dropLast,(runs cs (M.take i)).getLast hne,(List.dropLast_concat_getLast hne).symm,?_⟩
    rw[htk,runs_snoc,hp]
    dsimp only
    rw[if_pos hb,List.getLast?_eq_some_getLast hne];rfl
   refine wp_seq (wp_mono (GR.codeA sound0 (G:=GS 181) (S:={ env:=GEV w0 rows cs N (gro 3 1 vs.length) (.int i) (.i (.isl (valsL r))) (.junk) (.int i) (.bool true) (.junk),st:=GST w0 rows cs M (groB 1 (litsV vs) vs.length) }) (e:=.normal) (S':={ env:=GEV w0 rows cs N (gro 3 1 vs.length) (.int i) (.i (.isl (valsL r))) (.junk) (.int i) (.bool true) (.bool bb),st:=GST w0 rows cs M (groB 1 (litsV vs) vs.length) }) (GPS.stab _ _ _ _) (by kernel_rfl) (by
    by_cases hi0:i=0
    ·have hv:vs.length=0:=by rw[← hgl,hi0];rfl
     subst hi0
     simp[GEV,GST,hv,hbb]
    ·obtain⟨p,hp⟩:∃ p,M[i-1]?=some p:=⟨_,List.getElem?_eq_getElem (by omega)⟩
     have hpn:nthE (rowsL M) (i-1)=some [.isl (valsL p)]:=rowsL_nth hp
     have hg:=gcmp_eq cs hcs p r (hr p (hMp.mem_iff.1 (List.mem_of_getElem? hp))) hrr
     have w3:IntKind.i64.wrap ((i:Int)-1)=((i-1:Nat):Int):=by rw[wrap64 (by omega) (by omega)];omega
     have hlt1:i-1<N:=by omega
     rw[hp]at hbb
     simp only[Option.getD_some]at hbb
     by_cases hk:rowCmp (pickV cs p) (pickV cs r)=0<;>by_cases hv:vs.length=0<;>simp[GEV,GST,hv,gro_pos,groB_pos,hbb,hi0,hpn,hg,w3,hlt1,hMl,hxn,hk]) g3) ?_)
   rintro _ a4 w4 ⟨rfl,g4⟩
   clear g3
   have hev:a4.eval (.tmp 37)=.bool bb:=by
    obtain⟨⟨m,φ,_,henv,_⟩,_⟩:=g4
    have:=henv 37
    exact this.lit_eq
   refine wp_cond hev ?_
   clear hbb
   cases bb with
   | true =>
    simp only[if_true]
    by_cases hv0:vs=[]
    ·have hv0l:vs.length=0:=by rw[hv0];rfl
     rw[hv0l]at g4
     simp only[gro_0,groB_0]at g4
     generalize hE:envOf (GEV w0 rows cs N (.nils) (.int i) (.i (.isl (valsL r))) (.junk) (.int i) (.bool true) (.bool true))=E5 at g4
     refine wp_regionW ?_
     show wpOpsIn (FR none) 0 Tryz.prog _ _ (List.range 4) a4 w4
     rw[show List.range 4=List.range' 0 1++(1::(List.range' 2 2++[]))from rfl]
     generalize hS:stOf (GST w0 rows cs M [])=S5 at g4
     refine GR.opsK sound0 (GPS.stab _ _ _ _) 0 1 rfl ?_ (base:=3) (R0:={ env:=E5,st:=S5,log:=[] }) (R1:={ env:=upd E5 38 (.nils),st:=S5,log:=[] }) ?_ (g4.ok' fun id h=>.inl h) fun a6 w6 g6=>?_
     ·kernel_rfl
     ·subst hE;subst hS
      simp[GEV,GST,updG]
     rw[wpOpsIn_cons]
     obtain⟨y,w7,hrun,g7⟩:=GR.nilOne (C:=C0) (j:=1) (t:=145) (e:=32) (d:=39) (z:=[.slice none 0 0]) (zi:=[.isl []]) (GPS.stab _ _ _ _) sound0.ctx.zeros (by simp) (by simp) (by simp) rfl rfl (by omega) g6 (by omega)
     refine wpOp_one (d:=39) rfl (v:=y) (w':=w7) (by simpa [Act.eval]using hrun) ?_
     clear g4 g6
     refine GR.opsK sound0 (GPS.stab _ _ _ _) 2 2 rfl ?_ (base:=3) (R0:={ env:=upd (upd (E5) 38 (.nils)) 39 (.osl 11 1 0 1),st:=upd S5 11 (some (.arr 1 [[.lit (.slice none 0 0)]])),log:=[] }) (R1:={ env:=upd (upd (upd (upd (E5) 38 (.nils)) 39 (.osl 11 1 0 1)) 40 (.osl 19 1 0 1)) 7 (.osl 19 1 0 1),st:=upd (upd S5 11 (some (.arr 1 [[.lit (.slice none 0 0)]]))) 19 (some (.arr 1 [[.lit (.slice none 0 0)]])),log:=[] }) ?_ (g7.ok' fun id h=>okIn_mono (fun j hj=>by omega) h) fun a8 w8 g8=>?_
     ·kernel_rfl
     ·subst hE;subst hS
      simp[GEV,GST,updG]
     clear g7
     have g9:=g8.settle (fun w m φ ids h=>GPS.keep ids h) [0,1,2,3,4,5,6,7,8,9,10,18,19,20,21,37]
     have hset:Av.settle [0,1,2,3,4,5,6,7,8,9,10,18,19,20,21,37] 0 (upd (upd (upd (upd (E5) 38 (.nils)) 39 (.osl 11 1 0 1)) 40 (.osl 19 1 0 1)) 7 (.osl 19 1 0 1)) (upd (upd S5 11 (some (.arr 1 [[.lit (.slice none 0 0)]]))) 19 (some (.arr 1 [[.lit (.slice none 0 0)]])))={ env:=GEV w0 rows cs N (.osl 3 1 0 (vs.length+1)) (.int i) (.i (.isl (valsL r))) (.junk) (.int i) (.bool true) (.bool true),st:=GST w0 rows cs M [some (.arr 1 (litsV (vs++[.slice none 0 0])))] }:=by
      subst hE;subst hS
      simp[GEV,GST,litsV_append,hv0,litsV]
     rw[hset]at g9
     clear g8 hset
     refine⟨rfl,vs,runs cs (M.take i),bs, .slice none 0 0,[],0,hnew rfl,by simp,hvl,?_⟩
     refine(g9.envTo ?_).mapR fun m φ k=>.inl ⟨rfl,rfl,k⟩
     intro t
     simp only[GEV,envOf]
     by_cases h37:t=37
     ·subst h37;simp
     ·right;simp[h37]
    ·have hv0l:vs.length≠0:=fun e=>hv0 (List.length_eq_zero_iff.1 e)
     have htkv:(litsV vs).take vs.length=litsV vs:=List.take_of_length_le (by simp)
     have hvb:(vs.length+1)*24≤140737488355328:=by omega
     rw[gro_pos hv0l,groB_pos hv0l]at g4
     generalize hE:envOf (GEV w0 rows cs N (.osl 3 1 0 vs.length) (.int i) (.i (.isl (valsL r))) (.junk) (.int i) (.bool true) (.bool true))=E5 at g4
     refine wp_regionW ?_
     show wpOpsIn (FR none) 0 Tryz.prog _ _ (List.range 4) a4 w4
     rw[show List.range 4=List.range' 0 1++(1::(List.range' 2 2++[]))from rfl]
     generalize hS:stOf (GST w0 rows cs M [some (.arr 1 (litsV vs))])=S5 at g4
     refine GR.opsK sound0 (GPS.stab _ _ _ _) 0 1 rfl ?_ (base:=4) (R0:={ env:=E5,st:=S5,log:=[] }) (R1:={ env:=upd E5 38 (.osl 3 1 0 vs.length),st:=S5,log:=[] }) ?_ (g4.ok' fun id h=>.inl h) fun a6 w6 g6=>?_
     ·kernel_rfl
     ·subst hE;subst hS
      simp[GEV,GST,updG]
     rw[wpOpsIn_cons]
     obtain⟨y,w7,hrun,g7⟩:=GR.nilOne (C:=C0) (j:=1) (t:=145) (e:=32) (d:=39) (z:=[.slice none 0 0]) (zi:=[.isl []]) (GPS.stab _ _ _ _) sound0.ctx.zeros (by simp) (by simp) (by simp) rfl rfl (by omega) g6 (by omega)
     refine wpOp_one (d:=39) rfl (v:=y) (w':=w7) (by simpa [Act.eval]using hrun) ?_
     clear g4 g6
     refine GR.opsK sound0 (GPS.stab _ _ _ _) 2 2 rfl ?_ (base:=4) (R0:={ env:=upd (upd (E5) 38 (.osl 3 1 0 vs.length)) 39 (.osl 12 1 0 1),st:=upd S5 12 (some (.arr 1 [[.lit (.slice none 0 0)]])),log:=[] }) (R1:={ env:=upd (upd (upd (upd (E5) 38 (.osl 3 1 0 vs.length)) 39 (.osl 12 1 0 1)) 40 (.osl 20 1 0 (vs.length+1))) 7 (.osl 20 1 0 (vs.length+1)),st:=upd (upd (upd S5 12 (some (.arr 1 [[.lit (.slice none 0 0)]]))) 3 none) 20 (some (.arr 1 (litsV vs++[[.lit (.slice none 0 0)]]))),log:=[] }) ?_ (g7.ok' fun id h=>okIn_mono (fun j hj=>by omega) h) fun a8 w8 g8=>?_
     ·kernel_rfl
     ·subst hE;subst hS
      simp[GEV,GST,updG,htkv,hvb]
     clear g7
     have g9:=g8.settle (fun w m φ ids h=>GPS.keep ids h) [0,1,2,3,4,5,6,7,8,9,10,18,19,20,21,37]
     have hset:Av.settle [0,1,2,3,4,5,6,7,8,9,10,18,19,20,21,37] 0 (upd (upd (upd (upd (E5) 38 (.osl 3 1 0 vs.length)) 39 (.osl 12 1 0 1)) 40 (.osl 20 1 0 (vs.length+1))) 7 (.osl 20 1 0 (vs.length+1))) (upd (upd (upd S5 12 (some (.arr 1 [[.lit (.slice none 0 0)]]))) 3 none) 20 (some (.arr 1 (litsV vs++[[.lit (.slice none 0 0)]]))))={ env:=GEV w0 rows cs N (.osl 3 1 0 (vs.length+1)) (.int i) (.i (.isl (valsL r))) (.junk) (.int i) (.bool true) (.bool true),st:=GST w0 rows cs M [some (.arr 1 (litsV (vs++[.slice none 0 0])))] }:=by
      subst hE;subst hS
      simp[GEV,GST,litsV_append,litsV]
     rw[hset]at g9
     clear g8 hset
     refine⟨rfl,vs,runs cs (M.take i),bs, .slice none 0 0,[],0,hnew rfl,by simp,hvl,?_⟩
     refine(g9.envTo ?_).mapR fun m φ k=>.inl ⟨rfl,rfl,k⟩
     intro t
     simp only[GEV,envOf]
     by_cases h37:t=37
     ·subst h37;simp
     ·right;simp[h37]
   | false =>
    simp only[Bool.false_eq_true,if_false]
    obtain⟨G,g,e1,e2⟩:=hold rfl
    have l2:bs.length=vs.length:=by obtain⟨⟨m,φ,_,_,_,_,k⟩,_⟩:=g4;exact k.l2
    have hvne:vs≠[]:=fun e=>by rw[e1,e]at hgl;simp at hgl
    have hbne:bs≠[]:=fun e=>by rw[e]at l2;exact hvne (List.length_eq_zero_iff.1 l2.symm)
    obtain⟨vs0,v,rfl⟩:∃ vs0 v,vs=vs0++[v]:=⟨_,_,(List.dropLast_concat_getLast hvne).symm⟩
    obtain⟨bs0,b,rfl⟩:∃ bs0 b,bs=bs0++[b]:=⟨_,_,(List.dropLast_concat_getLast hbne).symm⟩
    have hvn:(vs0++[v]).length=vs0.length+1:=by simp
    rw[hvn]at g4 hvl
    simp only[gro_s,groB_s]at g4
    refine wp_skip ⟨rfl,vs0,G,bs0,v,g,b,e2,?_,by omega,?_⟩
    ·have hm:g∈runs cs (M.take i):=by rw[e1];simp
     have:=mem_len hm
     rw[hfl]at this
     have:(M.take i).length≤M.length:=by simp;omega
     omega
    ·rw[e1]at g4
     refine((g4.envTo ?_).mapR fun m φ k=>.inr k)
     intro t
     simp only[GEV,envOf]
     by_cases h37:t=37
     ·subst h37;simp
     ·right;simp[h37]
  ·rintro _ a4 w4 ⟨rfl,vs0,gs0,bs0,v,g,b,hru,hgl2,hvl0,g4⟩
   have wn:IntKind.i64.wrap (vs0.length:Int)=(vs0.length:Int):=wrap64 (by omega) (by omega)
   refine wp_seq (wp_mono (GR.codeA sound0 (G:=GS 181) (S:={ env:=GEV w0 rows cs N (.osl 3 1 0 (vs0.length+1)) (.int i) (.i (.isl (valsL r))) (.junk) (.int i) (.bool true) (.junk),st:=GST w0 rows cs M [some (.arr 1 (litsV (vs0++[v])))] }) (e:=.normal) (S':={ env:=GEV w0 rows cs N (.osl 3 1 0 (vs0.length+1)) (.int i) (.i (.isl (valsL r))) (.int vs0.length) (.int i) (.bool true) (.junk),st:=GST w0 rows cs M [some (.arr 1 (litsV (vs0++[v])))] }) (GLast.stab _ _ _ _ _ _ _) (by kernel_rfl) (by simp[GEV,GST,wn]) g4) ?_)
   rintro _ a5 w5 ⟨rfl,g5⟩
   clear g4 g3
   refine wp_regionW ?_
   show wpOpsIn (FR none) 0 Tryz.prog _ _ (List.range 11) a5 w5
   rw[show List.range 11=List.range' 0 8++(8::(List.range' 9 2++[]))from rfl]
   generalize hE:envOf (GEV w0 rows cs N (.osl 3 1 0 (vs0.length+1)) (.int i) (.i (.isl (valsL r))) (.int vs0.length) (.int i) (.bool true) (.junk))=E5 at g5
   generalize hS:stOf (GST w0 rows cs M [some (.arr 1 (litsV (vs0++[v])))])=S5 at g5
   have hlv:=litsV_last vs0 v (n:=vs0.length) rfl
   refine GR.opsK sound0 (GLast.stab _ _ _ _ _ _ _) 0 8 rfl ?_ (base:=4) (R0:={ env:=E5,st:=S5,log:=[] }) (R1:={ env:=upd (upd (upd (upd (upd (upd (upd (upd (E5) 44 (.osl 3 1 0 (vs0.length+1))) 45 (.int vs0.length)) 46 (.osl 3 1 0 (vs0.length+1))) 47 (.int vs0.length)) 48 (.ownE 3 1 vs0.length 0)) 49 (.i (.lit v))) 50 (.i (.isl (valsL r)))) 51 (.osl 60 1 0 1),st:=upd S5 60 (some (.arr 1 [[.isl (valsL r)]])),log:=[] }) ?_ (g5.ok' fun id h=>.inl h) fun a6 w6 g6=>?_
   ·kernel_rfl
   ·subst hE;subst hS
    have hn1:(vs0.length:Int)<vs0.length+1:=by omega
    simp[GEV,GST,hlv,updG,hn1]
   clear g5
   rw[wpOpsIn_cons]
   obtain⟨y,w7,hrun,v',b',g7⟩:=GR.addRow (C:=C0) (t:=32) (u:=32) (ty:=32) (e:=41) (by_:=24) (z:=[.slice none 0 0]) (r:=r) (x:=51) (d:=52) (s:=49) sound0.ctx.zeros (by simp) (by simp) (by simp) (by simp) rfl (by omega) (by omega) (by simp) g6 rfl rfl (by omega)
   refine wpOp_append (d:=52) rfl hrun ?_
   clear g6
   have hcv:cellsOf (.i (.lit v'))=some [.i (.lit v')]:=by
    obtain⟨⟨m,φ,_,_,_,_,k⟩,_⟩:=g7
    obtain⟨cap,us,T,rfl,_⟩:=k.unsnoc.2.1.ex
    rfl
   refine GR.opsK sound0 (GPS.stab _ _ _ _) 9 2 rfl ?_ (base:=4) (R0:={ env:=upd (upd (upd (upd (upd (upd (upd (upd (upd (E5) 44 (.osl 3 1 0 (vs0.length+1))) 45 (.int vs0.length)) 46 (.osl 3 1 0 (vs0.length+1))) 47 (.int vs0.length)) 48 (.ownE 3 1 vs0.length 0)) 49 (.i (.lit v))) 50 (.i (.isl (valsL r)))) 51 (.osl 60 1 0 1)) 52 (.i (.lit v')),st:=upd S5 60 (some (.arr 1 [[.isl (valsL r)]])),log:=[] }) (R1:={ env:=upd (upd (upd (upd (upd (upd (upd (upd (upd (upd (E5) 44 (.osl 3 1 0 (vs0.length+1))) 45 (.int vs0.length)) 46 (.osl 3 1 0 (vs0.length+1))) 47 (.int vs0.length)) 48 (.ownE 3 1 vs0.length 0)) 49 (.i (.lit v))) 50 (.i (.isl (valsL r)))) 51 (.osl 60 1 0 1)) 52 (.i (.lit v'))) 53 (.ownE 3 1 vs0.length 0),st:=upd (upd S5 60 (some (.arr 1 [[.isl (valsL r)]]))) 3 (some (.arr 1 (litsV (vs0++[v'])))),log:=[] }) ?_ (g7.ok' fun id h=>okIn_mono (fun j hj=>by omega) h) fun a8 w8 g8=>?_
   ·kernel_rfl
   ·subst hE;subst hS
    have hn1:(vs0.length:Int)<vs0.length+1:=by omega
    have hsv:=litsV_set vs0 v v' (n:=vs0.length) rfl
    simp[GEV,GST,hlv,updG,hn1,hsv,hcv]
   clear g7
   have g9:=g8.settle (fun w m φ ids h=>GPS.keep ids h) [0,1,2,3,4,5,6,7,8,9,10,18,19,20,21,37]
   have hset:Av.settle [0,1,2,3,4,5,6,7,8,9,10,18,19,20,21,37] 0 (upd (upd (upd (upd (upd (upd (upd (upd (upd (upd (E5) 44 (.osl 3 1 0 (vs0.length+1))) 45 (.int vs0.length)) 46 (.osl 3 1 0 (vs0.length+1))) 47 (.int vs0.length)) 48 (.ownE 3 1 vs0.length 0)) 49 (.i (.lit v))) 50 (.i (.isl (valsL r)))) 51 (.osl 60 1 0 1)) 52 (.i (.lit v'))) 53 (.ownE 3 1 vs0.length 0)) (upd (upd S5 60 (some (.arr 1 [[.isl (valsL r)]]))) 3 (some (.arr 1 (litsV (vs0++[v'])))))={ env:=GEV w0 rows cs N (.osl 3 1 0 (vs0.length+1)) (.int i) (.i (.isl (valsL r))) (.int vs0.length) (.int i) (.bool true) (.junk),st:=GST w0 rows cs M [some (.arr 1 (litsV (vs0++[v'])))] }:=by
    subst hE;subst hS
    simp[GEV,GST]
   rw[hset]at g9
   clear g8 hset
   have wi1:IntKind.i64.wrap ((i:Int)+1)=(i:Int)+1:=wrap64 (by omega) (by omega)
   refine wp_mono (GR.codeA sound0 (G:=GS 181) (S:={ env:=GEV w0 rows cs N (.osl 3 1 0 (vs0.length+1)) (.int i) (.i (.isl (valsL r))) (.int vs0.length) (.int i) (.bool true) (.junk),st:=GST w0 rows cs M [some (.arr 1 (litsV (vs0++[v'])))] }) (e:=.normal) (S':={ env:=GEV w0 rows cs N (.osl 3 1 0 (vs0.length+1)) (.int i) (.i (.isl (valsL r))) (.int vs0.length) (.int (i+1)) (.bool true) (.junk),st:=GST w0 rows cs M [some (.arr 1 (litsV (vs0++[v'])))] }) (GPS.stab _ _ _ _) (by kernel_rfl) (by simp[GEV,GST,wi1]) g9) ?_
   rintro _ a9 w9 ⟨rfl,g10⟩
   clear g9
   refine⟨N-(i+1),by omega,i+1,vs0++[v'],bs0++[b'],rfl,by omega,?_⟩
   rw[hru]
   have hvn:(vs0++[v']).length=vs0.length+1:=by simp
   have he:∀ t,envOf (GLX w0 rows cs N M (vs0++[v']) (i+1)).env t=.junk∨envOf (GLX w0 rows cs N M (vs0++[v']) (i+1)).env t=envOf (GEV w0 rows cs N (.osl 3 1 0 (vs0.length+1)) (.int i) (.i (.isl (valsL r))) (.int vs0.length) (.int (i+1)) (.bool true) (.junk)) t:=by
    intro t
    simp only[GLX,GEV,envOf,hvn,gro_s]
    by_cases h8:t=8
    ·subst h8;simp
    by_cases h9:t=9
    ·subst h9;simp
    by_cases h10:t=10
    ·subst h10;simp
    by_cases h21:t=21
    ·subst h21;simp
    ·right;simp[h8,h9,h10,h21]
   have g11:=g10.envTo he
   have hs2:(GLX w0 rows cs N M (vs0++[v']) (i+1)).st=GST w0 rows cs M [some (.arr 1 (litsV (vs0++[v'])))]:=by simp only[GLX,hvn,groB_s]
   rw[hs2]
   exact g11
 ·have hieq:i=N:=by omega
  subst hieq
  have hvs:vs.length≠0:=by
   rw[← hgl,List.take_of_length_le (by omega)]
   exact fun e=>(runs_flat cs _ M rfl).2.1 (fun e=>by rw[e]at hMl;simp at hMl;omega) (List.length_eq_zero_iff.1 e)
  refine wp_seq (wp_mono (GR.codeA sound0 (G:=GS 181) (S:=GLX w0 rows cs i M vs i) (e:=.normal) (S':={ env:=GEV w0 rows cs i (gro 3 1 vs.length) .junk .junk .junk (.int i) (.bool false) .junk,st:=GST w0 rows cs M (groB 1 (litsV vs) vs.length) }) (GPS.stab _ _ _ _) (by kernel_rfl) (by simp[GLX,GEV,GST,gro_pos hvs,groB_pos hvs]) g) ?_)
  rintro _ a1 w1 ⟨rfl,g1⟩
  refine wp_seq (wp_mono (GR.codeA sound0 (G:=GS 181) (S:={ env:=GEV w0 rows cs i (gro 3 1 vs.length) .junk .junk .junk (.int i) (.bool false) .junk,st:=GST w0 rows cs M (groB 1 (litsV vs) vs.length) }) (e:=.exit 0) (S':={ env:=GEV w0 rows cs i (gro 3 1 vs.length) .junk .junk .junk (.int i) (.bool false) .junk,st:=GST w0 rows cs M (groB 1 (litsV vs) vs.length) }) (GPS.stab _ _ _ _) (by kernel_rfl) (by simp[GLX,GEV,GST,gro_pos hvs,groB_pos hvs]) g1) ?_)
  rintro _ a2 w2 ⟨rfl,g2⟩
  simp only[exitOf,Exit.then,Exit.inBlock,if_true]
  rw[List.take_of_length_le (by omega)]at g2 hgl
  have g3:=g2.grpsDone (id:=3) (by rw[groB_pos hvs];rfl)
  have g3:GR wi mi 56 (fun id=>id<({ env:=GEV w0 rows cs i (gro 3 1 vs.length) .junk .junk .junk (.int i) (.bool false) .junk,st:=GST w0 rows cs M [some (.arr 1 (grpsL (runs cs M)))] }:AS).st.length) (fun _ _ _=>True) (envOf (GEV w0 rows cs i (gro 3 1 vs.length) .junk .junk .junk (.int i) (.bool false) .junk)) (stOf (GST w0 rows cs M [some (.arr 1 (grpsL (runs cs M)))])) a2 w2:=by
   have he:upd (stOf (GST w0 rows cs M (groB 1 (litsV vs) vs.length))) 3 (some (.arr 1 (grpsL (runs cs M))))=stOf (GST w0 rows cs M [some (.arr 1 (grpsL (runs cs M)))]):=by
    rw[groB_pos hvs]
    funext id
    rcases id with _|_|_|_|id<;>simp[upd,stOf,GST]
   simp only[he]at g3
   exact g3.ok' fun id h=>by rw[groB_pos hvs]at h;exact h
  refine wp_mono (GR.codeA sound0 (G:=GS 181) (S:={ env:=GEV w0 rows cs i (gro 3 1 vs.length) .junk .junk .junk (.int i) (.bool false) .junk,st:=GST w0 rows cs M [some (.arr 1 (grpsL (runs cs M)))] }) (e:=.ret) (S':={ env:=[(0, .i (.agg [.int w0, .isl (rowsL rows)])),(1, .i (.isl (intsL cs))),(2, .own 0 0),(3, .own 1 0),(4, .osl 3 1 0 vs.length),(5, .osl 2 1 0 i),(6, .fn (.func 212) [.own 1 0]),(7, .osl 3 1 0 vs.length),(8, .junk),(9, .junk),(10, .junk),(18, .osl 2 1 0 i),(19, .int i),(20, .int i),(21, .bool false),(37, .junk)],st:=[some (.box [.i (.int w0), .i (.isl (rowsL rows))]),some (.box [.i (.isl (intsL cs))]),some (.arr 1 (rowsL M)),some (.arr 1 (grpsL (runs cs M)))] }) stTrue (by kernel_rfl) (by simp[GEV,GST,gro_pos hvs]) g3) ?_
  rintro _ a3 w3 ⟨rfl,g4⟩
  obtain⟨⟨m,φ,q1,q2,q3,q4,q5⟩,q6,q7⟩:=g4
  obtain⟨v,k1,k2⟩:=finish_sound (C:=C0) (fn:=Tryz.f181) (keep:=false) (na:=0) (S:={ env:=[(0, .i (.agg [.int w0, .isl (rowsL rows)])),(1, .i (.isl (intsL cs))),(2, .own 0 0),(3, .own 1 0),(4, .osl 3 1 0 vs.length),(5, .osl 2 1 0 i),(6, .fn (.func 212) [.own 1 0]),(7, .osl 3 1 0 vs.length),(8, .junk),(9, .junk),(10, .junk),(18, .osl 2 1 0 i),(19, .int i),(20, .int i),(21, .bool false),(37, .junk)],st:=[some (.box [.i (.int w0), .i (.isl (rowsL rows))]),some (.box [.i (.isl (intsL cs))]),some (.arr 1 (rowsL M)),some (.arr 1 (grpsL (runs cs M)))] }) (r:=.i (.isl (grpsL (runs cs M)))) (stl':=[]) (fun id h=>absurd rfl h) ⟨⟨⟨m,φ,q1,q2,q3,q4, .nil _ _ _⟩,q6,q7⟩,Nat.zero_le _⟩ (by
   show finish C0 false [ResultVar.tmp 4] 0 _=_
   have e1:(grpsL (runs cs M)).take vs.length=grpsL (runs cs M):=List.take_of_length_le (by simp;omega)
   simp[hgl,e1])
  exact⟨q7,v,k1,k2⟩
end Go.Proofs.YtiailccmofdhfaaGreat.P
namespace Go.Av
open Go.Proofs Go.Shelf Go.RowKit Go.Lib Go.Sort
abbrev oksL (l:List (List Val)):Prop:=∀ r∈l,r.all Val.ok=true∧r.length<1000000
noncomputable def sortB (g0 g n:Nat) (es:List (List IV)):Option (AV×StL):=open Classical in if h:g=g0∧0<n∧n<4611686018427387904∧∃ rows,es=rowsL rows∧rows.length=n∧oksL rows then some (.tup [],[some (.arr 1 (rowsL (sortR h.2.2.2.choose)))])else none
noncomputable def sortP (g0:FuncId):List AV→StL→Option (AV×StL)
 | [.osl 0 1 0 n, .fn (.func g) []],[some (.arr 1 es)]=>sortB g0 g n es
 | [.nils, .fn (.func g) []],[]=>if g=g0 then some (.tup [],[])else none
 | _,_=>none
theorem valsL_inj:∀ {a b:List Val},valsL a=valsL b→a=b
 | [],[],_=>rfl
 | [],_::_,h=>by simp[valsL]at h
 | _::_,[],h=>by simp[valsL]at h
 | a::l,b::m,h=>by
  simp only[valsL,List.cons.injEq]at h
  obtain⟨⟨h1,h2,_⟩,h3⟩:=h
  have e1:a.null=b.null:=by injection h1 with h1;injection h1
  have e2:a.n=b.n:=by injection h2 with h2;injection h2
  rw[valsL_inj h3]
  cases a;cases b;simp_all
theorem rowsL_inj:∀ {a b:List (List Val)},rowsL a=rowsL b→a=b
 | [],[],_=>rfl
 | [],_::_,h=>by simp[rowsL]at h
 | _::_,[],h=>by simp[rowsL]at h
 | a::l,b::m,h=>by
  rw[rowsL_cons,rowsL_cons]at h
  simp only[List.cons.injEq,IV.isl.injEq,and_true]at h
  rw[valsL_inj h.1,rowsL_inj h.2]
theorem sortP_some {g0 n:Nat} {rows:List (List Val)} (h0:rows≠[]) (hn:rows.length=n) (hs:n<4611686018427387904) (ho:oksL rows):sortP g0 [.osl 0 1 0 n, .fn (.func g0) []] [some (.arr 1 (rowsL rows))]=some (.tup [],[some (.arr 1 (rowsL (sortR rows)))]):=by
 have hp:0<n:=by have:=List.length_pos_iff.2 h0;omega
 have hc:g0=g0∧0<n∧n<4611686018427387904∧∃ rows',rowsL rows=rowsL rows'∧rows'.length=n∧oksL rows':=⟨rfl,hp,hs,rows,rfl,hn,ho⟩
 show sortB g0 g0 n (rowsL rows)=_
 unfold sortB
 rw[dif_pos hc]
 rw[← rowsL_inj hc.2.2.2.choose_spec.1]
theorem sortP_nil (g0:Nat):sortP g0 [.nils, .fn (.func g0) []] []=some (.tup [],[]):=if_pos rfl
theorem sortP_cases {g0:Nat} {args:List AV} {st:StL} {p:AV×StL} (h:sortP g0 args st=some p):(∃ rows n,args=[.osl 0 1 0 n, .fn (.func g0) []]∧st=[some (.arr 1 (rowsL rows))]∧rows.length=n∧0<n∧n<4611686018427387904∧oksL rows∧p=(.tup [],[some (.arr 1 (rowsL (sortR rows)))]))∨(args=[.nils, .fn (.func g0) []]∧st=[]∧p=(.tup [],[])):=by
 unfold sortP at h
 split at h
 ·unfold sortB at h
  split at h
  ·rename_i hc
   injection h with h
   obtain⟨rfl,h1,h2,h3⟩:=hc
   have h4:=h3.choose_spec
   exact .inl ⟨h3.choose,_,rfl,by rw[← h4.1],h4.2.1,h1,h2,h4.2.2,h.symm⟩
  ·cases h
 ·split at h
  ·rename_i hg
   subst hg
   injection h with h
   exact .inr ⟨rfl,rfl,h.symm⟩
  ·cases h
 ·cases h
structure RowIn (m:Mem) where
 v:Value
 r:List Val
 one:v.oneCell'=true
 rep:IRep m (.isl (valsL r)) v
 ok:r.all Val.ok=true
 len:r.length<1000000
theorem rows_in {m:Mem}:∀ {rows:List (List Val)} {vs:List Value},oksL rows→ICells m (rowsL rows).flatten vs→∃ ps:List (RowIn m),ps.map (·.v)=vs∧ps.map (·.r)=rows
 | [],vs,_,h=>by
  simp only[rowsL,List.map_nil,List.flatten_nil]at h
  cases h
  exact⟨[],rfl,rfl⟩
 | r::rows,vs,ho,h=>by
  rw[rowsL_cons,List.flatten_cons]at h
  simp only[List.cons_append,List.nil_append]at h
  cases h with
  | cons a o b =>
   obtain⟨ps,h1,h2⟩:=rows_in (fun x hx=>ho x (by simp[hx])) b
   exact⟨⟨_,r,o,a,(ho r (by simp)).1,(ho r (by simp)).2⟩::ps,by simp[h1],by simp[h2]⟩
theorem icells_rows {m:Mem}:∀ ps:List (RowIn m),ICells m (rowsL (ps.map (·.r))).flatten (ps.map (·.v))
 | []=>.nil
 | p::ps=>by
  rw[List.map_cons,List.map_cons,rowsL_cons,List.flatten_cons]
  simp only[List.cons_append,List.nil_append]
  exact .cons p.rep p.one (icells_rows ps)
theorem rowLt_swo {m:Mem}:SWO (ltOf fun(x y:RowIn m)=>rowCmp x.r y.r):=by
 constructor
 ·intro x;simp[ltOf,rowCmp_self]
 ·intro x y z h1 h2
  simp only[ltOf,decide_eq_true_eq]at *
  have k1:=rowCmp_neg z.r x.r
  have k2:¬ rowCmp z.r x.r≤0:=by
   intro h3
   have:=rowCmp_trans (a:=z.r) (b:=x.r) (c:=y.r) h3 (by omega)
   have:=rowCmp_neg y.r z.r
   omega
  omega
 ·intro x y z h1 h2
  simp only[ltOf,decide_eq_false_iff_not]at *
  have k1:=rowCmp_neg x.r y.r
  have k2:=rowCmp_neg y.r z.r
  have k3:=rowCmp_neg x.r z.r
  have:=rowCmp_trans (a:=z.r) (b:=y.r) (c:=x.r) (by omega) (by omega)
  omega
theorem grown_of {W W':World} {m m':Mem} {φ':Pl} (h:Adv W m (fun _=>none) W' m' φ'):∃ q os',W'=grow (W.drewN q) os':=by
 refine⟨W'.drawn-W.drawn,W'.heap.extract W.heap.size W'.heap.size,?_⟩
 have h1:=h.tape.tape
 have h2:=h.tape.fwd
 have h3:=h.os
 have h4:=h.output
 have h5:W'.heap=W.heap++W'.heap.extract W.heap.size W'.heap.size:=by
  apply Array.ext_getElem?
  intro i
  rw[Array.getElem?_append]
  split
  ·rename_i hi
   exact h.block i hi fun id b n e=>by cases e
  ·rename_i hi
   rw[Array.getElem?_extract]
   split
   ·rw[show W.heap.size+(i-W.heap.size)=i by omega]
   ·rw[Array.getElem?_eq_none (by omega)]
 unfold grow World.drewN
 cases W';cases W
 simp only[World.mk.injEq]at *
 exact⟨h5,h1,by omega,h3,h4⟩
instance {m:Mem}:Inhabited (RowIn m):=⟨⟨.slice none 0 0,[],rfl, .isl0 _ _ fun _=>rfl,rfl,by decide⟩⟩
theorem putCells_row {m:Mem} {d:Array (RowIn m)} {vs:List Value} (h:d.size≤vs.length):putCells (fun x:RowIn m=>x.v) 0 d vs.toArray=(d.toList.map (·.v)++vs.drop d.size).toArray:=by
 apply Array.ext_getElem?
 intro i
 unfold putCells
 rw[Array.getElem?_mapIdx]
 simp only[List.getElem?_toArray,Nat.zero_add,Nat.zero_le,true_and,Nat.sub_zero]
 by_cases hi:i<d.size
 ·rw[List.getElem?_append_left (by simpa using hi),List.getElem?_map,List.getElem?_eq_getElem (show i<vs.length by omega),List.getElem?_eq_getElem (show i<d.toList.length by simpa using hi)]
  simp only[hi,if_true,Option.map_some]
  rw[getElem!_pos d i hi];simp
 ·rw[List.getElem?_append_right (by simpa using hi),List.getElem?_drop,List.length_map,Array.length_toList,show d.size+(i-d.size)=i by omega]
  simp only[hi,if_false]
  cases vs[i]?<;>rfl
theorem sort_calls {C:Ctx} (hS:SoundOk C) {g0:FuncId} {ρ:Go.Shelf.Ren} (L:SlLaysF.n6 C.P ρ) (hy:g0≠yldF) (eg:∀ args w,(callFunc g0 args).run C.P w=.ok (.enter g0 args) w)
 (hcmp:∀ a b:List Val,a.all Val.ok=true→b.all Val.ok=true→a.length<1000000→b.length<1000000→callA C g0 [.i (.isl (valsL a)), .i (.isl (valsL b))] []=some (.int (rowCmp a b),[]))
 {args:List AV} {stl stl':StL} {r:AV} (h:sortP g0 args stl=some (r,stl')) (w:World) (m:Mem) (φ:Pl) (vs:List Value) (hi:Inv w m φ (stOf stl)) (hr:RepL m φ args vs) (h0:∀ id,φ id≠none→id<stl.length) :
 Calls C.P (ρ.f 6) vs.toArray w (CallPost w m φ r stl'):=by
 rcases sortP_cases h with ⟨rows,n,rfl,rfl,hn,hp,hs,ho,he⟩|⟨rfl,rfl,he⟩
 ·injection he with he1 he2;subst he1;subst he2
  cases hr with
  | cons r0 rr =>
   cases rr with
   | cons r1 rr =>
    cases rr
    cases r1 with
    | fn rc =>
     cases rc
     cases r0 with
     | osl e1 e2 e3 e4 e5 =>
      rename_i cap b nx ao
      obtain⟨hown,hk⟩:=blk_own hi e1 (show stOf [some (Blk.arr 1 (rowsL rows))] 0=some (.arr 1 (rowsL rows))from rfl)
      have hao:=e4 (by omega)
      subst hao
      cases hk with
      | arr k1 k2 k3 k4 k5 k6 k7 k8 k9 =>
       rename_i T us
       have hrl:(rowsL rows).length=n:=by rw[rowsL_length,hn]
       rw[hrl,Nat.one_mul]at k5 k6
       obtain⟨ps,p1,p2⟩:=rows_in ho k5
       have hpl:ps.length=n:=by have:=congrArg List.length p2;simpa [hn]using this
       have hus:n≤us.length:=by omega
       have hcells:∀ j,j<n→w.cell? ⟨b,0+j,none⟩=some (ps.toArray[j]!).v:=by
        intro j hj
        rw[Nat.zero_add,cell_row k1]
        have h2:(us.take n)[j]?=us[j]?:=by rw[List.getElem?_take,if_pos hj]
        rw[← h2,← p1,List.getElem?_map]
        rw[getElem!_pos ps.toArray j (by simpa [hpl]using hj),List.getElem?_eq_getElem (by omega)]
        simp
       have hH:Holds (fun x:RowIn m=>x.v) w b 0 ps.toArray:=by
        intro j hj
        have hj':j<n:=by simpa [hpl]using hj
        refine⟨hcells j hj',?_⟩
        unfold World.frozen?
        rw[k1];simp
       have hblt:b<w.heap.size:=hown.2 b hown.1
       have hsz:ps.toArray.size=n:=by simpa using hpl
       have hC:CmpLays1 C.P g0 #[] (fun x:RowIn m=>x.v) (fun x y=>rowCmp x.r y.r) b 0 ps.toArray.size w:=by
        intro k os dk hdk x y
        have hmem:MemOk (sortWorld (fun x:RowIn m=>x.v) w b 0 k dk os) m:=by
         intro b' o v hv
         have hne:b'≠b:=fun e=>by subst e;rw[k7 o]at hv;cases hv
         have hlt:b'<w.heap.size:=hi.mem.lt hv
         unfold sortWorld
         rw[cell?_grow _ _ _ (by simpa [Sort.ahead]using hlt),cell?_putRow_other _ _ _ _ _ _ (.inl hne)]
         exact hi.mem b' o v hv
        have hcall:=(callA_sound hS).calls g0 [.i (.isl (valsL x.r)), .i (.isl (valsL y.r))] [] _ _ hy (hcmp x.r y.r x.ok y.ok x.len y.len) (sortWorld (fun x:RowIn m=>x.v) w b 0 k dk os) m (fun _=>none) [x.v,y.v]
         ⟨hmem,fun id blk e=>(by simp[stOf]at e),fun i j b b' n n' b1 b2 f e=>(by simp[stOf]at e),fun _ _ _ _ e=>(by cases e)⟩ (.cons (.i x.rep) (.cons (.i y.rep) .nil)) (fun id e=>absurd rfl e)
        refine(show Calls C.P g0 (#[x.v,y.v] ++ #[]) _ _ from hcall).mono ?_
        rintro e w' ⟨v,m',φ',rfl,j1,_,j3,_⟩
        refine⟨?_,grown_of j3⟩
        cases j1 with
        | i j1=>cases j1;rfl
       have hsort:=Any.slices_SortFunc (P:=C.P) (ρ:=ρ) L (fun x:RowIn m=>x.v) (fun x=>x.one) (fun x y=>rowCmp x.r y.r) rowLt_swo g0 #[] b 0 cap ps.toArray w eg hC hH hblt (by rw[hsz];exact hs)
       rw[hsz]at hsort
       refine(show Calls C.P (ρ.f 6) #[.slice (some ⟨b,0,none⟩) n cap, .func (.func g0) #[] #[]] w _ from hsort).mono ?_
       rintro e w' ⟨rfl,d',q,os,hpm,hst,rfl⟩
       obtain⟨hd1,_,hd3⟩:=hpm
       rw[hsz]at hd1
       have hperm:(d'.toList.map (·.r)).Perm rows:=by
        rw[← p2]
        have:d'.toList.Perm ps:=by
         have e1:d'.extract 0 n=d':=by rw[← hd1];exact Array.extract_size
         have e2:ps.toArray.extract 0 n=ps.toArray:=by rw[← hsz];exact Array.extract_size
         rw[e1,e2]at hd3;exact hd3
        exact this.map _
       have hsrt:Srt (d'.toList.map (·.r)):=by
        rw[Srt,List.pairwise_map,List.pairwise_iff_getElem]
        intro i j hi' hj' hij
        have hi2:i<d'.size:=by simpa using hi'
        have hj2:j<d'.size:=by simpa using hj'
        have:=hst i j (Nat.zero_le _) hij (by omega)
        rw[getElem!_pos d' i hi2,getElem!_pos d' j hj2]at this
        simp only[ltOf,decide_eq_false_iff_not]at this
        have h3:=rowCmp_neg d'[j].r d'[i].r
        unfold rowLe
        simp only[Array.getElem_toList,decide_eq_true_eq]
        omega
       have heq:=sortR_eq hperm hsrt fun r hr=>(ho r hr).1
       rw[← heq]
       have hput:(putRow (fun x:RowIn m=>x.v) (Sort.ahead w q) b 0 d').heap[b]?=some (.cells (d'.toList.map (·.v)++us.drop n).toArray T (0,0)):=by
        unfold putRow mapBlock
        show(w.heap.modify b _)[b]?=_
        rw[Array.getElem?_modify,if_pos rfl,k1]
        simp only[Option.map_some,onCells]
        rw[putCells_row (by omega),hd1]
       have hoth:∀ x,x≠b→(putRow (fun x:RowIn m=>x.v) (Sort.ahead w q) b 0 d').heap[x]?=w.heap[x]?:=by
        intro x hx
        unfold putRow mapBlock
        show(w.heap.modify b _)[x]?=_
        rw[Array.getElem?_modify,if_neg (Ne.symm hx)]
       have hlen:(d'.toList.map (·.v)++us.drop n).length=nx.len:=by simp[hd1];omega
       obtain⟨i1,a1⟩:=hi.setG (w':=putRow (fun x:RowIn m=>x.v) (Sort.ahead w q) b 0 d') (blk:=.arr 1 (rowsL rows)) (blk':=.arr 1 (rowsL (d'.toList.map (·.r)))) rfl e1 k7 (by exact Array.size_modify) hoth ⟨rfl,⟨rfl,Nat.le_add_right _ _⟩,rfl⟩
        (.arr (T:=T) hput hlen (by omega) (fun e he=>by
         obtain⟨r,_,rfl⟩:=List.mem_map.1 he;rfl) (by
         have hdl:(rowsL (d'.toList.map (·.r))).length=n:=by simp[hd1]
         rw[hdl,Nat.one_mul,List.take_append_of_le_length (by simp[hd1]),List.take_of_length_le (by simp[hd1])]
         exact icells_rows d'.toList) (by rw[rowsL_length,List.length_map,Array.length_toList,hd1];omega) k7 k8 (fun v hv=>by
         rcases List.mem_append.1 hv with hv|hv
         ·obtain⟨x,_,rfl⟩:=List.mem_map.1 hv;exact x.one
         ·exact k9 v (List.mem_of_mem_drop hv)))
       have hgrow:∀ f,f<(putRow (fun x:RowIn m=>x.v) (Sort.ahead w q) b 0 d').heap.size→(grow (putRow (fun x:RowIn m=>x.v) (Sort.ahead w q) b 0 d') os).heap[f]?=(putRow (fun x:RowIn m=>x.v) (Sort.ahead w q) b 0 d').heap[f]?:=by
        intro f hf
        unfold grow
        simp only
        rw[Array.getElem?_append,if_pos hf]
       have hst':upd (stOf [some (Blk.arr 1 (rowsL rows))]) 0 (some (.arr 1 (rowsL (d'.toList.map (·.r)))))=stOf [some (.arr 1 (rowsL (d'.toList.map (·.r))))]:=by
        funext id
        cases id with
        | zero=>rfl
        | succ id=>rfl
       rw[hst']at i1
       refine⟨.tuple #[],m,φ,rfl, .tup .nil,i1.later (by unfold sortWorld grow;simp) hgrow,a1.trans ⟨by unfold sortWorld grow;simp,rfl,⟨rfl,Nat.le_refl _⟩,rfl,fun f hf _=>hgrow f hf, .refl _,fun _ _ _ _=>rfl, .refl _,fun id b n f e ho=>.inr (Free.not e ho)⟩,h0⟩
 ·injection he with he1 he2;subst he1;subst he2
  cases hr with
  | cons r0 rr =>
   cases rr with
   | cons r1 rr =>
    cases rr
    cases r0
    cases r1 with
    | fn rc =>
     cases rc
     have hnone:=AnyF.slices_SortFunc_none (P:=C.P) (ρ:=ρ) { L with } none 0 (.func (.func g0) #[] #[]) w
     refine(show Calls C.P (ρ.f 6) #[.slice none 0 0, .func (.func g0) #[] #[]] w _ from hnone).mono ?_
     rintro e w' ⟨rfl,rfl⟩
     exact⟨_,m,φ,rfl, .tup .nil,hi, .refl _ _ _,h0⟩
end Go.Av
namespace Go.Av
open Go.Proofs Go.Shelf Go.RowKit Go.Lib
def growP:List AV→StL→Option (AV×StL)
 | [.nils, .i (.lit (.int .i64 n))],[]=>if n=0 then some (.nils,[])else tst (decide (0<n∧n≤1000000)) (some (.osl 0 1 0 0,[some (.arr 1 [])]))
 | _,_=>none
theorem growP_cases {args:List AV} {st:StL} {p:AV×StL} (h:growP args st=some p):∃ n:Int,args=[.nils, .i (.lit (.int .i64 n))]∧st=[]∧((n=0∧p=(.nils,[]))∨(0<n∧n≤1000000∧p=(.osl 0 1 0 0,[some (.arr 1 [])]))):=by
 unfold growP at h
 split at h
 ·rename_i n
  refine⟨n,rfl,rfl,?_⟩
  split at h
  ·rename_i h0;injection h with h;exact .inl ⟨h0,h.symm⟩
  ·obtain⟨h1,h2⟩:=tst_eq.1 h
   injection h2 with h2
   have h1:=of_decide_eq_true h1
   exact .inr ⟨h1.1,h1.2,h2.symm⟩
 ·cases h
theorem grow_calls {C:Ctx} {ρ:Go.Shelf.Ren} (L:Lays8.n4 C.P ρ) {i0:TypeInfo} {z:Value} (hi0:C.P.info? (ρ.t 25)=some i0) (hz0:i0.zero=some z) (hs0:i0.size=1) (hb:i0.bytes≤100000) (hzc:z.cells.size=1) (hz1:∀ v∈z.cells.toList,v.oneCell'=true)
 {args:List AV} {stl stl':StL} {r:AV} (h:growP args stl=some (r,stl')) (w:World) (m:Mem) (φ:Pl) (vs:List Value) (hi:Inv w m φ (stOf stl)) (hr:RepL m φ args vs) (h0:∀ id,φ id≠none→id<stl.length) :
 Calls C.P (ρ.f 4) vs.toArray w (CallPost w m φ r stl'):=by
 obtain⟨n,rfl,rfl,hc⟩:=growP_cases h
 cases hr with
 | cons r0 rr =>
  cases rr with
  | cons r1 rr =>
   cases rr
   cases r0
   rw[r1.lit_eq]
   rcases hc with ⟨rfl,he⟩|⟨h1,h2,he⟩
   ·injection he with he1 he2;subst he1;subst he2
    have hcon:=Any8.slices_Grow_room L none 0 0 0 w (Nat.le_refl _) (by omega) (by omega) (Nat.le_refl _)
    refine(show Calls C.P (ρ.f 4) #[.slice none 0 0, .int .i64 0] w _ from hcon).mono ?_
    rintro e w' ⟨rfl,rfl⟩
    exact⟨_,m,φ,rfl, .nils,hi, .refl _ _ _,h0⟩
   ·injection he with he1 he2;subst he1;subst he2
    obtain⟨k,rfl⟩:∃ k:Nat,n=k:=⟨n.toNat,by omega⟩
    have hbk:(0+k)*i0.bytes≤140737488355328:=by
     have:(0+k)*i0.bytes≤1000000*100000:=Nat.mul_le_mul (by omega) hb
     omega
    have hcon:=Any8.slices_Grow_grow L i0 z hi0 hz0 (by omega) none 0 0 k [] w (Nat.le_refl _) (by omega) hbk (by omega) (by simp) (fun _=>rfl) (fun a e=>by cases e)
    refine(show Calls C.P (ρ.f 4) #[.slice none 0 0, .int .i64 k] w _ from hcon).mono ?_
    rintro e w' ⟨rfl,rfl⟩
    have hcap:0+k≤grownCap w (0+k) 0 (ρ.t 25):=by
     unfold grownCap
     show 0+k≤(0+k)+_
     omega
    generalize grownCap w (0+k) 0 (ρ.t 25)=cap at hcap ⊢
    generalize hcs:(#[]++Builtin.zeroCells z.cells (0+k-0)++Builtin.zeroCells z.cells (cap-(0+k)):Array Value)=cs
    have hcs2:cs.size=cap:=by rw[← hcs];simp[Builtin.zeroCells,hzc];omega
    have hone:∀ v∈cs.toList,v.oneCell'=true:=by
     intro v hv
     rw[← hcs]at hv
     simp only[Array.toList_append,List.mem_append]at hv
     rcases hv with (hv|hv)|hv
     ·simp at hv
     ·exact hz1 v (zeroCells_mem hv)
     ·exact hz1 v (zeroCells_mem hv)
    have hφ:φ 0=none:=by
     cases e:φ 0 with
     | none=>rfl
     | some p=>exact absurd (h0 0 (by rw[e];simp)) (by simp)
    have hcl:cs=cs.toList.toArray:=by simp
    have hblk:BlkOk (w.drew.alloc (.cells cs (ρ.t 25))) m (updP φ 0 (w.drew.heap.size,one w.drew.heap.size cs.toList.length)) w.drew.heap.size (one w.drew.heap.size cs.toList.length) (.arr 1 []):=by
     refine .arr (T:=ρ.t 25) (vs:=cs.toList) (by rw[← hcl];exact heap_push_new w.drew _) rfl (by omega) (by simp) (by simpa using ICells.nil) (by simp) ?_ (fun _ hf=>hf) hone
     intro o
     cases hm:m w.drew.heap.size o with
     | none=>rfl
     | some u=>exact absurd (hi.mem.lt hm) (by show ¬ w.heap.size<w.heap.size;omega)
    obtain⟨k1,k2⟩:=hi.drew.push hφ _ hblk
    have hst:upd (stOf []) 0 (some (Blk.arr 1 []))=stOf [some (.arr 1 [])]:=by
     funext id;cases id<;>rfl
    rw[hst]at k1
    refine⟨_,m,_,rfl, .osl (updP_same _ _ _) (by omega) ?_ (fun _=>rfl) (fun h=>by cases h),k1,(Adv.drew w m φ).trans k2,fun id hid=>?_⟩
    ·simp[one_len,hcs2]
    ·unfold updP at hid
     split at hid
     ·rename_i e;subst e;simp
     ·exact absurd (h0 id hid) (by simp)
end Go.Av
namespace Go.Proofs
open Go.Shelf
def Tryz.growRows_ren:Go.Shelf.Ren:=⟨fun|4=>131|n=>n,fun|22=>32|25=>41|3=>3|4=>4|9=>9|20=>20|0=>0|n=>n,fun|n=>n⟩
theorem Tryz.growRows:Go.Proofs.Lays8.n4 Tryz.prog Tryz.growRows_ren:={
 mixed:=by kernel_rfl
 f4:=⟨Tryz.f131.name,by decide,Tryz.func131.trans (congrArg some (by kernel_rfl))⟩
 t0:=Tryz.underlying0
 a0:=Tryz.isAgg0
 z0:=Tryz.sizeOf0
 v0:=Tryz.zeroValue0
 t3:=Tryz.underlying3
 a3:=Tryz.isAgg3
 z3:=Tryz.sizeOf3
 v3:=Tryz.zeroValue3
 t4:=Tryz.underlying4
 a4:=Tryz.isAgg4
 z4:=Tryz.sizeOf4
 v4:=Tryz.zeroValue4
 t9:=Tryz.underlying9
 a9:=Tryz.isAgg9
 z9:=Tryz.sizeOf9
 v9:=Tryz.zeroValue9
 t20:=Tryz.underlying20
 a20:=Tryz.isAgg20
 z20:=Tryz.sizeOf20
 v20:=Tryz.zeroValue20
 t22:=Tryz.underlying32
 a22:=Tryz.isAgg32
 z22:=Tryz.sizeOf32
 v22:=Tryz.zeroValue32 }
def Tryz.sortRows_ren:Go.Shelf.Ren:=⟨fun|6=>112|15=>163|14=>162|28=>200|29=>201|20=>192|21=>193|22=>194|23=>195|24=>196|25=>197|26=>198|27=>199|46=>216|47=>217|48=>218|49=>219|50=>220|57=>224|n=>n,fun|22=>32|24=>41|25=>86|3=>3|39=>171|0=>0|53=>195|55=>197|4=>4|46=>188|45=>187|50=>192|5=>5|9=>9|66=>202|70=>116|76=>208|77=>131|n=>n,fun|n=>n⟩
theorem Tryz.sortRows:Go.Proofs.SlLaysF.n6 Tryz.prog Tryz.sortRows_ren:={
 mixed:=by kernel_rfl
 f6:=⟨Tryz.f112.name,by decide,Tryz.func112.trans (congrArg some (by kernel_rfl))⟩
 f14:=⟨Tryz.f162.name,by decide,Tryz.func162.trans (congrArg some (by kernel_rfl))⟩
 f15:=Tryz.func163.trans (congrArg some (by kernel_rfl))
 f20:=⟨Tryz.f192.name,by decide,Tryz.func192.trans (congrArg some (by kernel_rfl))⟩
 f21:=⟨Tryz.f193.name,by decide,Tryz.func193.trans (congrArg some (by kernel_rfl))⟩
 f22:=⟨Tryz.f194.name,by decide,Tryz.func194.trans (congrArg some (by kernel_rfl))⟩
 f23:=⟨Tryz.f195.name,by decide,Tryz.func195.trans (congrArg some (by kernel_rfl))⟩
 f24:=⟨Tryz.f196.name,by decide,Tryz.func196.trans (congrArg some (by kernel_rfl))⟩
 f25:=⟨Tryz.f197.name,by decide,Tryz.func197.trans (congrArg some (by kernel_rfl))⟩
 f26:=⟨Tryz.f198.name,by decide,Tryz.func198.trans (congrArg some (by kernel_rfl))⟩
 f27:=⟨Tryz.f199.name,by decide,Tryz.func199.trans (congrArg some (by kernel_rfl))⟩
 f28:=Tryz.func200.trans (congrArg some (by kernel_rfl))
 f29:=Tryz.func201.trans (congrArg some (by kernel_rfl))
 f46:=⟨Tryz.f216.name,by decide,Tryz.func216.trans (congrArg some (by kernel_rfl))⟩
 f47:=Tryz.func217.trans (congrArg some (by kernel_rfl))
 f48:=Tryz.func218.trans (congrArg some (by kernel_rfl))
 f49:=⟨Tryz.f219.name,by decide,Tryz.func219.trans (congrArg some (by kernel_rfl))⟩
 f50:=⟨Tryz.f220.name,by decide,Tryz.func220.trans (congrArg some (by kernel_rfl))⟩
 f57:=⟨Tryz.f224.name,by decide,Tryz.func224.trans (congrArg some (by kernel_rfl))⟩
 t0:=Tryz.underlying0
 a0:=Tryz.isAgg0
 z0:=Tryz.sizeOf0
 v0:=Tryz.zeroValue0
 t3:=Tryz.underlying3
 a3:=Tryz.isAgg3
 z3:=Tryz.sizeOf3
 v3:=Tryz.zeroValue3
 t4:=Tryz.underlying4
 a4:=Tryz.isAgg4
 z4:=Tryz.sizeOf4
 v4:=Tryz.zeroValue4
 t5:=Tryz.underlying5
 a5:=Tryz.isAgg5
 z5:=Tryz.sizeOf5
 v5:=Tryz.zeroValue5
 t9:=Tryz.underlying9
 a9:=Tryz.isAgg9
 z9:=Tryz.sizeOf9
 v9:=Tryz.zeroValue9
 t22:=Tryz.underlying32
 a22:=Tryz.isAgg32
 z22:=Tryz.sizeOf32
 v22:=Tryz.zeroValue32
 a24:=Tryz.isAgg41
 z24:=Tryz.sizeOf41
 t25:=Tryz.underlying86
 a25:=Tryz.isAgg86
 z25:=Tryz.sizeOf86
 v25:=Tryz.zeroValue86
 t39:=Tryz.underlying171
 a39:=Tryz.isAgg171
 z39:=Tryz.sizeOf171
 v39:=Tryz.zeroValue171
 t45:=Tryz.underlying187
 a45:=Tryz.isAgg187
 z45:=Tryz.sizeOf187
 v45:=Tryz.zeroValue187
 t46:=Tryz.underlying188
 a46:=Tryz.isAgg188
 z46:=Tryz.sizeOf188
 v46:=Tryz.zeroValue188
 t50:=Tryz.underlying192
 a50:=Tryz.isAgg192
 z50:=Tryz.sizeOf192
 v50:=Tryz.zeroValue192
 t53:=Tryz.underlying195
 a53:=Tryz.isAgg195
 z53:=Tryz.sizeOf195
 v53:=Tryz.zeroValue195
 t55:=Tryz.underlying197
 a55:=Tryz.isAgg197
 z55:=Tryz.sizeOf197
 v55:=Tryz.zeroValue197
 t66:=Tryz.underlying202
 a66:=Tryz.isAgg202
 z66:=Tryz.sizeOf202
 v66:=Tryz.zeroValue202
 t70:=Tryz.underlying116
 a70:=Tryz.isAgg116
 z70:=Tryz.sizeOf116
 v70:=Tryz.zeroValue116
 t76:=Tryz.underlying208
 a76:=Tryz.isAgg208
 z76:=Tryz.sizeOf208
 v76:=Tryz.zeroValue208
 t77:=Tryz.underlying131
 a77:=Tryz.isAgg131
 z77:=Tryz.sizeOf131
 v77:=Tryz.zeroValue131 }
end Go.Proofs
namespace Go.Av
def lookV (call:CallF) (g:FuncId) (args:List AV) (st:StL):Option (AV×StL) :=
 bnd (viewXs (stOf st) args) fun us=>match call g us []with
  | some (.i v,[])=>tst (mfR (.i v)) (some (.i v,st))
  | _=>none
theorem lookV_sound {C:Ctx} {call:CallF} (hcall:CallOk C call) {g:FuncId} {args:List AV} {stl stl':StL} {r:AV} (h:lookV call g args stl=some (r,stl')) (hy:g≠yldF:=by decide) :
 (∃ fn,C.P.funcs[g]?=some fn∧fn.name≠ "runtime.NumGoroutine"∧fn.body.isSome=true)∧∀ (w:World) (m:Mem) (φ:Pl) (vs:List Value),Inv w m φ (stOf stl)→RepL m φ args vs→(∀ id,φ id≠none→id<stl.length) →
  Calls C.P g vs.toArray w (CallPost w m φ r stl'):=by
 unfold lookV at h
 obtain⟨us,h1,h2⟩:=bnd_eq.1 h
 split at h2
 ·rename_i iv h3
  obtain⟨h5,h6⟩:=tst_eq.1 h2
  injection h6 with h6;injection h6 with h6 h7;subst h6;subst h7
  refine⟨hcall.name _ _ _ _ hy h3,fun w m φ vs hi hr h0=>?_⟩
  refine(hcall.calls g us [] _ _ hy h3 w (memOf w) (fun _=>none) vs (inv0 w) (viewXs_sound hi hr h1) (fun id h=>absurd rfl h)).mono ?_
  rintro e w' ⟨v,m',φ',rfl,j1,j2,j3,j4⟩
  have hsame:∀ f,f<w.heap.size→w'.heap[f]?=w.heap[f]?:=fun f hf=>j3.block f hf fun id b n e=>by cases e
  exact⟨v,m,φ,rfl,mfR_rep h5 (by cases j1 with|i j=>exact .i j),hi.later j3.size hsame,⟨j3.size,j3.os,j3.tape,j3.output,fun b hb' _=>hsame b hb', .refl _,fun _ _ _ _=>rfl, .refl _,fun _ _ _ _ e ho=>.inr (Free.not e ho)⟩,h0⟩
 ·cases h2
end Go.Av
namespace Go.Proofs.YtiailccmofdhfaaGreat.P
open Go Go.Av
set_option maxRecDepth 4000
set_option maxHeartbeats 2000000
def EX (a b:Ex) (i:Nat):AS :=
 { env:=[(0, .i (.iref [.int a.kind, .int a.col, .bool a.val.null, .int a.val.n, .isl (Ex.cellsL a.kids)])),(1, .i (.iref [.int b.kind, .int b.col, .bool b.val.null, .int b.val.n, .isl (Ex.cellsL b.kids)])),(4, .bool false),(5,jk i (.int (i-1))),(49, .bool false),(54, .int a.kids.length),(55, .int i),(56,jk i (.bool true)),(71,jk i (.bool false))],st:=[] }
def HX (p q:Pn) (n m:Nat) (i j k:AV) (x51 x65 x70 x83 x88 x102:AV):AS :=
 { env:=[(0, .i (.agg [.int p.kind, .int p.table, .isl (Ex.cellsL p.exprs), .isl (intsL p.cols), .isl (Pn.cellsL p.kids)])),(1, .i (.agg [.int q.kind, .int q.table, .isl (Ex.cellsL q.exprs), .isl (intsL q.cols), .isl (Pn.cellsL q.kids)])),(2, .own 0 0),(3, .own 1 0),(4, .bool false),(5,i),(6,j),(7,k),(46, .bool false),(51,x51),(65,x65),(70,x70),(83,x83),(88,x88),(102,x102)],
   st:=[some (.box [.int p.kind, .int p.table, .i (.isl (Ex.cellsL p.exprs)), .i (.isl (intsL p.cols)), .i (.isl (Pn.cellsL p.kids))]),some (.box [.int q.kind, .int q.table, .i (.isl (Ex.cellsL q.exprs)), .i (.isl (intsL q.cols)), .i (.isl (Pn.cellsL q.kids))])] }
def H1 (p q:Pn) (i:Nat):AS:=HX p q 0 0 (.int i) .junk .junk (jk i (.bool true)) (jk i (.bool false)) .junk .junk .junk .junk
def H2 (p q:Pn) (i:Nat):AS:=HX p q 0 0 (.int p.exprs.length) (.int i) .junk (.bool false) (jk p.exprs.length (.bool false)) (jk i (.bool true)) (jk i (.bool false)) .junk .junk
end Go.Proofs.YtiailccmofdhfaaGreat.P

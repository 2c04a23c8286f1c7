/- Part 5 of what the proof rests on: the executor and what it is worth, and the program's functions as it runs them. No condition. -/
import Derived.Test.YtjcjpbjpbbdnlaaGreatT4
set_option linter.unusedVariables false
set_option linter.unusedSimpArgs false
namespace Go.Proofs.YtjcjpbjpbbdnlaaGreat.P
open Go Go.Av
set_option maxRecDepth 4000
set_option maxHeartbeats 2000000
def IX (l m:List Int) (i:Nat):AS :=
 {env:=[(0, .i (.isl (intsL l))),(1, .i (.isl (intsL m))),(4, .bool false),(5, .int i),(10, .bool false),(14,jk i (.bool true)),(25,jk i (.bool false))],st:=[] }
theorem equalInts_eq {l m:List Int} (hl:l.length < 9223372036854775808):callA C0 18 [.i (.isl (intsL l)), .i (.isl (intsL m))] []=some (.bool (l == m),[]):=by
 rw [callA_eq rfl Tryz.func18 rfl rfl]
 by_cases hlm:l.length=m.length
 case neg =>
  have:(l == m)=false:=by simp; intro h; rw [h] at hlm; exact hlm rfl
  simp [show ¬ (l.length:Int)=m.length by omega,this]
 obtain ⟨j,h1,h2⟩:=ints_upto l m hlm
 simp [hlm]
 rw [loop_to (IX l m) j (by simp [IX])]
 ·rw [execA_loop]
  rcases h2 with ⟨hj,ha⟩ | ⟨a,b,k1,k2,k3,ha⟩
  ·simp [IX,hj,hlm]
   exact (beq_iff_eq.1 ha)
  ·have r1:=(List.getElem?_eq_some_iff.1 k1).1
   have s1:=intsL_nth k1
   have s2:=intsL_nth k2
   have ha:=beq_eq_false_iff_ne.1 ha
   have r3:=(List.getElem?_eq_some_iff.1 k2).1
   simp [IX,r1,r3,s1,s2,k3,ha]
 ·intro i hi
  obtain ⟨a,k1,k2⟩:=h1 i hi
  have r1:=(List.getElem?_eq_some_iff.1 k1).1
  have s1:=intsL_nth k1
  have s2:=intsL_nth k2
  have w2:IntKind.i64.wrap ((i:Int) + 1)=i + 1:=wrap64 (by omega) (by omega)
  have r3:=(List.getElem?_eq_some_iff.1 k2).1
  simp [IX,r1,r3,s1,s2,w2]
theorem equalLists_eq {l m:List Ex} (hl:l.length < 1000000000) (ht:∀ a∈l,a.thin):callA C0 58 [.i (.isl (Ex.cellsL l)), .i (.isl (Ex.cellsL m))] []=some (.bool (Ex.eqbL l m),[]) :=
 eqL_step hl fun a ha b=>equalExprs_eq a (ht a ha) b
def PX (p q:Pn) (i:Nat):AS :=
 {env:=[(0, .i (.agg [.int p.kind, .int p.table, .isl (Ex.cellsL p.exprs), .isl (intsL p.cols), .isl (Pn.cellsL p.kids)])),(1, .i (.agg [.int q.kind, .int q.table, .isl (Ex.cellsL q.exprs), .isl (intsL q.cols), .isl (Pn.cellsL q.kids)])),(2, .own 0 0),(3, .own 1 0),(4, .bool false),(5, .int i),(42, .bool false),(47,jk i (.bool true)),(61,jk i (.bool false))],
  st:=[some (.box [.int p.kind, .int p.table, .i (.isl (Ex.cellsL p.exprs)), .i (.isl (intsL p.cols)), .i (.isl (Pn.cellsL p.kids))]),some (.box [.int q.kind, .int q.table, .i (.isl (Ex.cellsL q.exprs)), .i (.isl (intsL q.cols)), .i (.isl (Pn.cellsL q.kids))])] }
theorem equalPlans_step {p q:Pn} (hp:p.thin) (ih:∀ a∈p.kids,∀ b,callA C0 16 [.i (.agg a.cells), .i (.agg b.cells)] []=some (.bool (a.eqb b),[])) :
  callA C0 16 [.i (.agg p.cells), .i (.agg q.cells)] []=some (.bool (p.eqb q),[]):=by
 have ht:=(Pn.thin_iff _).1 hp
 obtain ⟨t1,t2,t3,t4,-⟩:=ht
 have q1:=equalLists_eq (m:=q.exprs) t1 t2
 have q2:=equalInts_eq (l:=p.cols) (m:=q.cols) (by omega)
 rw [callA_eq rfl Tryz.func16 rfl rfl,Pn.cells_eq,Pn.cells_eq,Pn.eqb_def]
 by_cases h1:p.kind=q.kind
 case neg=>simp [h1]
 by_cases h2:p.table=q.table
 case neg=>simp [h1,h2]
 cases h3:Ex.eqbL p.exprs q.exprs with
 | false=>rw [h3] at q1; simp [h1,h2,q1]
 | true =>
 rw [h3] at q1
 by_cases h4:p.cols=q.cols
 case neg =>
  have hb:(p.cols == q.cols)=false:=by simpa using h4
  rw [hb] at q2; simp [h1,h2,q1,q2,h4]
 have hb:(p.cols == q.cols)=true:=by simpa using h4
 rw [hb,h4] at q2
 by_cases h5:p.kids.length=q.kids.length
 case neg=>simp [h1,h2,q1,q2,h4,show ¬ (p.kids.length:Int)=q.kids.length by omega,Pn.eqbL_len _ _ h5]
 obtain ⟨j,u1,u2⟩:=Pn.eqbL_upto _ _ h5
 simp [h1,h2,h4,q1,q2,h5]
 rw [loop_to (PX p q) j (by simp [PX,h1,h2,h4])]
 ·rw [execA_loop]
  rcases u2 with ⟨hj,ha⟩ | ⟨a,b,k1,k2,k3,k4,ha⟩
  ·simp [PX,hj,h5,ha]
  ·have r1:=(List.getElem?_eq_some_iff.1 k1).1
   have r3:=(List.getElem?_eq_some_iff.1 k2).1
   have s1:=Pn.cellsL_nth k1
   have s2:=Pn.cellsL_nth k2
   have hc:=ih a k3 b
   rw [Pn.cells_eq] at s1 s2
   rw [Pn.cells_eq,Pn.cells_eq] at hc
   simp [PX,r1,r3,s1,s2,ha,hc,k4]
 ·intro i hi
  obtain ⟨a,b,k1,k2,k3,k4⟩:=u1 i hi
  have r1:=(List.getElem?_eq_some_iff.1 k1).1
  have r3:=(List.getElem?_eq_some_iff.1 k2).1
  have s1:=Pn.cellsL_nth k1
  have s2:=Pn.cellsL_nth k2
  have hc:=ih a k3 b
  have w2:IntKind.i64.wrap ((i:Int) + 1)=i + 1:=wrap64 (by omega) (by omega)
  rw [Pn.cells_eq] at s1 s2
  rw [Pn.cells_eq,Pn.cells_eq] at hc
  simp [PX,r1,r3,s1,s2,hc,k4,w2]
theorem equalPlans_eq : ∀ (p : Pn), p.thin → ∀ q : Pn, callA C0 16 [.i (.agg p.cells), .i (.agg q.cells)] [] = some (.bool (p.eqb q), []) := by
  intro p
  induction p using Pn.ind with
  | h k t es cs ks ih =>
    intro ht q
    exact equalPlans_step ht fun a ha b => ih a ha (((Pn.thin_iff _).1 ht).2.2.2.2 a ha) b
end Go.Proofs.YtjcjpbjpbbdnlaaGreat.P

namespace Go.Proofs.YtjcjpbjpbbdnlaaGreat.P
open Go Go.Av
set_option maxRecDepth 4000
set_option maxHeartbeats 2000000
def SX (l m:List Int) (i:Nat):AS :=
 {env:=[(0, .i (.isl (intsL l))),(1, .i (.isl (intsL m))),(4, .bool false),(5,jk i (.int (i - 1))),(10, .bool false),(12, .int l.length),(13, .int i),(14,jk i (.bool true)),(24,jk i (.bool false))],st:=[] }
theorem sliceEqual_eq {l m:List Int} (hl:l.length < 9223372036854775808):callA C0 121 [.i (.isl (intsL l)), .i (.isl (intsL m))] []=some (.bool (l == m),[]):=by
 rw [callA_eq rfl Tryz.func121 rfl rfl]
 by_cases hlm:l.length=m.length
 case neg =>
  have:(l == m)=false:=by simp; intro h; rw [h] at hlm; exact hlm rfl
  simp [show ¬ (l.length:Int)=m.length by omega,this]
 obtain ⟨j,h1,h2⟩:=ints_upto l m hlm
 simp [hlm]
 rw [loop_to (SX l m) j (by simp [SX,hlm])]
 ·rw [execA_loop]
  rcases h2 with ⟨hj,ha⟩ | ⟨a,b,k1,k2,k3,ha⟩
  ·simp [SX,hj,hlm]
   exact (beq_iff_eq.1 ha)
  ·have r1:=(List.getElem?_eq_some_iff.1 k1).1
   have s1:=intsL_nth k1
   have s2:=intsL_nth k2
   have ha:=beq_eq_false_iff_ne.1 ha
   have r3:=(List.getElem?_eq_some_iff.1 k2).1
   simp [SX,r1,r3,s1,s2,k3,ha]
 ·intro i hi
  obtain ⟨a,k1,k2⟩:=h1 i hi
  have r1:=(List.getElem?_eq_some_iff.1 k1).1
  have s1:=intsL_nth k1
  have s2:=intsL_nth k2
  have w2:IntKind.i64.wrap ((i:Int) + 1)=i + 1:=wrap64 (by omega) (by omega)
  have r3:=(List.getElem?_eq_some_iff.1 k2).1
  simp [SX,r1,r3,s1,s2,w2]
def EX (a b:Ex) (i:Nat):AS :=
 {env:=[(0, .i (.iref [.int a.kind, .int a.col, .bool a.val.null, .int a.val.n, .isl (Ex.cellsL a.kids)])),(1, .i (.iref [.int b.kind, .int b.col, .bool b.val.null, .int b.val.n, .isl (Ex.cellsL b.kids)])),(4, .bool false),(5,jk i (.int (i - 1))),(49, .bool false),(54, .int a.kids.length),(55, .int i),(56,jk i (.bool true)),(71,jk i (.bool false))],st:=[] }
theorem equalE_step {a b:Ex} (hl:a.kids.length < 1000000000) (ih:∀ x∈a.kids,∀ y,callA C0 122 [.i (.iref x.cells), .i (.iref y.cells)] []=some (.bool (x.eqb y),[])) :
  callA C0 122 [.i (.iref a.cells), .i (.iref b.cells)] []=some (.bool (a.eqb b),[]):=by
 rw [callA_eq rfl Tryz.func122 rfl rfl,Ex.cells_eq,Ex.cells_eq,Ex.eqb_def]
 by_cases h1:a.kind=b.kind
 case neg=>simp [h1]
 by_cases h2:a.col=b.col
 case neg=>simp [h1,h2]
 cases h3:(a.val.null == b.val.null && a.val.n == b.val.n) with
 | false=>simp [h1,h2,h3]
 | true =>
 by_cases h5:a.kids.length=b.kids.length
 case neg=>simp [h1,h2,h3,show ¬ (a.kids.length:Int)=b.kids.length by omega,Ex.eqbL_len _ _ h5]
 obtain ⟨j,u1,u2⟩:=Ex.eqbL_upto _ _ h5
 simp [h1,h2,h3,h5]
 rw [loop_to (EX a b) j (by simp [EX,h1,h2,h5])]
 ·rw [execA_loop]
  rcases u2 with ⟨hj,ha⟩ | ⟨x,y,k1,k2,k3,k4,ha⟩
  ·simp [EX,hj,h5,ha]
  ·have r1:=(List.getElem?_eq_some_iff.1 k1).1
   have r3:=(List.getElem?_eq_some_iff.1 k2).1
   have s1:=Ex.cellsL_nth k1
   have s2:=Ex.cellsL_nth k2
   have hc:=ih x k3 y
   rw [Ex.cells_eq] at s1 s2
   rw [Ex.cells_eq,Ex.cells_eq] at hc
   simp [EX,r1,r3,s1,s2,ha,hc,k4]
 ·intro i hi
  obtain ⟨x,y,k1,k2,k3,k4⟩:=u1 i hi
  have r1:=(List.getElem?_eq_some_iff.1 k1).1
  have r3:=(List.getElem?_eq_some_iff.1 k2).1
  have s1:=Ex.cellsL_nth k1
  have s2:=Ex.cellsL_nth k2
  have hc:=ih x k3 y
  have w2:IntKind.i64.wrap ((i:Int) + 1)=i + 1:=wrap64 (by omega) (by omega)
  rw [Ex.cells_eq] at s1 s2
  rw [Ex.cells_eq,Ex.cells_eq] at hc
  simp [EX,r1,r3,s1,s2,hc,k4,w2]
theorem equalE_eq : ∀ (a : Ex), a.thin → ∀ b : Ex, callA C0 122 [.i (.iref a.cells), .i (.iref b.cells)] [] = some (.bool (a.eqb b), []) := by
  intro a
  induction a using Ex.ind with
  | h k c v ks ih =>
    intro ht b
    have ht' := (Ex.thin_iff _).1 ht
    exact equalE_step ht'.1 fun x hx y => ih x hx (ht'.2 x hx) y
def OX (p q:Pn) (i:Nat):AS :=
 {env:=[(0, .i (.iref [.int p.kind, .int p.table, .isl (Ex.cellsL p.exprs), .isl (intsL p.cols), .isl (Pn.cellsL p.kids)])),(1, .i (.iref [.int q.kind, .int q.table, .isl (Ex.cellsL q.exprs), .isl (intsL q.cols), .isl (Pn.cellsL q.kids)])),(4, .bool false),(5,jk i (.int (i - 1))),(6, .junk),(38, .bool false),(62, .bool false),(67, .int p.exprs.length),(68, .int i),(69,jk i (.bool true)),(84,jk i (.bool false)),(90, .junk),(91, .junk),(92, .junk),(107, .junk)],st:=[] }
def OY (p q:Pn) (i:Nat):AS :=
 {env:=[(0, .i (.iref [.int p.kind, .int p.table, .isl (Ex.cellsL p.exprs), .isl (intsL p.cols), .isl (Pn.cellsL p.kids)])),(1, .i (.iref [.int q.kind, .int q.table, .isl (Ex.cellsL q.exprs), .isl (intsL q.cols), .isl (Pn.cellsL q.kids)])),(4, .bool false),(5,jk p.exprs.length (.int (p.exprs.length - 1))),(6,jk i (.int (i - 1))),(38, .bool false),(62, .bool false),(67, .int p.exprs.length),(68, .int p.exprs.length),(69, .bool false),(84,jk p.exprs.length (.bool false)),(90, .int p.kids.length),(91, .int i),(92,jk i (.bool true)),(107,jk i (.bool false))],st:=[] }
theorem equalP_step {p q:Pn} (hp:p.thin) (ih:∀ a∈p.kids,∀ b,callA C0 81 [.i (.iref a.cells), .i (.iref b.cells)] []=some (.bool (a.eqb b),[])) :
  callA C0 81 [.i (.iref p.cells), .i (.iref q.cells)] []=some (.bool (p.eqb q),[]):=by
 have ht:=(Pn.thin_iff _).1 hp
 obtain ⟨t1,t2,t3,t4,-⟩:=ht
 have q2:=sliceEqual_eq (l:=p.cols) (m:=q.cols) (by omega)
 rw [callA_eq rfl Tryz.func81 rfl rfl,Pn.cells_eq,Pn.cells_eq,Pn.eqb_def]
 by_cases h1:p.kind=q.kind
 case neg=>simp [h1]
 by_cases h2:p.table=q.table
 case neg=>simp [h1,h2]
 by_cases h4:p.cols=q.cols
 case neg =>
  have hb:(p.cols == q.cols)=false:=by simpa using h4
  rw [hb] at q2; simp [h1,h2,q2,h4]
 have hb:(p.cols == q.cols)=true:=by simpa using h4
 rw [hb,h4] at q2
 by_cases h6:p.exprs.length=q.exprs.length
 case neg=>simp [h1,h2,q2,h4,show ¬ (p.exprs.length:Int)=q.exprs.length by omega,Ex.eqbL_len _ _ h6]
 by_cases h5:p.kids.length=q.kids.length
 case neg=>simp [h1,h2,q2,h4,h6,show ¬ (p.kids.length:Int)=q.kids.length by omega,Pn.eqbL_len _ _ h5]
 simp [h1,h2,h4,q2,h6,h5]
 obtain ⟨j,v1,v2⟩:=Ex.eqbL_upto _ _ h6
 rw [loop_to (OX p q) j (by simp [OX,h1,h2,h4,h6])]
 ·rw [execA_loop]
  rcases v2 with ⟨hj,ha⟩ | ⟨a,b,k1,k2,k3,k4,ha⟩
  ·simp [OX,hj,h6]
   rw [← h6]
   obtain ⟨j,u1,u2⟩:=Pn.eqbL_upto _ _ h5
   rw [loop_to (OY p q) j (by simp [OY,h6,h5])]
   ·rw [execA_loop]
    rcases u2 with ⟨hj,hb⟩ | ⟨a,b,k1,k2,k3,k4,hb⟩
    ·simp [OY,hj,h5,ha,hb]
    ·have r1:=(List.getElem?_eq_some_iff.1 k1).1
     have r3:=(List.getElem?_eq_some_iff.1 k2).1
     have s1:=Pn.cellsL_nth k1
     have s2:=Pn.cellsL_nth k2
     have hc:=ih a k3 b
     rw [Pn.cells_eq] at s1 s2
     rw [Pn.cells_eq,Pn.cells_eq] at hc
     simp [OY,r1,r3,s1,s2,ha,hb,hc,k4]
   ·intro i hi
    obtain ⟨a,b,k1,k2,k3,k4⟩:=u1 i hi
    have r1:=(List.getElem?_eq_some_iff.1 k1).1
    have r3:=(List.getElem?_eq_some_iff.1 k2).1
    have s1:=Pn.cellsL_nth k1
    have s2:=Pn.cellsL_nth k2
    have hc:=ih a k3 b
    have w2:IntKind.i64.wrap ((i:Int) + 1)=i + 1:=wrap64 (by omega) (by omega)
    rw [Pn.cells_eq] at s1 s2
    rw [Pn.cells_eq,Pn.cells_eq] at hc
    simp [OY,r1,r3,s1,s2,hc,k4,w2]
  ·have r1:=(List.getElem?_eq_some_iff.1 k1).1
   have r3:=(List.getElem?_eq_some_iff.1 k2).1
   have s1:=Ex.cellsL_nth k1
   have s2:=Ex.cellsL_nth k2
   have hc:=equalE_eq a (t2 a k3) b
   rw [Ex.cells_eq] at s1 s2
   rw [Ex.cells_eq,Ex.cells_eq] at hc
   simp [OX,r1,r3,s1,s2,ha,hc,k4]
 ·intro i hi
  obtain ⟨a,b,k1,k2,k3,k4⟩:=v1 i hi
  have r1:=(List.getElem?_eq_some_iff.1 k1).1
  have r3:=(List.getElem?_eq_some_iff.1 k2).1
  have s1:=Ex.cellsL_nth k1
  have s2:=Ex.cellsL_nth k2
  have hc:=equalE_eq a (t2 a k3) b
  have w2:IntKind.i64.wrap ((i:Int) + 1)=i + 1:=wrap64 (by omega) (by omega)
  rw [Ex.cells_eq] at s1 s2
  rw [Ex.cells_eq,Ex.cells_eq] at hc
  simp [OX,r1,r3,s1,s2,hc,k4,w2]
theorem equalP_eq : ∀ (p : Pn), p.thin → ∀ q : Pn, callA C0 81 [.i (.iref p.cells), .i (.iref q.cells)] [] = some (.bool (p.eqb q), []) := by
  intro p
  induction p using Pn.ind with
  | h k t es cs ks ih =>
    intro ht q
    exact equalP_step ht fun a ha b => ih a ha (((Pn.thin_iff _).1 ht).2.2.2.2 a ha) b
end Go.Proofs.YtjcjpbjpbbdnlaaGreat.P

namespace Go.Proofs.YtjcjpbjpbbdnlaaGreat.P
open Go Go.Av
set_option maxRecDepth 4000
set_option maxHeartbeats 2000000
def FX (a b:Ex) (i:Nat):AS :=
 {env:=[(0, .i (.agg [.int a.kind, .int a.col, .bool a.val.null, .int a.val.n, .isl (Ex.cellsL a.kids)])),(1, .i (.agg [.int b.kind, .int b.col, .bool b.val.null, .int b.val.n, .isl (Ex.cellsL b.kids)])),(2, .own 0 0),(3, .own 1 0),(4, .bool false),(5, .int i),(33, .bool false),(38,jk i (.bool true)),(52,jk i (.bool false))],
  st:=[some (.box [.int a.kind, .int a.col, .bool a.val.null, .int a.val.n, .i (.isl (Ex.cellsL a.kids))]),some (.box [.int b.kind, .int b.col, .bool b.val.null, .int b.val.n, .i (.isl (Ex.cellsL b.kids))])] }
theorem sequalE_step {a b:Ex} (hl:a.kids.length < 1000000000) (ih:∀ x∈a.kids,∀ y,callA C0 120 [.i (.agg x.cells), .i (.agg y.cells)] []=some (.bool (x.eqb y),[])) :
  callA C0 120 [.i (.agg a.cells), .i (.agg b.cells)] []=some (.bool (a.eqb b),[]):=by
 rw [callA_eq rfl Tryz.func120 rfl rfl,Ex.cells_eq,Ex.cells_eq,Ex.eqb_def]
 by_cases h1:a.kind=b.kind
 case neg=>simp [h1]
 by_cases h2:a.col=b.col
 case neg=>simp [h1,h2]
 cases h3:(a.val.null == b.val.null && a.val.n == b.val.n) with
 | false=>simp [h1,h2,h3]
 | true =>
 by_cases h5:a.kids.length=b.kids.length
 case neg=>simp [h1,h2,h3,show ¬ (a.kids.length:Int)=b.kids.length by omega,Ex.eqbL_len _ _ h5]
 obtain ⟨j,u1,u2⟩:=Ex.eqbL_upto _ _ h5
 simp [h1,h2,h3,h5]
 rw [loop_to (FX a b) j (by simp [FX,h1,h2])]
 ·rw [execA_loop]
  rcases u2 with ⟨hj,ha⟩ | ⟨x,y,k1,k2,k3,k4,ha⟩
  ·simp [FX,hj,h5,ha]
  ·have r1:=(List.getElem?_eq_some_iff.1 k1).1
   have r3:=(List.getElem?_eq_some_iff.1 k2).1
   have s1:=Ex.cellsL_nth k1
   have s2:=Ex.cellsL_nth k2
   have hc:=ih x k3 y
   rw [Ex.cells_eq] at s1 s2
   rw [Ex.cells_eq,Ex.cells_eq] at hc
   simp [FX,r1,r3,s1,s2,ha,hc,k4]
 ·intro i hi
  obtain ⟨x,y,k1,k2,k3,k4⟩:=u1 i hi
  have r1:=(List.getElem?_eq_some_iff.1 k1).1
  have r3:=(List.getElem?_eq_some_iff.1 k2).1
  have s1:=Ex.cellsL_nth k1
  have s2:=Ex.cellsL_nth k2
  have hc:=ih x k3 y
  have w2:IntKind.i64.wrap ((i:Int) + 1)=i + 1:=wrap64 (by omega) (by omega)
  rw [Ex.cells_eq] at s1 s2
  rw [Ex.cells_eq,Ex.cells_eq] at hc
  simp [FX,r1,r3,s1,s2,hc,k4,w2]
theorem sequalE_eq : ∀ (a : Ex), a.thin → ∀ b : Ex, callA C0 120 [.i (.agg a.cells), .i (.agg b.cells)] [] = some (.bool (a.eqb b), []) := by
  intro a
  induction a using Ex.ind with
  | h k c v ks ih =>
    intro ht b
    have ht' := (Ex.thin_iff _).1 ht
    exact sequalE_step ht'.1 fun x hx y => ih x hx (ht'.2 x hx) y
def HX (p q:Pn) (n m:Nat) (i j k:AV) (x51 x65 x70 x83 x88 x102:AV):AS :=
 {env:=[(0, .i (.agg [.int p.kind, .int p.table, .isl (Ex.cellsL p.exprs), .isl (intsL p.cols), .isl (Pn.cellsL p.kids)])),(1, .i (.agg [.int q.kind, .int q.table, .isl (Ex.cellsL q.exprs), .isl (intsL q.cols), .isl (Pn.cellsL q.kids)])),(2, .own 0 0),(3, .own 1 0),(4, .bool false),(5,i),(6,j),(7,k),(46, .bool false),(51,x51),(65,x65),(70,x70),(83,x83),(88,x88),(102,x102)],
  st:=[some (.box [.int p.kind, .int p.table, .i (.isl (Ex.cellsL p.exprs)), .i (.isl (intsL p.cols)), .i (.isl (Pn.cellsL p.kids))]),some (.box [.int q.kind, .int q.table, .i (.isl (Ex.cellsL q.exprs)), .i (.isl (intsL q.cols)), .i (.isl (Pn.cellsL q.kids))])] }
def H1 (p q:Pn) (i:Nat):AS:=HX p q 0 0 (.int i) .junk .junk (jk i (.bool true)) (jk i (.bool false)) .junk .junk .junk .junk
def H2 (p q:Pn) (i:Nat):AS:=HX p q 0 0 (.int p.exprs.length) (.int i) .junk (.bool false) (jk p.exprs.length (.bool false)) (jk i (.bool true)) (jk i (.bool false)) .junk .junk
def H3 (p q:Pn) (i:Nat):AS:=HX p q 0 0 (.int p.exprs.length) (.int p.cols.length) (.int i) (.bool false) (jk p.exprs.length (.bool false)) (.bool false) (jk p.cols.length (.bool false)) (jk i (.bool true)) (jk i (.bool false))
theorem sequalP_step {p q:Pn} (hp:p.thin) (ih:∀ a∈p.kids,∀ b,callA C0 80 [.i (.agg a.cells), .i (.agg b.cells)] []=some (.bool (a.eqb b),[])) :
  callA C0 80 [.i (.agg p.cells), .i (.agg q.cells)] []=some (.bool (p.eqb q),[]):=by
 have ht:=(Pn.thin_iff _).1 hp
 obtain ⟨t1,t2,t3,t4,-⟩:=ht
 rw [callA_eq rfl Tryz.func80 rfl rfl,Pn.cells_eq,Pn.cells_eq,Pn.eqb_def]
 by_cases h1:p.kind=q.kind
 case neg=>simp [h1]
 by_cases h2:p.table=q.table
 case neg=>simp [h1,h2]
 by_cases h6:p.exprs.length=q.exprs.length
 case neg=>simp [h1,h2,show ¬ (p.exprs.length:Int)=q.exprs.length by omega,Ex.eqbL_len _ _ h6]
 by_cases h7:p.cols.length=q.cols.length
 case neg =>
  have hb:p.cols≠q.cols:=fun h=>h7 (by rw [h])
  simp [h1,h2,h6,show ¬ (p.cols.length:Int)=q.cols.length by omega,hb]
 by_cases h5:p.kids.length=q.kids.length
 case neg=>simp [h1,h2,h6,h7,show ¬ (p.kids.length:Int)=q.kids.length by omega,Pn.eqbL_len _ _ h5]
 simp [h1,h2,h6,h7,h5]
 obtain ⟨j,v1,v2⟩:=Ex.eqbL_upto _ _ h6
 rw [loop_to (H1 p q) j (by simp [H1,HX,h1,h2])]
 ·rw [execA_loop]
  rcases v2 with ⟨hj,hae⟩ | ⟨a,b,k1,k2,k3,k4,ha⟩
  ·simp [H1,HX,hj]
   obtain ⟨j,g1,g2⟩:=ints_upto _ _ h7
   rw [loop_to (H2 p q) j (by simp [H2,HX])]
   ·rw [execA_loop]
    rcases g2 with ⟨hj,hac⟩ | ⟨a,b,k1,k2,k3,hac⟩
    ·simp [H2,HX,hj]
     obtain ⟨j,u1,u2⟩:=Pn.eqbL_upto _ _ h5
     have hac:=beq_iff_eq.1 hac
     rw [loop_to (H3 p q) j (by simp [H3,HX])]
     ·rw [execA_loop]
      rcases u2 with ⟨hj,hb⟩ | ⟨a,b,k1,k2,k3,k4,hb⟩
      ·simp [H3,HX,hj,hae,hac,hb]
      ·have r1:=(List.getElem?_eq_some_iff.1 k1).1
       have r3:=(List.getElem?_eq_some_iff.1 k2).1
       have s1:=Pn.cellsL_nth k1
       have s2:=Pn.cellsL_nth k2
       have hc:=ih a k3 b
       rw [Pn.cells_eq] at s1 s2
       rw [Pn.cells_eq,Pn.cells_eq] at hc
       simp [H3,HX,r1,r3,s1,s2,hb,hc,k4]
     ·intro i hi
      obtain ⟨a,b,k1,k2,k3,k4⟩:=u1 i hi
      have r1:=(List.getElem?_eq_some_iff.1 k1).1
      have r3:=(List.getElem?_eq_some_iff.1 k2).1
      have s1:=Pn.cellsL_nth k1
      have s2:=Pn.cellsL_nth k2
      have hc:=ih a k3 b
      have w2:IntKind.i64.wrap ((i:Int) + 1)=i + 1:=wrap64 (by omega) (by omega)
      rw [Pn.cells_eq] at s1 s2
      rw [Pn.cells_eq,Pn.cells_eq] at hc
      simp [H3,HX,r1,r3,s1,s2,hc,k4,w2]
    ·have r1:=(List.getElem?_eq_some_iff.1 k1).1
     have r3:=(List.getElem?_eq_some_iff.1 k2).1
     have s1:=intsL_nth k1
     have s2:=intsL_nth k2
     have hac:=beq_eq_false_iff_ne.1 hac
     simp [H2,HX,r1,r3,s1,s2,k3,hac]
   ·intro i hi
    obtain ⟨a,k1,k2⟩:=g1 i hi
    have r1:=(List.getElem?_eq_some_iff.1 k1).1
    have r3:=(List.getElem?_eq_some_iff.1 k2).1
    have s1:=intsL_nth k1
    have s2:=intsL_nth k2
    have w2:IntKind.i64.wrap ((i:Int) + 1)=i + 1:=wrap64 (by omega) (by omega)
    simp [H2,HX,r1,r3,s1,s2,w2]
  ·have r1:=(List.getElem?_eq_some_iff.1 k1).1
   have r3:=(List.getElem?_eq_some_iff.1 k2).1
   have s1:=Ex.cellsL_nth k1
   have s2:=Ex.cellsL_nth k2
   have hc:=sequalE_eq a (t2 a k3) b
   rw [Ex.cells_eq] at s1 s2
   rw [Ex.cells_eq,Ex.cells_eq] at hc
   simp [H1,HX,r1,r3,s1,s2,ha,hc,k4]
 ·intro i hi
  obtain ⟨a,b,k1,k2,k3,k4⟩:=v1 i hi
  have r1:=(List.getElem?_eq_some_iff.1 k1).1
  have r3:=(List.getElem?_eq_some_iff.1 k2).1
  have s1:=Ex.cellsL_nth k1
  have s2:=Ex.cellsL_nth k2
  have hc:=sequalE_eq a (t2 a k3) b
  have w2:IntKind.i64.wrap ((i:Int) + 1)=i + 1:=wrap64 (by omega) (by omega)
  rw [Ex.cells_eq] at s1 s2
  rw [Ex.cells_eq,Ex.cells_eq] at hc
  simp [H1,HX,r1,r3,s1,s2,hc,k4,w2]
theorem sequalP_eq : ∀ (p : Pn), p.thin → ∀ q : Pn, callA C0 80 [.i (.agg p.cells), .i (.agg q.cells)] [] = some (.bool (p.eqb q), []) := by
  intro p
  induction p using Pn.ind with
  | h k t es cs ks ih =>
    intro ht q
    exact sequalP_step ht fun a ha b => ih a ha (((Pn.thin_iff _).1 ht).2.2.2.2 a ha) b
end Go.Proofs.YtjcjpbjpbbdnlaaGreat.P

namespace Go.Proofs.YtjcjpbjpbbdnlaaGreat.P
open Go Go.Av
set_option maxRecDepth 4000
set_option maxHeartbeats 2000000
def KX (p:Pn) (i:Nat):AS :=
 {env:=[(0, .i (.agg [.int p.kind, .int p.table, .isl (Ex.cellsL p.exprs), .isl (intsL p.cols), .isl (Pn.cellsL p.kids)])),(1, .own 0 0),(2, .own 1 0),(3, .own 2 0),(4, .int i),(5, .junk),(19,jk i (.bool true)),(37, .junk)],
  st:=some (.box [.int p.kind, .int p.table, .i (.isl (Ex.cellsL p.exprs)), .i (.isl (intsL p.cols)), .i (.isl (Pn.cellsL p.kids))]) :: some (.box [.int 0, .int 0, .nils, .nils, .nils]) ::
   some (.box [.int p.kind, .int p.table,gro 3 5 i, .osl (if i=0 then 3 else 4) 1 0 p.cols.length, .nils]) :: (groB 5 (Ex.cellsL (p.exprs.take i)) i ++ [some (.arr 1 (intsL p.cols))]) }
def K2 (p:Pn) (i:Nat):AS :=
 {env:=[(0, .i (.agg [.int p.kind, .int p.table, .isl (Ex.cellsL p.exprs), .isl (intsL p.cols), .isl (Pn.cellsL p.kids)])),(1, .own 0 0),(2, .own 1 0),(3, .own 2 0),(4, .int p.exprs.length),(5, .int i),(19, .bool false),(37,jk i (.bool true))],
  st:=some (.box [.int p.kind, .int p.table, .i (.isl (Ex.cellsL p.exprs)), .i (.isl (intsL p.cols)), .i (.isl (Pn.cellsL p.kids))]) :: some (.box [.int 0, .int 0, .nils, .nils, .nils]) ::
   some (.box [.int p.kind, .int p.table,gro 3 5 p.exprs.length, .osl (if p.exprs.length=0 then 3 else 4) 1 0 p.cols.length,gro (if p.exprs.length=0 then 4 else 5) 5 i]) :: (groB 5 (Ex.cellsL p.exprs) p.exprs.length ++ some (.arr 1 (intsL p.cols)) :: groB 5 (Pn.cellsL (p.kids.take i)) i) }
def pcX (p:Pn):AV:=.agg [.int p.kind, .int p.table,gro 0 5 p.exprs.length, .osl (if p.exprs.length=0 then 0 else 1) 1 0 p.cols.length,gro (if p.exprs.length=0 then 1 else 2) 5 p.kids.length]
def pcS (p:Pn):StL:=groB 5 (Ex.cellsL p.exprs) p.exprs.length ++ some (.arr 1 (intsL p.cols)) :: groB 5 (Pn.cellsL p.kids) p.kids.length
theorem copyPlan_step {p : Pn} (hp : p.thin) (ih : ∀ a ∈ p.kids, callA C0 63 [.i (.agg a.cells)] [] = some (pcX a, pcS a)) :
    callA C0 63 [.i (.agg p.cells)] [] = some (pcX p, pcS p) := by
  have ht := (Pn.thin_iff _).1 hp
  obtain ⟨t1, t2, t3, t4, -⟩ := ht
  rw [callA_eq rfl Tryz.func63 rfl rfl, Pn.cells_eq]
  by_cases hc : p.cols = []
  · simp [hc, intsL]
    rw [loop_to (KX p) p.exprs.length (by simp [KX, hc, intsL])]
    · rw [execA_loop]
      cases hn : p.exprs.length with
      | zero =>
        have he : p.exprs = [] := List.length_eq_zero_iff.1 hn
        simp [KX, he, hc, intsL, Ex.cellsL]
        rw [loop_to (K2 p) p.kids.length (by simp [K2, he, hc, intsL, Ex.cellsL])]
        · rw [execA_loop]
          cases hm : p.kids.length with
          | zero =>
            have hk : p.kids = [] := List.length_eq_zero_iff.1 hm
            simp [K2, he, hc, intsL, hk, Ex.cellsL, Pn.cellsL, pcX, pcS]
          | succ m =>
            have hk : p.kids.take (m + 1) = p.kids := List.take_of_length_le (by omega)
            simp [K2, he, hc, intsL, hm, hk, Ex.cellsL, pcX, pcS]
        · intro i hi
          have h3 := List.getElem?_eq_getElem hi
          have hc' := ih _ (List.mem_of_getElem? h3)
          have r2 := Pn.cellsL_nth h3
          generalize p.kids[i] = a at h3 hc' r2
          have w2 : IntKind.i64.wrap ((i : Int) + 1) = i + 1 := wrap64 (by omega) (by omega)
          rw [Pn.cells_eq] at r2 hc'
          simp only [pcX, pcS] at hc'
          have hl1 : (i + 1) * 88 ≤ 140737488355328 := by omega
          have hl2 : min i p.kids.length = i := by omega
          by_cases a1 : a.exprs = []
          · by_cases a2 : a.kids = []
            · simp [a1, a2, Ex.cellsL, Pn.cellsL] at hc' r2
              by_cases h0 : i = 0
              · subst h0; simp [K2, he, hc, intsL, hi, r2, hc', wrap_1, take_snoc h3, Ex.cellsL, Pn.cellsL, Pn.cells_eq a, a1, a2]
              · simp [K2, he, hc, intsL, gro_pos h0, groB_pos h0, jk_pos h0, hi, r2, hc', w2, take_snoc h3, Ex.cellsL, Pn.cellsL, Pn.cellsL_snoc, hl1, hl2, List.take_take, Pn.cells_eq a, h0, a1, a2]
            · have a2' : a.kids.length ≠ 0 := fun h => a2 (List.length_eq_zero_iff.1 h)
              simp [a1, gro_pos a2', groB_pos a2', a2, Ex.cellsL, Pn.cellsL] at hc' r2
              by_cases h0 : i = 0
              · subst h0; simp [K2, he, hc, intsL, hi, r2, hc', wrap_1, take_snoc h3, Ex.cellsL, Pn.cellsL, Pn.cells_eq a, a1, gro_pos a2', groB_pos a2', a2]
              · simp [K2, he, hc, intsL, gro_pos h0, groB_pos h0, jk_pos h0, hi, r2, hc', w2, take_snoc h3, Ex.cellsL, Pn.cellsL, Pn.cellsL_snoc, hl1, hl2, List.take_take, Pn.cells_eq a, h0, a1, gro_pos a2', groB_pos a2', a2]
          · by_cases a2 : a.kids = []
            · have a1' : a.exprs.length ≠ 0 := fun h => a1 (List.length_eq_zero_iff.1 h)
              simp [gro_pos a1', groB_pos a1', a1, a2, Ex.cellsL, Pn.cellsL] at hc' r2
              by_cases h0 : i = 0
              · subst h0; simp [K2, he, hc, intsL, hi, r2, hc', wrap_1, take_snoc h3, Ex.cellsL, Pn.cellsL, Pn.cells_eq a, gro_pos a1', groB_pos a1', a1, a2]
              · simp [K2, he, hc, intsL, gro_pos h0, groB_pos h0, jk_pos h0, hi, r2, hc', w2, take_snoc h3, Ex.cellsL, Pn.cellsL, Pn.cellsL_snoc, hl1, hl2, List.take_take, Pn.cells_eq a, h0, gro_pos a1', groB_pos a1', a1, a2]
            · have a1' : a.exprs.length ≠ 0 := fun h => a1 (List.length_eq_zero_iff.1 h)
              have a2' : a.kids.length ≠ 0 := fun h => a2 (List.length_eq_zero_iff.1 h)
              simp [gro_pos a1', groB_pos a1', a1, gro_pos a2', groB_pos a2', a2, Ex.cellsL, Pn.cellsL] at hc' r2
              by_cases h0 : i = 0
              · subst h0; simp [K2, he, hc, intsL, hi, r2, hc', wrap_1, take_snoc h3, Ex.cellsL, Pn.cellsL, Pn.cells_eq a, gro_pos a1', groB_pos a1', a1, gro_pos a2', groB_pos a2', a2]
              · simp [K2, he, hc, intsL, gro_pos h0, groB_pos h0, jk_pos h0, hi, r2, hc', w2, take_snoc h3, Ex.cellsL, Pn.cellsL, Pn.cellsL_snoc, hl1, hl2, List.take_take, Pn.cells_eq a, h0, gro_pos a1', groB_pos a1', a1, gro_pos a2', groB_pos a2', a2]
      | succ n =>
        have he : p.exprs.take (n + 1) = p.exprs := List.take_of_length_le (by omega)
        simp [KX, hn, he, hc, intsL]
        rw [loop_to (K2 p) p.kids.length (by simp [K2, hn, hc, intsL, Ex.cellsL])]
        · rw [execA_loop]
          cases hm : p.kids.length with
          | zero =>
            have hk : p.kids = [] := List.length_eq_zero_iff.1 hm
            simp [K2, hn, hc, intsL, hk, Ex.cellsL, Pn.cellsL, pcX, pcS]
          | succ m =>
            have hk : p.kids.take (m + 1) = p.kids := List.take_of_length_le (by omega)
            simp [K2, hn, hc, intsL, hm, hk, Ex.cellsL, pcX, pcS]
        · intro i hi
          have h3 := List.getElem?_eq_getElem hi
          have hc' := ih _ (List.mem_of_getElem? h3)
          have r2 := Pn.cellsL_nth h3
          generalize p.kids[i] = a at h3 hc' r2
          have w2 : IntKind.i64.wrap ((i : Int) + 1) = i + 1 := wrap64 (by omega) (by omega)
          rw [Pn.cells_eq] at r2 hc'
          simp only [pcX, pcS] at hc'
          have hl1 : (i + 1) * 88 ≤ 140737488355328 := by omega
          have hl2 : min i p.kids.length = i := by omega
          by_cases a1 : a.exprs = []
          · by_cases a2 : a.kids = []
            · simp [a1, a2, Ex.cellsL, Pn.cellsL] at hc' r2
              by_cases h0 : i = 0
              · subst h0; simp [K2, hn, hc, intsL, hi, r2, hc', wrap_1, take_snoc h3, Ex.cellsL, Pn.cellsL, Pn.cells_eq a, a1, a2]
              · simp [K2, hn, hc, intsL, gro_pos h0, groB_pos h0, jk_pos h0, hi, r2, hc', w2, take_snoc h3, Ex.cellsL, Pn.cellsL, Pn.cellsL_snoc, hl1, hl2, List.take_take, Pn.cells_eq a, h0, a1, a2]
            · have a2' : a.kids.length ≠ 0 := fun h => a2 (List.length_eq_zero_iff.1 h)
              simp [a1, gro_pos a2', groB_pos a2', a2, Ex.cellsL, Pn.cellsL] at hc' r2
              by_cases h0 : i = 0
              · subst h0; simp [K2, hn, hc, intsL, hi, r2, hc', wrap_1, take_snoc h3, Ex.cellsL, Pn.cellsL, Pn.cells_eq a, a1, gro_pos a2', groB_pos a2', a2]
              · simp [K2, hn, hc, intsL, gro_pos h0, groB_pos h0, jk_pos h0, hi, r2, hc', w2, take_snoc h3, Ex.cellsL, Pn.cellsL, Pn.cellsL_snoc, hl1, hl2, List.take_take, Pn.cells_eq a, h0, a1, gro_pos a2', groB_pos a2', a2]
          · by_cases a2 : a.kids = []
            · have a1' : a.exprs.length ≠ 0 := fun h => a1 (List.length_eq_zero_iff.1 h)
              simp [gro_pos a1', groB_pos a1', a1, a2, Ex.cellsL, Pn.cellsL] at hc' r2
              by_cases h0 : i = 0
              · subst h0; simp [K2, hn, hc, intsL, hi, r2, hc', wrap_1, take_snoc h3, Ex.cellsL, Pn.cellsL, Pn.cells_eq a, gro_pos a1', groB_pos a1', a1, a2]
              · simp [K2, hn, hc, intsL, gro_pos h0, groB_pos h0, jk_pos h0, hi, r2, hc', w2, take_snoc h3, Ex.cellsL, Pn.cellsL, Pn.cellsL_snoc, hl1, hl2, List.take_take, Pn.cells_eq a, h0, gro_pos a1', groB_pos a1', a1, a2]
            · have a1' : a.exprs.length ≠ 0 := fun h => a1 (List.length_eq_zero_iff.1 h)
              have a2' : a.kids.length ≠ 0 := fun h => a2 (List.length_eq_zero_iff.1 h)
              simp [gro_pos a1', groB_pos a1', a1, gro_pos a2', groB_pos a2', a2, Ex.cellsL, Pn.cellsL] at hc' r2
              by_cases h0 : i = 0
              · subst h0; simp [K2, hn, hc, intsL, hi, r2, hc', wrap_1, take_snoc h3, Ex.cellsL, Pn.cellsL, Pn.cells_eq a, gro_pos a1', groB_pos a1', a1, gro_pos a2', groB_pos a2', a2]
              · simp [K2, hn, hc, intsL, gro_pos h0, groB_pos h0, jk_pos h0, hi, r2, hc', w2, take_snoc h3, Ex.cellsL, Pn.cellsL, Pn.cellsL_snoc, hl1, hl2, List.take_take, Pn.cells_eq a, h0, gro_pos a1', groB_pos a1', a1, gro_pos a2', groB_pos a2', a2]
    · intro i hi
      have h3 := List.getElem?_eq_getElem hi
      have hc' := copyExpr_eq _ (t2 _ (List.mem_of_getElem? h3))
      have r2 := Ex.cellsL_nth h3
      generalize p.exprs[i] = a at h3 hc' r2
      have w2 : IntKind.i64.wrap ((i : Int) + 1) = i + 1 := wrap64 (by omega) (by omega)
      rw [Ex.cells_eq] at r2 hc'
      by_cases h0 : i = 0
      · subst h0; simp [KX, hc, intsL, hi, r2, hc', wrap_1, take_snoc h3, Ex.cellsL, Ex.cells_eq a]
      · simp [KX, hc, intsL, gro_pos h0, groB_pos h0, jk_pos h0, hi, r2, hc', w2, take_snoc h3, Ex.cellsL_snoc, show min i p.exprs.length = i by omega, show (i + 1) * 56 ≤ 140737488355328 by omega, List.take_take, Ex.cells_eq a, h0]
  simp [hc, show p.cols.length * 8 ≤ 140737488355328 by omega]
  rw [loop_to (KX p) p.exprs.length (by simp [KX, hc])]
  · rw [execA_loop]
    cases hn : p.exprs.length with
    | zero =>
      have he : p.exprs = [] := List.length_eq_zero_iff.1 hn
      simp [KX, he, hc, Ex.cellsL]
      rw [loop_to (K2 p) p.kids.length (by simp [K2, he, hc, Ex.cellsL])]
      · rw [execA_loop]
        cases hm : p.kids.length with
        | zero =>
          have hk : p.kids = [] := List.length_eq_zero_iff.1 hm
          simp [K2, he, hc, hk, Ex.cellsL, Pn.cellsL, pcX, pcS]
        | succ m =>
          have hk : p.kids.take (m + 1) = p.kids := List.take_of_length_le (by omega)
          simp [K2, he, hc, hm, hk, Ex.cellsL, pcX, pcS]
      · intro i hi
        have h3 := List.getElem?_eq_getElem hi
        have hc' := ih _ (List.mem_of_getElem? h3)
        have r2 := Pn.cellsL_nth h3
        generalize p.kids[i] = a at h3 hc' r2
        have w2 : IntKind.i64.wrap ((i : Int) + 1) = i + 1 := wrap64 (by omega) (by omega)
        rw [Pn.cells_eq] at r2 hc'
        simp only [pcX, pcS] at hc'
        have hl1 : (i + 1) * 88 ≤ 140737488355328 := by omega
        have hl2 : min i p.kids.length = i := by omega
        by_cases a1 : a.exprs = []
        · by_cases a2 : a.kids = []
          · simp [a1, a2, Ex.cellsL, Pn.cellsL] at hc' r2
            by_cases h0 : i = 0
            · subst h0; simp [K2, he, hc, hi, r2, hc', wrap_1, take_snoc h3, Ex.cellsL, Pn.cellsL, Pn.cells_eq a, a1, a2]
            · simp [K2, he, hc, gro_pos h0, groB_pos h0, jk_pos h0, hi, r2, hc', w2, take_snoc h3, Ex.cellsL, Pn.cellsL, Pn.cellsL_snoc, hl1, hl2, List.take_take, Pn.cells_eq a, h0, a1, a2]
          · have a2' : a.kids.length ≠ 0 := fun h => a2 (List.length_eq_zero_iff.1 h)
            simp [a1, gro_pos a2', groB_pos a2', a2, Ex.cellsL, Pn.cellsL] at hc' r2
            by_cases h0 : i = 0
            · subst h0; simp [K2, he, hc, hi, r2, hc', wrap_1, take_snoc h3, Ex.cellsL, Pn.cellsL, Pn.cells_eq a, a1, gro_pos a2', groB_pos a2', a2]
            · simp [K2, he, hc, gro_pos h0, groB_pos h0, jk_pos h0, hi, r2, hc', w2, take_snoc h3, Ex.cellsL, Pn.cellsL, Pn.cellsL_snoc, hl1, hl2, List.take_take, Pn.cells_eq a, h0, a1, gro_pos a2', groB_pos a2', a2]
        · by_cases a2 : a.kids = []
          · have a1' : a.exprs.length ≠ 0 := fun h => a1 (List.length_eq_zero_iff.1 h)
            simp [gro_pos a1', groB_pos a1', a1, a2, Ex.cellsL, Pn.cellsL] at hc' r2
            by_cases h0 : i = 0
            · subst h0; simp [K2, he, hc, hi, r2, hc', wrap_1, take_snoc h3, Ex.cellsL, Pn.cellsL, Pn.cells_eq a, gro_pos a1', groB_pos a1', a1, a2]
            · simp [K2, he, hc, gro_pos h0, groB_pos h0, jk_pos h0, hi, r2, hc', w2, take_snoc h3, Ex.cellsL, Pn.cellsL, Pn.cellsL_snoc, hl1, hl2, List.take_take, Pn.cells_eq a, h0, gro_pos a1', groB_pos a1', a1, a2]
          · have a1' : a.exprs.length ≠ 0 := fun h => a1 (List.length_eq_zero_iff.1 h)
            have a2' : a.kids.length ≠ 0 := fun h => a2 (List.length_eq_zero_iff.1 h)
            simp [gro_pos a1', groB_pos a1', a1, gro_pos a2', groB_pos a2', a2, Ex.cellsL, Pn.cellsL] at hc' r2
            by_cases h0 : i = 0
            · subst h0; simp [K2, he, hc, hi, r2, hc', wrap_1, take_snoc h3, Ex.cellsL, Pn.cellsL, Pn.cells_eq a, gro_pos a1', groB_pos a1', a1, gro_pos a2', groB_pos a2', a2]
            · simp [K2, he, hc, gro_pos h0, groB_pos h0, jk_pos h0, hi, r2, hc', w2, take_snoc h3, Ex.cellsL, Pn.cellsL, Pn.cellsL_snoc, hl1, hl2, List.take_take, Pn.cells_eq a, h0, gro_pos a1', groB_pos a1', a1, gro_pos a2', groB_pos a2', a2]
    | succ n =>
      have he : p.exprs.take (n + 1) = p.exprs := List.take_of_length_le (by omega)
      simp [KX, hn, he, hc]
      rw [loop_to (K2 p) p.kids.length (by simp [K2, hn, hc, Ex.cellsL])]
      · rw [execA_loop]
        cases hm : p.kids.length with
        | zero =>
          have hk : p.kids = [] := List.length_eq_zero_iff.1 hm
          simp [K2, hn, hc, hk, Ex.cellsL, Pn.cellsL, pcX, pcS]
        | succ m =>
          have hk : p.kids.take (m + 1) = p.kids := List.take_of_length_le (by omega)
          simp [K2, hn, hc, hm, hk, Ex.cellsL, pcX, pcS]
      · intro i hi
        have h3 := List.getElem?_eq_getElem hi
        have hc' := ih _ (List.mem_of_getElem? h3)
        have r2 := Pn.cellsL_nth h3
        generalize p.kids[i] = a at h3 hc' r2
        have w2 : IntKind.i64.wrap ((i : Int) + 1) = i + 1 := wrap64 (by omega) (by omega)
        rw [Pn.cells_eq] at r2 hc'
        simp only [pcX, pcS] at hc'
        have hl1 : (i + 1) * 88 ≤ 140737488355328 := by omega
        have hl2 : min i p.kids.length = i := by omega
        by_cases a1 : a.exprs = []
        · by_cases a2 : a.kids = []
          · simp [a1, a2, Ex.cellsL, Pn.cellsL] at hc' r2
            by_cases h0 : i = 0
            · subst h0; simp [K2, hn, hc, hi, r2, hc', wrap_1, take_snoc h3, Ex.cellsL, Pn.cellsL, Pn.cells_eq a, a1, a2]
            · simp [K2, hn, hc, gro_pos h0, groB_pos h0, jk_pos h0, hi, r2, hc', w2, take_snoc h3, Ex.cellsL, Pn.cellsL, Pn.cellsL_snoc, hl1, hl2, List.take_take, Pn.cells_eq a, h0, a1, a2]
          · have a2' : a.kids.length ≠ 0 := fun h => a2 (List.length_eq_zero_iff.1 h)
            simp [a1, gro_pos a2', groB_pos a2', a2, Ex.cellsL, Pn.cellsL] at hc' r2
            by_cases h0 : i = 0
            · subst h0; simp [K2, hn, hc, hi, r2, hc', wrap_1, take_snoc h3, Ex.cellsL, Pn.cellsL, Pn.cells_eq a, a1, gro_pos a2', groB_pos a2', a2]
            · simp [K2, hn, hc, gro_pos h0, groB_pos h0, jk_pos h0, hi, r2, hc', w2, take_snoc h3, Ex.cellsL, Pn.cellsL, Pn.cellsL_snoc, hl1, hl2, List.take_take, Pn.cells_eq a, h0, a1, gro_pos a2', groB_pos a2', a2]
        · by_cases a2 : a.kids = []
          · have a1' : a.exprs.length ≠ 0 := fun h => a1 (List.length_eq_zero_iff.1 h)
            simp [gro_pos a1', groB_pos a1', a1, a2, Ex.cellsL, Pn.cellsL] at hc' r2
            by_cases h0 : i = 0
            · subst h0; simp [K2, hn, hc, hi, r2, hc', wrap_1, take_snoc h3, Ex.cellsL, Pn.cellsL, Pn.cells_eq a, gro_pos a1', groB_pos a1', a1, a2]
            · simp [K2, hn, hc, gro_pos h0, groB_pos h0, jk_pos h0, hi, r2, hc', w2, take_snoc h3, Ex.cellsL, Pn.cellsL, Pn.cellsL_snoc, hl1, hl2, List.take_take, Pn.cells_eq a, h0, gro_pos a1', groB_pos a1', a1, a2]
          · have a1' : a.exprs.length ≠ 0 := fun h => a1 (List.length_eq_zero_iff.1 h)
            have a2' : a.kids.length ≠ 0 := fun h => a2 (List.length_eq_zero_iff.1 h)
            simp [gro_pos a1', groB_pos a1', a1, gro_pos a2', groB_pos a2', a2, Ex.cellsL, Pn.cellsL] at hc' r2
            by_cases h0 : i = 0
            · subst h0; simp [K2, hn, hc, hi, r2, hc', wrap_1, take_snoc h3, Ex.cellsL, Pn.cellsL, Pn.cells_eq a, gro_pos a1', groB_pos a1', a1, gro_pos a2', groB_pos a2', a2]
            · simp [K2, hn, hc, gro_pos h0, groB_pos h0, jk_pos h0, hi, r2, hc', w2, take_snoc h3, Ex.cellsL, Pn.cellsL, Pn.cellsL_snoc, hl1, hl2, List.take_take, Pn.cells_eq a, h0, gro_pos a1', groB_pos a1', a1, gro_pos a2', groB_pos a2', a2]
  · intro i hi
    have h3 := List.getElem?_eq_getElem hi
    have hc' := copyExpr_eq _ (t2 _ (List.mem_of_getElem? h3))
    have r2 := Ex.cellsL_nth h3
    generalize p.exprs[i] = a at h3 hc' r2
    have w2 : IntKind.i64.wrap ((i : Int) + 1) = i + 1 := wrap64 (by omega) (by omega)
    rw [Ex.cells_eq] at r2 hc'
    by_cases h0 : i = 0
    · subst h0; simp [KX, hc, hi, r2, hc', wrap_1, take_snoc h3, Ex.cellsL, Ex.cells_eq a]
    · simp [KX, hc, gro_pos h0, groB_pos h0, jk_pos h0, hi, r2, hc', w2, take_snoc h3, Ex.cellsL_snoc, show min i p.exprs.length = i by omega, show (i + 1) * 56 ≤ 140737488355328 by omega, List.take_take, Ex.cells_eq a, h0]
theorem copyPlan_eq : ∀ (p : Pn), p.thin → callA C0 63 [.i (.agg p.cells)] [] = some (pcX p, pcS p) := by
  intro p
  induction p using Pn.ind with
  | h k t es cs ks ih =>
    intro ht
    exact copyPlan_step ht fun a ha => ih a ha (((Pn.thin_iff _).1 ht).2.2.2.2 a ha)
end Go.Proofs.YtjcjpbjpbbdnlaaGreat.P

namespace Go.Proofs.YtjcjpbjpbbdnlaaGreat.P
open Go Go.Av
set_option maxRecDepth 4000
set_option maxHeartbeats 2000000
def vB (x:Bool) (v:Pn):Option Blk:=if x=true then some (.fbox v.cells) else some (.box (impI v.cells))
theorem copiedIs_nil:callA C0 100 [.i (.isl [])] []=some (.nils,[]):=by
 rw [callA_eq rfl Tryz.func100 rfl rfl]
 simp
theorem copiedIs_eq {l:List Int} (h:l≠[]) (hl:l.length < 1000000000):callA C0 100 [.i (.isl (intsL l))] []=some (.osl 0 1 0 l.length,[some (.arr 1 (intsL l))]):=by
 rw [callA_eq rfl Tryz.func100 rfl rfl]
 have h1:8 * (l.length:Int)≤281474976710656:=by omega
 simp [h,h1]
 unfold over
 simp
end Go.Proofs.YtjcjpbjpbbdnlaaGreat.P

namespace Go.Av
def insN (l:List Int) (n:Int):List Int:=if l[l.findIdx fun x=>!decide (x < n)]?=some n then l else l.take (l.findIdx fun x=>!decide (x < n)) ++ n :: l.drop (l.findIdx fun x=>!decide (x < n))
mutual
def addC:List Int→Ex→List Int
 | l, .mk k c _ ks=>addCL (if k=1 then insN l c else l) ks
def addCL:List Int→List Ex→List Int
 | l,[]=>l
 | l,e :: es=>addCL (addC l e) es
end
theorem addC_eq (l:List Int) (e:Ex):addC l e=addCL (if e.kind=1 then insN l e.col else l) e.kids:=by
 cases e; simp only [addC,Ex.kind,Ex.col,Ex.kids]; congr
theorem addCL_snoc:∀ (ks:List Ex) (l:List Int) (e:Ex),addCL l (ks ++ [e])=addC (addCL l ks) e
 | [],l,e=>by simp [addCL]
 | a :: ks,l,e=>by simp [addCL,addCL_snoc ks]
theorem insN_mem {l:List Int} {n x:Int}:x∈insN l n ↔ x∈l∨x=n:=by
 unfold insN
 split
 ·rename_i h
  constructor
  ·exact .inl
  ·rintro (h1 | rfl)
   ·exact h1
   ·exact List.mem_of_getElem? h
 ·have e:l.take (l.findIdx fun x=>!decide (x < n)) ++ l.drop (l.findIdx fun x=>!decide (x < n))=l:=List.take_append_drop _ _
  generalize l.findIdx (fun x=>!decide (x < n))=k at *
  constructor
  ·intro h
   rcases List.mem_append.1 h with h | h
   ·exact .inl (List.mem_of_mem_take h)
   ·rcases List.mem_cons.1 h with h | h
    ·exact .inr h
    ·exact .inl (List.mem_of_mem_drop h)
  ·rintro (h | rfl)
   ·rw [← e] at h
    rcases List.mem_append.1 h with h | h
    ·exact List.mem_append.2 (.inl h)
    ·exact List.mem_append.2 (.inr (List.mem_cons.2 (.inr h)))
   ·exact List.mem_append.2 (.inr (List.mem_cons.2 (.inl rfl)))
def Asc (l:List Int):Prop:=l.Pairwise (· < ·)
theorem insN_asc {l:List Int} {n:Int} (h:Asc l):Asc (insN l n):=by
 unfold insN
 split
 ·exact h
 ·rename_i hne
  have e:l.take (l.findIdx fun x=>!decide (x < n)) ++ l.drop (l.findIdx fun x=>!decide (x < n))=l:=List.take_append_drop _ _
  have hlt:∀ x∈l.take (l.findIdx fun x=>!decide (x < n)),x < n:=by
   intro x hx
   obtain ⟨i,hi⟩:=List.mem_iff_getElem?.1 hx
   rw [List.getElem?_take] at hi
   split at hi
   ·rename_i hk
    have:=List.not_of_lt_findIdx hk
    rw [List.getElem?_eq_getElem (by have:=List.findIdx_le_length (xs:=l) (p:=fun x=>!decide (x < n)); omega)] at hi
    injection hi with hi
    rw [hi] at this
    simpa using this
   ·cases hi
  have hge:∀ x∈l.drop (l.findIdx fun x=>!decide (x < n)),n < x:=by
   intro x hx
   rcases Nat.lt_or_ge (l.findIdx fun x=>!decide (x < n)) l.length with hk | hk
   ·have h1:=List.findIdx_getElem (w:=hk)
    have hd:=List.drop_eq_getElem_cons hk
    have hn:l[l.findIdx fun x=>!decide (x < n)]≠n:=fun e=>hne (by rw [List.getElem?_eq_getElem hk,e])
    rw [hd] at hx
    have hs:Asc (l.drop (l.findIdx fun x=>!decide (x < n))):=List.Pairwise.sublist (List.drop_sublist _ _) h
    rw [hd] at hs
    have hs:=List.pairwise_cons.1 hs
    simp at h1
    rcases List.mem_cons.1 hx with rfl | hx
    ·omega
    ·have:=hs.1 x hx; omega
   ·rw [List.drop_eq_nil_of_le hk] at hx; cases hx
  generalize l.findIdx (fun x=>!decide (x < n))=k at *
  rw [← e] at h
  unfold Asc at *
  rw [List.pairwise_append] at h ⊢
  refine ⟨h.1,List.pairwise_cons.2 ⟨hge,h.2.1⟩,?_⟩
  intro a ha b hb
  rcases List.mem_cons.1 hb with rfl | hb
  ·exact hlt a ha
  ·exact h.2.2 a ha b hb
theorem addC_asc : ∀ (e : Ex) (l : List Int), Asc l → Asc (addC l e) := by
  intro e
  induction e using Ex.ind with
  | h k c v ks ih =>
    intro l hl
    rw [addC_eq]
    have : ∀ (xs : List Ex) (l : List Int), (∀ e ∈ xs, ∀ l, Asc l → Asc (addC l e)) → Asc l → Asc (addCL l xs) := by
      intro xs
      induction xs with
      | nil => intro l _ h; simpa [addCL] using h
      | cons a xs ihx => intro l h1 h2; exact ihx _ (fun e he => h1 e (by simp [he])) (h1 a (by simp) l h2)
    refine this _ _ (fun e he => ih e (by simpa [Ex.kids] using he)) ?_
    split
    · exact insN_asc hl
    · exact hl
theorem addC_all {m : Int} (P : Int → Bool) : ∀ (e : Ex) (l : List Int), e.wf m = true → ((∀ x ∈ addC l e, P x = true) ↔ (∀ x ∈ l, P x = true) ∧ e.allC P = true) := by
  intro e
  induction e using Ex.ind with
  | h k c v ks ih =>
    intro l hw
    rw [addC_eq, Ex.allC_eq]
    have : ∀ (xs : List Ex) (l : List Int), (∀ e ∈ xs, e ∈ ks) → ((∀ x ∈ addCL l xs, P x = true) ↔ (∀ x ∈ l, P x = true) ∧ xs.all (Ex.allC P) = true) := by
      intro xs
      induction xs with
      | nil => intro l _; simp [addCL]
      | cons a xs ihx =>
        intro l h1
        have ha := h1 a (by simp)
        simp only [addCL, List.all_cons, Bool.and_eq_true]
        rw [ihx _ fun e he => h1 e (by simp [he]), ih a ha l (Ex.wf_kids hw (by simpa [Ex.kids] using ha))]
        exact and_assoc
    simp only [Ex.kind, Ex.col, Ex.kids]
    rw [this ks _ fun e he => he]
    by_cases h1 : k = 1
    · have hk := (Ex.wf_col hw (by simpa [Ex.kind] using h1)).2.2
      simp only [Ex.kids] at hk
      subst hk
      simp only [h1, if_true, insN_mem]
      simp
      constructor
      · intro h; exact ⟨fun x hx => h x (.inl hx), h c (.inr rfl)⟩
      · rintro ⟨h2, h3⟩ x (hx | rfl)
        · exact h2 x hx
        · exact h3
    · simp only [h1, if_false]
theorem asc_range {l : List Int} (h : Asc l) (lo hi : Int) : (∀ x ∈ l, lo ≤ x ∧ x ≤ hi) ↔ (l = [] ∨ (∃ a, l[0]? = some a ∧ lo ≤ a) ∧ (∃ b, l[l.length - 1]? = some b ∧ b ≤ hi)) := by
  constructor
  · intro hall
    cases hl : l with
    | nil => exact .inl rfl
    | cons a r =>
      right
      rw [← hl]
      have h0 : l[0]? = some a := by rw [hl]; rfl
      have hk : l.length - 1 < l.length := by rw [hl]; simp
      exact ⟨⟨a, h0, (hall a (List.mem_of_getElem? h0)).1⟩, ⟨l[l.length - 1], List.getElem?_eq_getElem hk, (hall _ (List.getElem_mem hk)).2⟩⟩
  · rintro (rfl | ⟨⟨a, h0, h1⟩, b, h2, h3⟩) x hx
    · cases hx
    · obtain ⟨i, hi⟩ := List.mem_iff_getElem?.1 hx
      have hil := (List.getElem?_eq_some_iff.1 hi)
      have h0l := (List.getElem?_eq_some_iff.1 h0)
      have h2l := (List.getElem?_eq_some_iff.1 h2)
      obtain ⟨p1, rfl⟩ := hil
      obtain ⟨p2, rfl⟩ := h0l
      obtain ⟨p3, rfl⟩ := h2l
      have hp := List.pairwise_iff_getElem.1 h
      constructor
      · by_cases hz : i = 0
        · subst hz; exact h1
        · have := hp 0 i p2 p1 (by omega); omega
      · by_cases hz : i = l.length - 1
        · subst hz; exact h3
        · have := hp i (l.length - 1) p1 p3 (by omega); omega
end Go.Av

namespace Go.Proofs.YtjcjpbjpbbdnlaaGreat.P
open Go Go.Av
set_option maxRecDepth 4000
set_option maxHeartbeats 2000000
theorem mod_nat {a:Nat} (ha:a < 64):a % 2 ^ IntKind.i64.bits=a:=by
 show a % 18446744073709551616=a
 exact Nat.mod_eq_of_lt (by omega)
theorem mod_int {a:Nat} (ha:a < 64):(a:Int) % 2 ^ IntKind.i64.bits=a:=by
 show (a:Int) % 18446744073709551616=a
 omega
theorem or_small {a b:Nat} (ha:a < 64) (hb:b < 64):IntKind.i64.wrap ((a ||| b:Nat):Int)=((a ||| b:Nat):Int):=by
 have h3:a ||| b < 2 ^ 6:=Nat.or_lt_two_pow (by omega) (by omega)
 exact wrap64 (by omega) (by omega)
theorem wrap_nat {a:Nat} (ha:a < 64):IntKind.i64.wrap (a:Int)=a:=wrap64 (by omega) (by omega)
def KBX (e:Ex) (i:Nat):AS :=
 {env:=[(0, .i (.iref [.int e.kind, .int e.col, .bool e.val.null, .int e.val.n, .isl (Ex.cellsL e.kids)])),(2, .int 0),(3, .int (Ex.bitsL (e.kids.take i):Nat)),(4,jk i (.int (i - 1))),(9, .bool false),(19, .int e.kids.length),(20, .int i),(21,jk i (.bool true))],st:=[] }
theorem columns_eq : ∀ e : Ex, e.size < 1000000000 → e.allC (fun c => decide (0 ≤ c ∧ c < 6)) = true → callA C0 128 [.i (.iref e.cells)] [] = some (.int (e.bits : Nat), []) := by
  intro e
  induction e using Ex.ind with
  | h k c v ks ih =>
    intro hs ha
    generalize he : Ex.mk k c v ks = e at *
    have hk1 : k = e.kind := by rw [← he]; rfl
    have hks : ks = e.kids := by rw [← he]; rfl
    subst hks
    have hsz := Ex.size_eq e
    have hln := Ex.sizeL_length e.kids
    rw [callA_eq rfl Tryz.func128 rfl rfl, Ex.cells_eq]
    rw [Ex.allC_eq] at ha
    by_cases h1 : e.kind = 1
    · simp only [h1, if_true] at ha
      have ha := of_decide_eq_true ha
      rw [Ex.bits_col h1]
      have hc : e.col = 0 ∨ e.col = 1 ∨ e.col = 2 ∨ e.col = 3 ∨ e.col = 4 ∨ e.col = 5 := by omega
      rcases hc with hc | hc | hc | hc | hc | hc <;> (simp [h1, hc]; decide)
    · simp only [h1, if_false, List.all_eq_true] at ha
      rw [Ex.bits_not h1]
      simp [h1]
      rw [loop_to (KBX e) e.kids.length (by simp [KBX, Ex.bitsL, h1])]
      · rw [execA_loop]
        simp [KBX]
      · intro i hi
        have h3 := List.getElem?_eq_getElem hi
        have hm := List.mem_of_getElem? h3
        have r2 := Ex.cellsL_nth h3
        have htk := take_snoc h3
        generalize e.kids[i] = a at h3 hm r2 htk
        have hk := ih a hm (by have := Ex.sizeL_mem hm; omega) (ha a hm)
        have w2 : IntKind.i64.wrap ((i : Int) + 1) = i + 1 := wrap64 (by omega) (by omega)
        have hb : a.bits < 2 ^ 6 := Ex.bits_lt a (ha a hm)
        have hbl : Ex.bitsL (e.kids.take i) < 2 ^ 6 := Ex.bitsL_lt fun x hx => Ex.bits_lt x (ha x (List.mem_of_mem_take hx))
        have hor := or_small (a := Ex.bitsL (e.kids.take i)) (b := a.bits) (by omega) (by omega)
        rw [Ex.cells_eq a] at r2 hk
        by_cases h0 : i = 0
        · subst h0; simp [KBX, hi, r2, hk, wrap_1, htk, Ex.bitsL_snoc, Ex.bitsL, mod_int (show a.bits < 64 by omega), wrap_nat (show a.bits < 64 by omega)]
        · simp [KBX, jk_pos h0, hi, r2, hk, w2, htk, Ex.bitsL_snoc, hor, mod_nat (show a.bits < 64 by omega), mod_nat (show Ex.bitsL (e.kids.take i) < 64 by omega)]
def ANX (l:List Int) (n:Int) (i:Nat):AS :=
 {env:=[(0, .i (.isl (intsL l))),(1, .int n),(4, .nils),(5, .int i),(6, .junk),(18,jk i (.bool true)),(32, .junk)],st:=[] }
theorem addNumber_eq (l : List Int) (n : Int) (hl : l.length < 1000000) : callA C0 180 [.i (.isl (intsL l)), .int n] [] = some (.i (.isl (intsL (insN l n))), []) := by
  rw [callA_eq rfl Tryz.func180 rfl rfl]
  have hlt : ∀ i, i < l.findIdx (fun x => !decide (x < n)) → ∃ x, l[i]? = some x ∧ x < n := by
    intro i hi
    have hle := List.findIdx_le_length (xs := l) (p := fun x => !decide (x < n))
    have := List.not_of_lt_findIdx hi
    exact ⟨l[i]'(by omega), List.getElem?_eq_getElem (by omega), by simpa using this⟩
  have hat : ∀ x, l[l.findIdx fun x => !decide (x < n)]? = some x → ¬ x < n := by
    intro x hx
    obtain ⟨h1, rfl⟩ := List.getElem?_eq_some_iff.1 hx
    have := List.findIdx_getElem (w := h1)
    simpa using this
  have hle := List.findIdx_le_length (xs := l) (p := fun x => !decide (x < n))
  unfold insN
  generalize l.findIdx (fun x => !decide (x < n)) = j at *
  simp
  rw [loop_to (ANX l n) j (by simp [ANX])]
  · rw [execA_loop]
    cases hj : l[j]? with
    | none =>
      have hjl : j = l.length := by have := List.getElem?_eq_none_iff.1 hj; omega
      subst hjl
      have hb : ((l.length : Int) + 1) * 8 ≤ 140737488355328 := by omega
      have hb1 : (l.length + 1) * 8 ≤ 140737488355328 := by omega
      have hb2 : l.length * 8 ≤ 140737488355328 := by omega
      have ht : List.take (l.length + 1) (intsL l ++ [[IV.lit (Value.int IntKind.i64 n)]]) = intsL l ++ [[IV.lit (Value.int IntKind.i64 n)]] := List.take_of_length_le (by simp)
      simp [ANX, hb1, hb2, intsL_append, intsL, ht]
    | some x =>
      have hx := hat x hj
      have hjl := (List.getElem?_eq_some_iff.1 hj).1
      have r2 := intsL_nth hj
      by_cases hxn : x = n
      · subst hxn
        simp [ANX, hjl, r2]
      · have hb1 : (j + 1) * 8 ≤ 140737488355328 := by omega
        have hb2 : j * 8 ≤ 140737488355328 := by omega
        have hb3 : (j + 1 + (l.length - j)) * 8 ≤ 140737488355328 := by omega
        have t1 : (l.take j).length = j := by simp; omega
        have t2 : (intsL (l.take j) ++ [[IV.lit (Value.int IntKind.i64 n)]]).take (j + 1) = intsL (l.take j) ++ [[IV.lit (Value.int IntKind.i64 n)]] := List.take_of_length_le (by simp; omega)
        have t3 : (l.drop j).take (l.length - j) = l.drop j := List.take_of_length_le (by simp)
        have t4 : (intsL (l.take j) ++ [[IV.lit (Value.int IntKind.i64 n)]] ++ intsL (l.drop j)).take (j + 1 + (l.length - j)) = intsL (l.take j) ++ [[IV.lit (Value.int IntKind.i64 n)]] ++ intsL (l.drop j) := List.take_of_length_le (by simp; omega)
        have t5 : (l.take j).take j = l.take j := List.take_of_length_le (by omega)
        simp [ANX, hjl, hle, r2, hx, hxn, hb1, hb2, hb3, intsL_append, intsL]
        rw [t5, t2, t3, t4]
        simp
  · intro i hi
    obtain ⟨x, h3, hx⟩ := hlt i hi
    have r2 := intsL_nth h3
    have hil := (List.getElem?_eq_some_iff.1 h3).1
    have w2 : IntKind.i64.wrap ((i : Int) + 1) = i + 1 := wrap64 (by omega) (by omega)
    simp [ANX, hil, r2, hx, w2]
end Go.Proofs.YtjcjpbjpbbdnlaaGreat.P

namespace Go.Av
theorem Ex.wf_mono {w w' : Int} (h : w ≤ w') : ∀ e : Ex, e.wf w = true → e.wf w' = true := by
  intro e
  induction e using Ex.ind with
  | h k c v ks ih =>
    intro hw
    rw [Ex.wf_eq] at hw ⊢
    simp only [Bool.and_eq_true] at hw ⊢
    refine ⟨hw.1, ?_, ?_⟩
    · have h2 := hw.2.1
      unfold Ex.headOk at h2 ⊢
      split at h2
      · rename_i h1
        rw [if_pos h1]
        simp only [Bool.and_eq_true, decide_eq_true_eq] at h2 ⊢
        exact ⟨h2.1, by omega, h2.2.2⟩
      · rename_i h1
        rw [if_neg h1]
        exact h2
    · rw [List.all_eq_true] at *
      exact fun x hx => ih x hx (hw.2.2 x hx)
theorem Ex.ok_wf {w:Int} {e:Ex} (h:e.ok w=true):e.wf w=true∧1≤w∧w≤6:=by
 unfold Ex.ok okWidth at h
 rw [Ex.vB_eq] at h
 simp only [Bool.and_eq_true,decide_eq_true_eq] at h
 exact ⟨h.2.1,h.1.1,h.1.2⟩
theorem Ex.ok_wf6 {w:Int} {e:Ex} (h:e.ok w=true):e.wf 6=true:=Ex.wf_mono (Ex.ok_wf h).2.2 e (Ex.ok_wf h).1
theorem Ex.wf6_cols {e:Ex} (h:e.wf 6=true):e.allC (fun c=>decide (0≤c∧c < 6))=true:=Ex.wf_allC e h
theorem Ex.wf_cols0 {w:Int} {e:Ex} (h:e.wf w=true):e.allC (fun c=>decide (0≤c))=true:=Ex.allC_mono (fun c hc=>by simp only [decide_eq_true_eq] at hc ⊢; exact hc.1) e (Ex.wf_allC e h)
theorem Ex.allC_and {f g : Int → Bool} : ∀ e : Ex, e.allC f = true → e.allC g = true → e.allC (fun c => f c && g c) = true := by
  intro e
  induction e using Ex.ind with
  | h k c v ks ih =>
    intro h1 h2
    rw [Ex.allC_eq] at *
    by_cases hk : k = 1
    · subst hk; simp only [Ex.kind, Ex.col, if_true] at h1 h2 ⊢; simp [h1, h2]
    · simp only [Ex.kind, Ex.kids, hk, if_false, List.all_eq_true] at h1 h2 ⊢
      exact fun x hx => ih x hx (h1 x hx) (h2 x hx)
theorem cin_list {e:Ex} {m:Int} (h:e.wf m=true) (lo hi:Int):(addC [] e=[]∨(∃ a,(addC [] e)[0]?=some a∧lo≤a)∧(∃ b,(addC [] e)[(addC [] e).length - 1]?=some b∧b≤hi - 1)) ↔ e.cin lo hi=true:=by
 rw [← asc_range (addC_asc e [] List.Pairwise.nil)]
 have:=addC_all (fun x=>decide (lo≤x∧x < hi)) e [] h
 unfold Ex.cin
 constructor
 ·intro h1
  exact (this.1 fun x hx=>by have:=h1 x hx; simp only [decide_eq_true_eq]; omega).2
 ·intro h1 x hx
  have:=this.2 ⟨by simp,h1⟩ x hx
  simp only [decide_eq_true_eq] at this
  omega
theorem addC_size : ∀ (e : Ex) (l : List Int), (addC l e).length ≤ l.length + e.size := by
  intro e
  induction e using Ex.ind with
  | h k c v ks ih =>
    intro l
    have hm : addC l (.mk k c v ks) = addCL (if k = 1 then insN l c else l) ks := by simp [addC]
    have hz : (Ex.mk k c v ks).size = 1 + Ex.sizeL ks := by simp [Ex.size]
    rw [hm, hz]
    have : ∀ (xs : List Ex) (l : List Int), (∀ x ∈ xs, x ∈ ks) → (addCL l xs).length ≤ l.length + Ex.sizeL xs := by
      intro xs
      induction xs with
      | nil => intro l _; simp [addCL]
      | cons a xs ihx =>
        intro l h
        have h1 := ihx (addC l a) fun x hx => h x (by simp [hx])
        have h2 := ih a (h a (by simp)) l
        simp only [addCL, Ex.sizeL]
        omega
    have h2 : (insN l c).length ≤ l.length + 1 := by
      unfold insN
      split
      · omega
      · simp only [List.length_append, List.length_take, List.length_cons, List.length_drop]; omega
    by_cases h1 : k = 1
    · rw [if_pos h1]
      have := this ks (insN l c) fun x hx => hx
      omega
    · rw [if_neg h1]
      have := this ks l fun x hx => hx
      omega
def okS (a:Int):Prop:=1≤a∧a≤7
theorem cmbS_tab:∀ a b:Fin 8,a.val≠0→b.val≠0→(1≤cmbS 8 a.val b.val∧cmbS 8 a.val b.val≤7)∧(1≤cmbS 9 a.val b.val∧cmbS 9 a.val b.val≤7)∧(1≤cmbS 3 a.val b.val∧cmbS 3 a.val b.val≤7)∧(1≤cmbS 6 a.val b.val∧cmbS 6 a.val b.val≤7):=by decide
theorem cmbS_ok {k a b:Int} (ha:okS a) (hb:okS b):okS (cmbS k a b):=by
 obtain ⟨a,rfl⟩:=Int.eq_ofNat_of_zero_le (show 0≤a by have:=ha.1; omega)
 obtain ⟨b,rfl⟩:=Int.eq_ofNat_of_zero_le (show 0≤b by have:=hb.1; omega)
 have h:=cmbS_tab ⟨a,by have:=ha.2; omega⟩ ⟨b,by have:=hb.2; omega⟩ (by have:=ha.1; simp; omega) (by have:=hb.1; simp; omega)
 unfold okS
 by_cases h8:k=8
 ·subst h8; exact h.1
 ·by_cases h9:k=9
  ·subst h9; exact h.2.1
  ·by_cases h6:k < 6
   ·have e:cmbS k a b=cmbS 3 a b:=by simp [cmbS,h8,h9,h6]
    rw [e]; exact h.2.2.1
   ·have e:cmbS k a b=cmbS 6 a b:=by simp [cmbS,h8,h9,h6]
    rw [e]; exact h.2.2.2
theorem notS_tab:∀ a:Fin 8,a.val≠0→(1≤notS a.val∧notS a.val≤7)∧(1≤nulS a.val∧nulS a.val≤7):=by decide
theorem stV_ok (v:Val):okS (stV v):=by
 unfold stV okS
 split
 ·omega
 ·split<;>omega
theorem outS_eq (st:List Int) (e:Ex):outS st e=if e.kind=1 then (st[e.col.toNat]?).getD 0 else if e.kind=2 then stV e.val else if e.kind=10 then notS ((e.kids[0]?.map (outS st)).getD 0) else if e.kind=11 then nulS ((e.kids[0]?.map (outS st)).getD 0) else cmbS e.kind ((e.kids[0]?.map (outS st)).getD 0) ((e.kids[1]?.map (outS st)).getD 0):=by
 cases e
 simp only [outS,outSL_map,Ex.kind,Ex.col,Ex.val,Ex.kids,List.getElem?_map]
 congr
end Go.Av

namespace Go.Proofs.YtjcjpbjpbbdnlaaGreat.P
open Go Go.Av
set_option maxRecDepth 4000
set_option maxHeartbeats 4000000
@[simp] theorem wr0:IntKind.i64.wrap 0=0:=by decide
@[simp] theorem wr1:IntKind.i64.wrap 1=1:=by decide
@[simp] theorem wr2:IntKind.i64.wrap 2=2:=by decide
@[simp] theorem wr3:IntKind.i64.wrap 3=3:=by decide
@[simp] theorem wr4:IntKind.i64.wrap 4=4:=by decide
@[simp] theorem wr7:IntKind.i64.wrap 7=7:=by decide
@[simp] theorem p64n:(2:Nat) ^ IntKind.i64.bits=18446744073709551616:=rfl
@[simp] theorem p64i:(2:Int) ^ IntKind.i64.bits=18446744073709551616:=rfl
def ACX (e:Ex) (l:List Int) (i:Nat):AS :=
 {env:=[(0, .i (.isl (intsL (addCL l (e.kids.take i))))),(1, .i (.agg [.int e.kind, .int e.col, .bool e.val.null, .int e.val.n, .isl (Ex.cellsL e.kids)])),(3, .own 0 0),(4, .nils),(5, .int i),(8, .bool (e.kind == 1)),(17,jk i (.bool true))],
  st:=[some (.box [.int e.kind, .int e.col, .bool e.val.null, .int e.val.n, .i (.isl (Ex.cellsL e.kids))])] }
theorem addColumns_eq : ∀ e : Ex, ∀ l : List Int, l.length + e.size < 1000000 → callA C0 173 [.i (.isl (intsL l)), .i (.agg e.cells)] [] = some (.i (.isl (intsL (addC l e))), []) := by
  intro e
  induction e using Ex.ind with
  | h k c v ks ih =>
    intro l hs
    generalize he : Ex.mk k c v ks = e at *
    have hks : ks = e.kids := by rw [← he]; rfl
    subst hks
    have hsz := Ex.size_eq e
    have hln := Ex.sizeL_length e.kids
    have hrd : ∀ l' : List Int, l'.length ≤ l.length + 1 → ∀ i, i < e.kids.length → ∃ a, e.kids[i]? = some a ∧ e.kids.take (i + 1) = e.kids.take i ++ [a] ∧ nthE (Ex.cellsL e.kids) i = some a.cells ∧ callA C0 173 [.i (.isl (intsL (addCL l' (e.kids.take i)))), .i (.agg a.cells)] [] = some (.i (.isl (intsL (addC (addCL l' (e.kids.take i)) a))), []) := by
      intro l' hl' i hi
      have h3 := List.getElem?_eq_getElem hi
      have hm := List.mem_of_getElem? h3
      have htk := take_snoc h3
      refine ⟨e.kids[i], h3, htk, Ex.cellsL_nth h3, ih _ hm _ ?_⟩
      have hadd : ∀ (xs : List Ex) (l : List Int), (addCL l xs).length ≤ l.length + Ex.sizeL xs := by
        intro xs
        induction xs with
        | nil => intro l; simp [addCL]
        | cons a xs ihx => intro l; have h1 := ihx (addC l a); have h2 := addC_size a l; simp only [addCL, Ex.sizeL]; omega
      have h1 := hadd (e.kids.take i) l'
      have hsum : ∀ (xs ys : List Ex), Ex.sizeL (xs ++ ys) = Ex.sizeL xs + Ex.sizeL ys := by
        intro xs
        induction xs with
        | nil => intro ys; simp [Ex.sizeL]
        | cons a xs ihx => intro ys; simp [Ex.sizeL, ihx, Nat.add_assoc]
      have h2 := hsum (e.kids.take (i + 1)) (e.kids.drop (i + 1))
      rw [List.take_append_drop, htk, hsum] at h2
      simp only [Ex.sizeL] at h2
      omega
    rw [callA_eq rfl Tryz.func173 rfl rfl, Ex.cells_eq, addC_eq]
    by_cases h1 : e.kind = 1
    · have hn := addNumber_eq l e.col (by omega)
      have hil : (insN l e.col).length ≤ l.length + 1 := by
        unfold insN
        split
        · omega
        · simp only [List.length_append, List.length_take, List.length_cons, List.length_drop]; omega
      simp [h1, hn]
      rw [loop_to (ACX e (insN l e.col)) e.kids.length (by simp [ACX, addCL, h1])]
      · rw [execA_loop]
        simp [ACX]
      · intro i hi
        obtain ⟨a, h3, htk, r2, hk⟩ := hrd _ hil i hi
        have w2 : IntKind.i64.wrap ((i : Int) + 1) = i + 1 := wrap64 (by omega) (by omega)
        rw [Ex.cells_eq a] at r2 hk
        simp [ACX, hi, r2, hk, w2, htk, addCL_snoc]
    · simp [h1]
      rw [loop_to (ACX e l) e.kids.length (by simp [ACX, addCL, h1])]
      · rw [execA_loop]
        simp [ACX]
      · intro i hi
        obtain ⟨a, h3, htk, r2, hk⟩ := hrd l (by omega) i hi
        have w2 : IntKind.i64.wrap ((i : Int) + 1) = i + 1 := wrap64 (by omega) (by omega)
        rw [Ex.cells_eq a] at r2 hk
        simp [ACX, hi, r2, hk, w2, htk, addCL_snoc]
theorem within_eq (e : Ex) {m : Int} (hw : e.wf m = true) (hs : e.size < 100000) (lo hi : Int) (hh : -100 ≤ hi ∧ hi ≤ 100) : callA C0 162 [.i (.agg e.cells), .int lo, .int (hi - 1)] [] = some (.bool (e.cin lo hi), []) := by
  have ha := addColumns_eq e [] (by simp; omega)
  have hc := cin_list hw lo hi
  have hsz := addC_size e []
  rw [callA_eq rfl Tryz.func162 rfl rfl]
  generalize addC [] e = l at *
  rw [Ex.cells_eq] at *
  simp only [intsL] at ha
  cases hl : l with
  | nil =>
    have : e.cin lo hi = true := hc.1 (.inl hl)
    rw [hl] at ha
    simp [ha, this, intsL]
  | cons a r =>
    have h0 : l[0]? = some a := by rw [hl]; rfl
    have hlen : 0 < l.length := by rw [hl]; simp
    have hk : l.length - 1 < l.length := by omega
    have h2 := List.getElem?_eq_getElem hk
    generalize l[l.length - 1] = b at h2
    have r0 := intsL_nth h0
    have r2 := intsL_nth h2
    have w1 : IntKind.i64.wrap ((l.length : Int) - 1) = ((l.length - 1 : Nat) : Int) := by rw [wrap64 (by simp at hsz; omega) (by simp at hsz; omega)]; omega
    have hne : ¬ l = [] := by rw [hl]; simp
    have hiff : e.cin lo hi = (decide (lo ≤ a) && decide (b ≤ hi - 1)) := by
      rw [Bool.eq_iff_iff, ← hc]
      simp only [Bool.and_eq_true, decide_eq_true_eq]
      constructor
      · rintro (h | ⟨⟨x, hx, h3⟩, y, hy, h4⟩)
        · exact absurd h hne
        · rw [h0] at hx; rw [h2] at hy; injection hx with hx; injection hy with hy; subst hx; subst hy; exact ⟨h3, h4⟩
      · rintro ⟨h3, h4⟩; exact .inr ⟨⟨a, h0, h3⟩, b, h2, h4⟩
    rw [hiff]
    by_cases q : lo ≤ a
    · have q2 : a ≥ lo := q
      simp [ha, hne, r0, r2, w1, hlen, hk, q]
    · simp [ha, hne, r0, hlen, q]
theorem istate_eq (b:Bool) (n:Int):callA C0 170 [.i (.agg [.bool b, .int n])] []=some (.int (stV ⟨b,n⟩),[]):=by
 rw [callA_eq rfl Tryz.func170 rfl rfl]
 cases b
 ·by_cases h:n=0<;>simp [stV,h]
 ·simp [stV]
theorem sstate_eq (b:Bool) (n:Int):callA C0 181 [.i (.agg [.bool b, .int n])] []=some (.int (stV ⟨b,n⟩),[]):=by
 rw [callA_eq rfl Tryz.func181 rfl rfl]
 cases b
 ·by_cases h:n=0<;>simp [stV,h]
 ·simp [stV]
theorem valueOf_eq (x:Int):callA C0 190 [.int x] []=some (.i (.agg [.bool (decide (x=4)), .int (if x=2 then 1 else 0)]),[]):=by
 rw [callA_eq rfl Tryz.func190 rfl rfl]
 by_cases h:x=4
 ·subst h; simp
 ·by_cases h2:x=2
  ·subst h2; simp
  ·simp [h,h2]
theorem eight {a:Int} (h:0≤a∧a≤7):a=0∨a=1∨a=2∨a=3∨a=4∨a=5∨a=6∨a=7:=by omega
theorem examples_eq {a:Int} (h:0≤a∧a≤7):callA C0 178 [.int a] []=some (.i (.isl (valsL (exS a))),[]):=by
 rw [callA_eq rfl Tryz.func178 rfl rfl]
 have s0:=istate_eq false 0
 have s1:=istate_eq false 1
 have s2:=istate_eq true 0
 simp only [stV,Bool.false_eq_true,if_false,if_true,Int.reduceEq] at s0 s1 s2
 rcases eight h with rfl | rfl | rfl | rfl | rfl | rfl | rfl | rfl
 all_goals
  simp
  rw [execA_loop]
  simp [s0,s1,s2]
  rw [execA_loop]
  simp [s0,s1,s2]
  rw [execA_loop]
  simp [s0,s1,s2]
  rw [execA_loop]
  simp [exS,hasS,valsL]
end Go.Proofs.YtjcjpbjpbbdnlaaGreat.P

namespace Go.Proofs.YtjcjpbjpbbdnlaaGreat.P
open Go Go.Av
set_option maxRecDepth 4000
set_option maxHeartbeats 4000000
theorem filt_cells (e:Ex) (k:Pn):(filt e k).cells=[.int 2, .int 0, .isl [e.cells], .isl [], .isl [k.cells]]:=by simp [filt,Pn.cells,Ex.cellsL,intsL,Pn.cellsL]
theorem proj_cells (es:List Ex) (k:Pn):(proj es k).cells=[.int 3, .int 0, .isl (Ex.cellsL es), .isl [], .isl [k.cells]]:=by simp [proj,Pn.cells,intsL,Pn.cellsL]
theorem pair_cells (kd:Int) (e:Ex) (a b:Pn):(pairP kd e a b).cells=[.int kd, .int 0, .isl [e.cells], .isl [], .isl [a.cells,b.cells]]:=by simp [pairP,Pn.cells,Ex.cellsL,intsL,Pn.cellsL]
theorem union_cells (a b:Pn):(unionP a b).cells=[.int 6, .int 0, .isl [], .isl [], .isl [a.cells,b.cells]]:=by simp [unionP,Pn.cells,Ex.cellsL,intsL,Pn.cellsL]
theorem andE_cells (a b:Ex):(andE a b).cells=[.int 8, .int 0, .bool false, .int 0, .isl [a.cells,b.cells]]:=by simp [andE,Ex.cells,Ex.cellsL,Val.zero]
theorem colX_cells (c:Int):(colX c).cells=[.int 1, .int c, .bool false, .int 0, .isl []]:=by simp [colX,Ex.cells,Ex.cellsL,Val.zero]
theorem zero_cells:Pn.zero.cells=[.int 0, .int 0, .isl [], .isl [], .isl []]:=by simp [Pn.zero,Pn.cells,Ex.cellsL,intsL,Pn.cellsL]
theorem filterPlan_eq (e:Ex) (k:Pn):callA C0 126 [.i (.agg e.cells), .i (.agg k.cells)] []=some (.i (.agg (filt e k).cells),[]):=by
 rw [callA_eq rfl Tryz.func126 rfl rfl,filt_cells,Ex.cells_eq,Pn.cells_eq]
 simp
theorem pairPlan_eq (kd:Int) (e:Ex) (a b:Pn):callA C0 129 [.int kd, .i (.agg e.cells), .i (.agg a.cells), .i (.agg b.cells)] []=some (.i (.agg (pairP kd e a b).cells),[]):=by
 rw [callA_eq rfl Tryz.func129 rfl rfl,pair_cells,Ex.cells_eq,Pn.cells_eq a,Pn.cells_eq b]
 simp
theorem both_eq (a b:Ex):callA C0 127 [.i (.agg a.cells), .i (.agg b.cells)] []=some (.i (.agg (andE a b).cells),[]):=by
 rw [callA_eq rfl Tryz.func127 rfl rfl,andE_cells,Ex.cells_eq a,Ex.cells_eq b]
 simp
theorem icolumn_eq (c:Int):callA C0 133 [.int c] []=some (.i (.agg (colX c).cells),[]):=by
 rw [callA_eq rfl Tryz.func133 rfl rfl,colX_cells]
 simp
theorem filterOver_no {p:Pn} {kd:Int} (h:p.kind≠2):callA C0 125 [.i (.iref p.cells), .int kd] []=some (.tup [.i (.lit (.pointer none)), .i (.lit (.pointer none)), .bool false],[]):=by
 rw [callA_eq rfl Tryz.func125 rfl rfl,Pn.cells_eq]
 simp [h]
theorem filterOver_not {e:Ex} {k:Pn} {kd:Int} (h:k.kind≠kd):callA C0 125 [.i (.iref (filt e k).cells), .int kd] []=some (.tup [.i (.lit (.pointer none)), .i (.lit (.pointer none)), .bool false],[]):=by
 rw [callA_eq rfl Tryz.func125 rfl rfl,filt_cells,Pn.cells_eq k]
 simp [h]
theorem filterOver_yes {e:Ex} {k:Pn} {kd:Int} (h:k.kind=kd):callA C0 125 [.i (.iref (filt e k).cells), .int kd] []=some (.tup [.i (.iref e.cells), .i (.iref k.cells), .bool true],[]):=by
 rw [callA_eq rfl Tryz.func125 rfl rfl,filt_cells,Pn.cells_eq k,Ex.cells_eq e]
 simp [h]
theorem place_right (c w:Int) (h0:0≤c∧c≤6) (hw:0≤w∧w≤6):callA C0 131 [.int c, .own 0 0] [some (.box [.int w])]=some (.int (c - w),[some (.box [.int w])]):=by
 rw [callA_eq rfl Tryz.func131 rfl rfl]
 have w1:IntKind.i64.wrap (c - w)=c - w:=wrap64 (by omega) (by omega)
 simp [w1]
theorem place_swap (c a b:Int) (h0:0≤c∧c≤12) (ha:0≤a∧a≤6) (hb:0≤b∧b≤6):callA C0 132 [.int c, .own 0 0, .own 1 0] [some (.box [.int a]),some (.box [.int b])]=some (.int (swapC a b c),[some (.box [.int a]),some (.box [.int b])]):=by
 rw [callA_eq rfl Tryz.func132 rfl rfl]
 have w1:IntKind.i64.wrap (c - a)=c - a:=wrap64 (by omega) (by omega)
 have w2:IntKind.i64.wrap (c + b)=c + b:=wrap64 (by omega) (by omega)
 unfold swapC
 by_cases h:c < a
 ·simp [h,w2]
 ·simp [h,w1]
end Go.Proofs.YtjcjpbjpbbdnlaaGreat.P

namespace Go.Proofs.YtjcjpbjpbbdnlaaGreat.P
open Go Go.Av
set_option maxRecDepth 4000
set_option maxHeartbeats 4000000
def zrw:List IV:=[.int 0, .int 0, .bool false, .int 0, .isl []]
@[simp] theorem copiedW {e:Ex} (h:e.size < 1000000000):callA C0 99 [.i (.iref e.cells)] []=some (.i (.agg e.cells),[]):=by
 rw [callA_prim (p:=copyE) rfl]; exact copyE_eq h
theorem ren1_colR {e:Ex} {w:Int} (hw:0≤w∧w≤6) (hk:e.kind=1) (hc:0≤e.col∧e.col < 6) :
  callA C0 156 [.i (.iref e.cells), .own 0 0] [some (.box [.fn (.func 131) [.own 1 0]]),some (.box [.int w])]=some (.i (.agg (colX (e.col - w)).cells),[some (.box [.fn (.func 131) [.own 1 0]]),some (.box [.int w])]):=by
 have hp:=place_right e.col w (by omega) hw
 have h2:=icolumn_eq (e.col - w)
 rw [callA_eq rfl Tryz.func156 rfl rfl,Ex.cells_eq e]
 rw [colX_cells] at *
 simp [hk,hp,h2]
theorem ren1_notR {e:Ex} {w:Int} (hk:e.kind≠1) (hs:e.size < 1000000000) :
  callA C0 156 [.i (.iref e.cells), .own 0 0] [some (.box [.fn (.func 131) [.own 1 0]]),some (.box [.int w])]=some (.i (.agg e.cells),[some (.box [.fn (.func 131) [.own 1 0]]),some (.box [.int w])]):=by
 have hc:=copiedW hs
 rw [callA_eq rfl Tryz.func156 rfl rfl]
 rw [Ex.cells_eq e] at *
 simp [hk,hc]
def RNR (e:Ex) (w:Int) (f:Ex→Ex) (i:Nat):AS :=
 {env:=[(0, .i (.iref [.int e.kind, .int e.col, .bool e.val.null, .int e.val.n, .isl (Ex.cellsL e.kids)])),(1, .fn (.func 156) [.own 0 0]),(4, .own 2 0),(5, .own 3 0),(6,jk i (.int (i - 1))),(12, .bool ((e.kids.length:Int) == 0)),(39, .int e.kids.length),(40, .int i),(41,jk i (.bool true))],
  st:=[some (.box [.fn (.func 131) [.own 1 0]]),some (.box [.int w]),some (.box [.int 0, .int 0, .bool false, .int 0, .nils]),some (.box [.int e.kind, .int e.col, .bool e.val.null, .int e.val.n, .osl 4 5 0 e.kids.length]),some (.arr 5 (Ex.cellsL ((e.kids.map f).take i) ++ List.replicate (e.kids.length - i) zrw))] }
theorem renSR {e:Ex} {w:Int} {f:Ex→Ex} (hk:e.kids≠[]) (hl:e.kids.length < 1000000000) (ih:∀ x∈e.kids,callA C0 155 [.i (.iref x.cells), .fn (.func 156) [.own 0 0]] [some (.box [.fn (.func 131) [.own 1 0]]),some (.box [.int w])]=some (.i (.agg (f x).cells),[some (.box [.fn (.func 131) [.own 1 0]]),some (.box [.int w])])) :
  callA C0 155 [.i (.iref e.cells), .fn (.func 156) [.own 0 0]] [some (.box [.fn (.func 131) [.own 1 0]]),some (.box [.int w])]=some (.i (.agg (Ex.mk e.kind e.col e.val (e.kids.map f)).cells),[some (.box [.fn (.func 131) [.own 1 0]]),some (.box [.int w])]):=by
 rw [callA_eq rfl Tryz.func155 rfl rfl,Ex.cells_eq]
 have hb:56 * (e.kids.length:Int)≤281474976710656:=by omega
 simp [hk,hb]
 rw [loop_to (RNR e w f) e.kids.length (by simp [RNR,Ex.cellsL,zrw])]
 ·rw [execA_loop]
  have ht:(e.kids.map f).take e.kids.length=e.kids.map f:=List.take_of_length_le (by simp)
  simp [RNR,Ex.cells,ht]
 ·intro i hi
  have h3:=List.getElem?_eq_getElem hi
  have hm:=List.mem_of_getElem? h3
  have hc:=ih _ hm
  have r2:=Ex.cellsL_nth h3
  generalize e.kids[i]=x at h3 hc r2
  have w2:IntKind.i64.wrap ((i:Int) + 1)=i + 1:=wrap64 (by omega) (by omega)
  rw [Ex.cells_eq] at hc r2
  have hD:(Ex.cellsL ((e.kids.map f).take i)).length=i:=by simp; omega
  have hS:Ex.cellsL ((e.kids.map f).take i) ++ [(f x).cells]=Ex.cellsL ((e.kids.map f).take (i + 1)):=by rw [take_snoc (a:=f x) (by simp [h3]),Ex.cellsL_snoc]
  have g1:=half_nth (n:=e.kids.length) (z:=zrw) hD hi
  have g2:=half_set (n:=e.kids.length) (z:=zrw) (x:=(f x).cells) hD hi
  have g3:splice zrw 0 (f x).cells=some (f x).cells:=splice_all (by simp [zrw])
  rw [hS] at g2
  simp [RNR,hi,r2,hc,w2,g1,g2,g3]
theorem renLR {e x:Ex} {w:Int} (hk:e.kids=[]) (h:callA C0 156 [.i (.iref e.cells), .own 0 0] [some (.box [.fn (.func 131) [.own 1 0]]),some (.box [.int w])]=some (.i (.agg x.cells),[some (.box [.fn (.func 131) [.own 1 0]]),some (.box [.int w])])) :
  callA C0 155 [.i (.iref e.cells), .fn (.func 156) [.own 0 0]] [some (.box [.fn (.func 131) [.own 1 0]]),some (.box [.int w])]=some (.i (.agg x.cells),[some (.box [.fn (.func 131) [.own 1 0]]),some (.box [.int w])]):=by
 rw [callA_eq rfl Tryz.func155 rfl rfl]
 rw [Ex.cells_eq e] at h ⊢
 rw [Ex.cells_eq x] at h ⊢
 simp [hk,Ex.cellsL] at h ⊢
 simp [h]
theorem replacedR {w : Int} (hw : 0 ≤ w ∧ w ≤ 6) : ∀ (e : Ex), e.wf 6 = true → e.size < 1000000000 → callA C0 155 [.i (.iref e.cells), .fn (.func 156) [.own 0 0]] [some (.box [.fn (.func 131) [.own 1 0]]), some (.box [.int w])] = some (.i (.agg (e.mapC (· - w)).cells), [some (.box [.fn (.func 131) [.own 1 0]]), some (.box [.int w])]) := by
  intro e
  induction e using Ex.ind with
  | h k c v ks ih =>
    intro hx6 hs
    have hsz := Ex.size_eq (.mk k c v ks)
    have hln := Ex.sizeL_length ks
    simp only [Ex.kids] at hsz
    by_cases h1 : k = 1
    · have hc := Ex.wf_col hx6 (by simpa [Ex.kind] using h1)
      rw [Ex.mapC_col _ (by simpa [Ex.kind] using h1)]
      exact renLR hc.2.2 (ren1_colR hw (by simpa [Ex.kind] using h1) ⟨hc.1, hc.2.1⟩)
    · rw [Ex.mapC_not _ (by simpa [Ex.kind] using h1)]
      by_cases hk : ks = []
      · subst hk
        exact renLR rfl (ren1_notR (by simpa [Ex.kind] using h1) hs)
      · exact renSR hk (by simp only [Ex.kids]; omega) fun x hx => ih x hx (Ex.wf_kids hx6 hx) (by have := Ex.sizeL_mem (l := ks) hx; omega)
theorem renumberedR {w:Int} (hw:0≤w∧w≤6) (e:Ex) (hx6:e.wf 6=true) (hs:e.size < 1000000000):callA C0 130 [.i (.iref e.cells), .fn (.func 131) [.own 0 0]] [some (.box [.int w])]=some (.i (.agg (e.mapC (· - w)).cells),[some (.box [.int w])]):=by
 have h:=replacedR hw e hx6 hs
 rw [callA_eq rfl Tryz.func130 rfl rfl]
 generalize e.mapC (· - w)=x at *
 rw [Ex.cells_eq e,Ex.cells_eq x] at *
 simp [h]
theorem ren1_colS {e:Ex} {a b:Int} (ha:0≤a∧a≤6) (hb:0≤b∧b≤6) (hk:e.kind=1) (hc:0≤e.col∧e.col < 6) :
  callA C0 156 [.i (.iref e.cells), .own 0 0] [some (.box [.fn (.func 132) [.own 1 0, .own 2 0]]),some (.box [.int a]),some (.box [.int b])]=some (.i (.agg (colX (swapC a b e.col)).cells),[some (.box [.fn (.func 132) [.own 1 0, .own 2 0]]),some (.box [.int a]),some (.box [.int b])]):=by
 have hp:=place_swap e.col a b (by omega) ha hb
 have h2:=icolumn_eq (swapC a b e.col)
 rw [callA_eq rfl Tryz.func156 rfl rfl,Ex.cells_eq e]
 rw [colX_cells] at *
 simp [hk,hp,h2]
theorem ren1_notS {e:Ex} {a b:Int} (hk:e.kind≠1) (hs:e.size < 1000000000) :
  callA C0 156 [.i (.iref e.cells), .own 0 0] [some (.box [.fn (.func 132) [.own 1 0, .own 2 0]]),some (.box [.int a]),some (.box [.int b])]=some (.i (.agg e.cells),[some (.box [.fn (.func 132) [.own 1 0, .own 2 0]]),some (.box [.int a]),some (.box [.int b])]):=by
 have hc:=copiedW hs
 rw [callA_eq rfl Tryz.func156 rfl rfl]
 rw [Ex.cells_eq e] at *
 simp [hk,hc]
def RNS (e:Ex) (a b:Int) (f:Ex→Ex) (i:Nat):AS :=
 {env:=[(0, .i (.iref [.int e.kind, .int e.col, .bool e.val.null, .int e.val.n, .isl (Ex.cellsL e.kids)])),(1, .fn (.func 156) [.own 0 0]),(4, .own 3 0),(5, .own 4 0),(6,jk i (.int (i - 1))),(12, .bool ((e.kids.length:Int) == 0)),(39, .int e.kids.length),(40, .int i),(41,jk i (.bool true))],
  st:=[some (.box [.fn (.func 132) [.own 1 0, .own 2 0]]),some (.box [.int a]),some (.box [.int b]),some (.box [.int 0, .int 0, .bool false, .int 0, .nils]),some (.box [.int e.kind, .int e.col, .bool e.val.null, .int e.val.n, .osl 5 5 0 e.kids.length]),some (.arr 5 (Ex.cellsL ((e.kids.map f).take i) ++ List.replicate (e.kids.length - i) zrw))] }
theorem renSS {e:Ex} {a b:Int} {f:Ex→Ex} (hk:e.kids≠[]) (hl:e.kids.length < 1000000000) (ih:∀ x∈e.kids,callA C0 155 [.i (.iref x.cells), .fn (.func 156) [.own 0 0]] [some (.box [.fn (.func 132) [.own 1 0, .own 2 0]]),some (.box [.int a]),some (.box [.int b])]=some (.i (.agg (f x).cells),[some (.box [.fn (.func 132) [.own 1 0, .own 2 0]]),some (.box [.int a]),some (.box [.int b])])) :
  callA C0 155 [.i (.iref e.cells), .fn (.func 156) [.own 0 0]] [some (.box [.fn (.func 132) [.own 1 0, .own 2 0]]),some (.box [.int a]),some (.box [.int b])]=some (.i (.agg (Ex.mk e.kind e.col e.val (e.kids.map f)).cells),[some (.box [.fn (.func 132) [.own 1 0, .own 2 0]]),some (.box [.int a]),some (.box [.int b])]):=by
 rw [callA_eq rfl Tryz.func155 rfl rfl,Ex.cells_eq]
 have hb:56 * (e.kids.length:Int)≤281474976710656:=by omega
 simp [hk,hb]
 rw [loop_to (RNS e a b f) e.kids.length (by simp [RNS,Ex.cellsL,zrw])]
 ·rw [execA_loop]
  have ht:(e.kids.map f).take e.kids.length=e.kids.map f:=List.take_of_length_le (by simp)
  simp [RNS,Ex.cells,ht]
 ·intro i hi
  have h3:=List.getElem?_eq_getElem hi
  have hm:=List.mem_of_getElem? h3
  have hc:=ih _ hm
  have r2:=Ex.cellsL_nth h3
  generalize e.kids[i]=x at h3 hc r2
  have w2:IntKind.i64.wrap ((i:Int) + 1)=i + 1:=wrap64 (by omega) (by omega)
  rw [Ex.cells_eq] at hc r2
  have hD:(Ex.cellsL ((e.kids.map f).take i)).length=i:=by simp; omega
  have hS:Ex.cellsL ((e.kids.map f).take i) ++ [(f x).cells]=Ex.cellsL ((e.kids.map f).take (i + 1)):=by rw [take_snoc (a:=f x) (by simp [h3]),Ex.cellsL_snoc]
  have g1:=half_nth (n:=e.kids.length) (z:=zrw) hD hi
  have g2:=half_set (n:=e.kids.length) (z:=zrw) (x:=(f x).cells) hD hi
  have g3:splice zrw 0 (f x).cells=some (f x).cells:=splice_all (by simp [zrw])
  rw [hS] at g2
  simp [RNS,hi,r2,hc,w2,g1,g2,g3]
theorem renLS {e x:Ex} {a b:Int} (hk:e.kids=[]) (h:callA C0 156 [.i (.iref e.cells), .own 0 0] [some (.box [.fn (.func 132) [.own 1 0, .own 2 0]]),some (.box [.int a]),some (.box [.int b])]=some (.i (.agg x.cells),[some (.box [.fn (.func 132) [.own 1 0, .own 2 0]]),some (.box [.int a]),some (.box [.int b])])) :
  callA C0 155 [.i (.iref e.cells), .fn (.func 156) [.own 0 0]] [some (.box [.fn (.func 132) [.own 1 0, .own 2 0]]),some (.box [.int a]),some (.box [.int b])]=some (.i (.agg x.cells),[some (.box [.fn (.func 132) [.own 1 0, .own 2 0]]),some (.box [.int a]),some (.box [.int b])]):=by
 rw [callA_eq rfl Tryz.func155 rfl rfl]
 rw [Ex.cells_eq e] at h ⊢
 rw [Ex.cells_eq x] at h ⊢
 simp [hk,Ex.cellsL] at h ⊢
 simp [h]
theorem replacedS {a b : Int} (ha : 0 ≤ a ∧ a ≤ 6) (hb : 0 ≤ b ∧ b ≤ 6) : ∀ (e : Ex), e.wf 6 = true → e.size < 1000000000 → callA C0 155 [.i (.iref e.cells), .fn (.func 156) [.own 0 0]] [some (.box [.fn (.func 132) [.own 1 0, .own 2 0]]), some (.box [.int a]), some (.box [.int b])] = some (.i (.agg (e.mapC (swapC a b)).cells), [some (.box [.fn (.func 132) [.own 1 0, .own 2 0]]), some (.box [.int a]), some (.box [.int b])]) := by
  intro e
  induction e using Ex.ind with
  | h k c v ks ih =>
    intro hx6 hs
    have hsz := Ex.size_eq (.mk k c v ks)
    have hln := Ex.sizeL_length ks
    simp only [Ex.kids] at hsz
    by_cases h1 : k = 1
    · have hc := Ex.wf_col hx6 (by simpa [Ex.kind] using h1)
      rw [Ex.mapC_col _ (by simpa [Ex.kind] using h1)]
      exact renLS hc.2.2 (ren1_colS ha hb (by simpa [Ex.kind] using h1) ⟨hc.1, hc.2.1⟩)
    · rw [Ex.mapC_not _ (by simpa [Ex.kind] using h1)]
      by_cases hk : ks = []
      · subst hk
        exact renLS rfl (ren1_notS (by simpa [Ex.kind] using h1) hs)
      · exact renSS hk (by simp only [Ex.kids]; omega) fun x hx => ih x hx (Ex.wf_kids hx6 hx) (by have := Ex.sizeL_mem (l := ks) hx; omega)
theorem renumberedS {a b:Int} (ha:0≤a∧a≤6) (hb:0≤b∧b≤6) (e:Ex) (hx6:e.wf 6=true) (hs:e.size < 1000000000):callA C0 130 [.i (.iref e.cells), .fn (.func 132) [.own 0 0, .own 1 0]] [some (.box [.int a]),some (.box [.int b])]=some (.i (.agg (e.mapC (swapC a b)).cells),[some (.box [.int a]),some (.box [.int b])]):=by
 have h:=replacedS ha hb e hx6 hs
 rw [callA_eq rfl Tryz.func130 rfl rfl]
 generalize e.mapC (swapC a b)=x at *
 rw [Ex.cells_eq e,Ex.cells_eq x] at *
 simp [h]
end Go.Proofs.YtjcjpbjpbbdnlaaGreat.P

namespace Go.Av
theorem orS_nat (a b:Nat):orS a b=((a ||| b:Nat):Int):=by simp [orS]
def accI (k:Int) (v:Val) (l:List Val) (s:Int) (j:Nat):Int:=(l.take j).foldl (fun s w=>orS s (stV (Val.cmb k v w))) s
def accO (k:Int) (l r:List Val) (i:Nat):Int:=(l.take i).foldl (fun s v=>r.foldl (fun s w=>orS s (stV (Val.cmb k v w))) s) 0
theorem accI_succ {k:Int} {v w:Val} {l:List Val} {s:Int} {j:Nat} (h:l[j]?=some w):accI k v l s (j + 1)=orS (accI k v l s j) (stV (Val.cmb k v w)):=by
 unfold accI; rw [take_snoc h,List.foldl_append]; rfl
theorem accO_succ {k:Int} {v:Val} {l r:List Val} {i:Nat} (h:l[i]?=some v):accO k l r (i + 1)=accI k v r (accO k l r i) r.length:=by
 unfold accO accI; rw [take_snoc h,List.foldl_append,List.take_length]; rfl
def lowN (s:Int):Prop:=∃ n:Nat,s=n∧n < 8
theorem stV_low (v:Val):lowN (stV v):=by
 unfold stV
 split
 ·exact ⟨4,rfl,by omega⟩
 ·split
  ·exact ⟨1,rfl,by omega⟩
  ·exact ⟨2,rfl,by omega⟩
theorem orS_low {a b:Int} (ha:lowN a) (hb:lowN b):lowN (orS a b):=by
 obtain ⟨m,rfl,hm⟩:=ha
 obtain ⟨n,rfl,hn⟩:=hb
 exact ⟨m ||| n,orS_nat m n,Nat.or_lt_two_pow (n:=3) hm hn⟩
theorem accI_low {k : Int} {v : Val} : ∀ (l : List Val) {s : Int} (j : Nat), lowN s → lowN (accI k v l s j)
  | [], s, j, h => by simpa [accI] using h
  | a :: l, s, 0, h => by simpa [accI] using h
  | a :: l, s, j + 1, h => by
    have := accI_low (k := k) (v := v) l (s := orS s (stV (Val.cmb k v a))) j (orS_low h (stV_low _))
    simpa [accI] using this
theorem accO_low {k : Int} {r : List Val} (l : List Val) (i : Nat) (hi : i ≤ l.length) : lowN (accO k l r i) := by
  induction i with
  | zero => exact ⟨0, by simp [accO], by omega⟩
  | succ i ih =>
    rw [accO_succ (List.getElem?_eq_getElem (show i < l.length by omega))]
    exact accI_low r _ (ih (by omega))
theorem cmbS_acc {k a b:Int} (h:k=8∨k=9):cmbS k a b=accO k (exS a) (exS b) (exS a).length:=by
 unfold cmbS accO
 rw [if_pos h,List.take_length]
theorem exS_ok {a:Int} {v:Val} (h:v∈exS a):v.ok=true:=by
 unfold exS at h
 simp only [List.mem_append] at h
 rcases h with h | h | h
 ·split at h
  ·simp at h; subst h; rfl
  ·cases h
 ·split at h
  ·simp at h; subst h; rfl
  ·cases h
 ·split at h
  ·simp at h; subst h; rfl
  ·cases h
theorem exS_ne {b:Int} (h:okS b):exS b≠[]:=by
 obtain ⟨h1,h2⟩:=h
 have:b=1∨b=2∨b=3∨b=4∨b=5∨b=6∨b=7:=by omega
 rcases this with rfl | rfl | rfl | rfl | rfl | rfl | rfl<;>decide
theorem exS_len (a:Int):(exS a).length≤3:=by
 unfold exS; simp only [List.length_append]
 repeat' split
 all_goals simp
end Go.Av
namespace Go.Proofs.YtjcjpbjpbbdnlaaGreat.P
open Go Go.Av
set_option maxRecDepth 4000
set_option maxHeartbeats 4000000
theorem mod8 {n:Nat} (h:n < 8):n % 18446744073709551616=n:=Nat.mod_eq_of_lt (by omega)
theorem or8 {m n:Nat} (hm:m < 8) (hn:n < 8):IntKind.i64.wrap ((m ||| n:Nat):Int)=((m ||| n:Nat):Int):=by
 have:=Nat.or_lt_two_pow (n:=3) hm hn
 exact wrap64 (by omega) (by omega)
def vBx (v:Val):Option Blk:=some (.box [.bool v.null, .int v.n])
def vAt (l:List Val) (i:Nat):Val:=(l[i]?).getD Val.zero
def jz (i:Nat) (v:AV):AV:=if i=0 then .junk else v
@[simp] theorem jz_0 (v:AV):jz 0 v=.junk:=rfl
@[simp] theorem jz_s (i:Nat) (v:AV):jz (i + 1) v=v:=rfl
theorem jz_pos {i:Nat} (h:i≠0) (v:AV):jz i v=v:=if_neg h
def CSX (k a b:Int) (A B:List Val) (i:Nat):AS :=
 {env:=[(0, .int k),(1, .int a),(2, .int b),(6, .int 0),(7, .int (accO k A B i)),(9,jz i (.own 0 0)),(11,jz i (.own 1 0)),(17, .bool true),(19, .i (.isl (valsL A))),(20, .int A.length),(21, .int i),(22,jz i (.bool true)),(26,jz i (.i (.isl (valsL B)))),(27,jz i (.int B.length)),(28,jz i (.int B.length)),(29,jz i (.bool false)),(46, .junk),(54, .junk),(66, .junk)],
  st:=if i=0 then [] else [vBx (vAt A (i - 1)),vBx (vAt B (B.length - 1))] }
def CSI (k a b:Int) (A B:List Val) (i:Nat) (j:Nat):AS :=
 {env:=[(0, .int k),(1, .int a),(2, .int b),(6, .int 0),(7, .int (accI k (vAt A i) B (accO k A B i) j)),(9, .own 0 0),(11,if j=0 then jz i (.own 1 0) else .own 1 0),(17, .bool true),(19, .i (.isl (valsL A))),(20, .int A.length),(21, .int i),(22, .bool true),(26, .i (.isl (valsL B))),(27, .int B.length),(28, .int j),(29,if j=0 then jz i (.bool false) else .bool true),(46, .junk),(54, .junk),(66, .junk)],
  st:=vBx (vAt A i) :: (if j=0 then (if i=0 then [] else [vBx (vAt B (B.length - 1))]) else [vBx (vAt B (j - 1))]) }
theorem combinedStates_and {k a b:Int} (hk:k=8∨k=9) (ha:okS a) (hb:okS b):callA C0 171 [.int k, .int a, .int b] []=some (.int (cmbS k a b),[]):=by
 have hea:=examples_eq (a:=a) ⟨by have:=ha.1; omega,ha.2⟩
 have heb:=examples_eq (a:=b) ⟨by have:=hb.1; omega,hb.2⟩
 have hbn:=exS_ne hb
 have hbl:(exS b).length≠0:=fun h=>hbn (List.length_eq_zero_iff.1 h)
 have la:=exS_len a
 have lb:=exS_len b
 have oka:∀ v∈exS a,v.ok=true:=fun v hv=>exS_ok hv
 have okb:∀ v∈exS b,v.ok=true:=fun v hv=>exS_ok hv
 rw [callA_eq rfl Tryz.func171 rfl rfl,cmbS_acc hk]
 generalize exS a=A at *
 generalize exS b=B at *
 rcases hk with rfl | rfl
 ·simp [hea]
  rw [loop_to (CSX 8 a b A B) A.length (by simp [CSX,accO])]
  ·rw [execA_loop]
   simp [CSX]
  ·intro i hi
   have h3:=List.getElem?_eq_getElem hi
   have hm:=List.mem_of_getElem? h3
   generalize A[i]=v at h3 hm
   have rA:=valsL_nth h3
   have hv:vAt A i=v:=by simp [vAt,h3]
   have w2:IntKind.i64.wrap ((i:Int) + 1)=i + 1:=wrap64 (by omega) (by omega)
   have hlow0:=accO_low (k:=8) (r:=B) A i (by omega)
   have hsc:=accO_succ (k:=8) (r:=B) h3
   have inner:∀ j,j < B.length→∃ w,B[j]?=some w∧w∈B∧nthE (valsL B) j=some [.bool w.null, .int w.n]∧vAt B j=w∧∃ m n:Nat,accI 8 v B (accO 8 A B i) j=m∧stV (Val.cmb 8 v w)=n∧m < 8∧n < 8∧accI 8 v B (accO 8 A B i) (j + 1)=((m ||| n:Nat):Int)∧IntKind.i64.wrap ((m ||| n:Nat):Int)=((m ||| n:Nat):Int):=by
    intro j hj
    have q3:=List.getElem?_eq_getElem hj
    obtain ⟨m,hm1,hm2⟩:=accI_low (k:=8) (v:=v) B j hlow0
    obtain ⟨n,hn1,hn2⟩:=stV_low (Val.cmb 8 v B[j])
    refine ⟨B[j],q3,List.getElem_mem hj,valsL_nth q3,by simp [vAt,q3],m,n,hm1,hn1,hm2,hn2,?_,or8 hm2 hn2⟩
    rw [accI_succ q3,hm1,hn1,orS_nat]
   by_cases h0:i=0
   ·subst h0
    simp [CSX,hi,rA,heb]
    rw [loop_to (CSI 8 a b A B 0) B.length (by simp [CSI,accI,hv,vBx])]
    ·rw [execA_loop]
     simp [CSI,hbl,w2,hv,hsc,CSX,vBx]
    ·intro j hj
     obtain ⟨w,q3,qm,q4,q5,m,n,m1,n1,m2,n2,hn,hwr⟩:=inner j hj
     have hcm:=combined_eq 8 v w (oka v hm) (okb w qm)
     have hst:=istate_eq (Val.cmb 8 v w).null (Val.cmb 8 v w).n
     have w3:IntKind.i64.wrap ((j:Int) + 1)=j + 1:=wrap64 (by omega) (by omega)
     rw [show stV ⟨(Val.cmb 8 v w).null,(Val.cmb 8 v w).n⟩=stV (Val.cmb 8 v w) from rfl,n1] at hst
     by_cases j0:j=0
     ·subst j0
      simp [CSI,hj,hv,q4,q5,vBx,m1,hcm,hst,mod8 m2,mod8 n2,hwr,hn]
     ·simp [CSI,hj,hv,q4,q5,vBx,m1,hcm,hst,mod8 m2,mod8 n2,hwr,hn,j0,w3]
   ·simp [CSX,hi,rA,heb,h0,jz_pos h0,vBx]
    rw [loop_to (CSI 8 a b A B i) B.length (by simp [CSI,accI,hv,vBx,jz_pos h0,h0])]
    ·rw [execA_loop]
     simp [CSI,hbl,w2,hv,hsc,CSX,vBx]
    ·intro j hj
     obtain ⟨w,q3,qm,q4,q5,m,n,m1,n1,m2,n2,hn,hwr⟩:=inner j hj
     have hcm:=combined_eq 8 v w (oka v hm) (okb w qm)
     have hst:=istate_eq (Val.cmb 8 v w).null (Val.cmb 8 v w).n
     have w3:IntKind.i64.wrap ((j:Int) + 1)=j + 1:=wrap64 (by omega) (by omega)
     rw [show stV ⟨(Val.cmb 8 v w).null,(Val.cmb 8 v w).n⟩=stV (Val.cmb 8 v w) from rfl,n1] at hst
     by_cases j0:j=0
     ·subst j0
      simp [CSI,hj,hv,q4,q5,vBx,m1,hcm,hst,mod8 m2,mod8 n2,hwr,hn,jz_pos h0,h0]
     ·simp [CSI,hj,hv,q4,q5,vBx,m1,hcm,hst,mod8 m2,mod8 n2,hwr,hn,j0,w3,jz_pos h0,h0]
 ·simp [hea]
  rw [loop_to (CSX 9 a b A B) A.length (by simp [CSX,accO])]
  ·rw [execA_loop]
   simp [CSX]
  ·intro i hi
   have h3:=List.getElem?_eq_getElem hi
   have hm:=List.mem_of_getElem? h3
   generalize A[i]=v at h3 hm
   have rA:=valsL_nth h3
   have hv:vAt A i=v:=by simp [vAt,h3]
   have w2:IntKind.i64.wrap ((i:Int) + 1)=i + 1:=wrap64 (by omega) (by omega)
   have hlow0:=accO_low (k:=9) (r:=B) A i (by omega)
   have hsc:=accO_succ (k:=9) (r:=B) h3
   have inner:∀ j,j < B.length→∃ w,B[j]?=some w∧w∈B∧nthE (valsL B) j=some [.bool w.null, .int w.n]∧vAt B j=w∧∃ m n:Nat,accI 9 v B (accO 9 A B i) j=m∧stV (Val.cmb 9 v w)=n∧m < 8∧n < 8∧accI 9 v B (accO 9 A B i) (j + 1)=((m ||| n:Nat):Int)∧IntKind.i64.wrap ((m ||| n:Nat):Int)=((m ||| n:Nat):Int):=by
    intro j hj
    have q3:=List.getElem?_eq_getElem hj
    obtain ⟨m,hm1,hm2⟩:=accI_low (k:=9) (v:=v) B j hlow0
    obtain ⟨n,hn1,hn2⟩:=stV_low (Val.cmb 9 v B[j])
    refine ⟨B[j],q3,List.getElem_mem hj,valsL_nth q3,by simp [vAt,q3],m,n,hm1,hn1,hm2,hn2,?_,or8 hm2 hn2⟩
    rw [accI_succ q3,hm1,hn1,orS_nat]
   by_cases h0:i=0
   ·subst h0
    simp [CSX,hi,rA,heb]
    rw [loop_to (CSI 9 a b A B 0) B.length (by simp [CSI,accI,hv,vBx])]
    ·rw [execA_loop]
     simp [CSI,hbl,w2,hv,hsc,CSX,vBx]
    ·intro j hj
     obtain ⟨w,q3,qm,q4,q5,m,n,m1,n1,m2,n2,hn,hwr⟩:=inner j hj
     have hcm:=combined_eq 9 v w (oka v hm) (okb w qm)
     have hst:=istate_eq (Val.cmb 9 v w).null (Val.cmb 9 v w).n
     have w3:IntKind.i64.wrap ((j:Int) + 1)=j + 1:=wrap64 (by omega) (by omega)
     rw [show stV ⟨(Val.cmb 9 v w).null,(Val.cmb 9 v w).n⟩=stV (Val.cmb 9 v w) from rfl,n1] at hst
     by_cases j0:j=0
     ·subst j0
      simp [CSI,hj,hv,q4,q5,vBx,m1,hcm,hst,mod8 m2,mod8 n2,hwr,hn]
     ·simp [CSI,hj,hv,q4,q5,vBx,m1,hcm,hst,mod8 m2,mod8 n2,hwr,hn,j0,w3]
   ·simp [CSX,hi,rA,heb,h0,jz_pos h0,vBx]
    rw [loop_to (CSI 9 a b A B i) B.length (by simp [CSI,accI,hv,vBx,jz_pos h0,h0])]
    ·rw [execA_loop]
     simp [CSI,hbl,w2,hv,hsc,CSX,vBx]
    ·intro j hj
     obtain ⟨w,q3,qm,q4,q5,m,n,m1,n1,m2,n2,hn,hwr⟩:=inner j hj
     have hcm:=combined_eq 9 v w (oka v hm) (okb w qm)
     have hst:=istate_eq (Val.cmb 9 v w).null (Val.cmb 9 v w).n
     have w3:IntKind.i64.wrap ((j:Int) + 1)=j + 1:=wrap64 (by omega) (by omega)
     rw [show stV ⟨(Val.cmb 9 v w).null,(Val.cmb 9 v w).n⟩=stV (Val.cmb 9 v w) from rfl,n1] at hst
     by_cases j0:j=0
     ·subst j0
      simp [CSI,hj,hv,q4,q5,vBx,m1,hcm,hst,mod8 m2,mod8 n2,hwr,hn,jz_pos h0,h0]
     ·simp [CSI,hj,hv,q4,q5,vBx,m1,hcm,hst,mod8 m2,mod8 n2,hwr,hn,j0,w3,jz_pos h0,h0]
end Go.Proofs.YtjcjpbjpbbdnlaaGreat.P

namespace Go.Proofs.YtjcjpbjpbbdnlaaGreat.P
open Go Go.Av
set_option maxRecDepth 4000
set_option maxHeartbeats 8000000
theorem or_tab:∀ m n:Fin 8,((m.val ||| n.val) &&& 4=0∧hasS (orS m.val n.val) 4=false)∨((m.val ||| n.val) &&& 4=4∧hasS (orS m.val n.val) 4=true):=by decide
theorem or_four {m n:Nat} (hm:m < 8) (hn:n < 8):((m ||| n) &&& 4=0∧hasS (orS m n) 4=false)∨((m ||| n) &&& 4=4∧hasS (orS m n) 4=true):=or_tab ⟨m,hm⟩ ⟨n,hn⟩
theorem low_tab:∀ m:Fin 8,(m.val &&& 18446744073709551611=0∧(hasS m.val 1 || hasS m.val 2)=false)∨((m.val &&& 18446744073709551611=1∨m.val &&& 18446744073709551611=2∨m.val &&& 18446744073709551611=3)∧(hasS m.val 1 || hasS m.val 2)=true):=by decide
theorem low_any {m:Nat} (hm:m < 8):∃ v:Nat,m &&& 18446744073709551611=v∧IntKind.i64.wrap (v:Int)=v∧((v=0∧(hasS m 1 || hasS m 2)=false)∨(¬ v=0∧(hasS m 1 || hasS m 2)=true)):=by
 rcases low_tab ⟨m,hm⟩ with ⟨h,q⟩ | ⟨h | h | h,q⟩
 ·exact ⟨0,h,by decide, .inl ⟨rfl,q⟩⟩
 ·exact ⟨1,h,by decide, .inr ⟨by omega,q⟩⟩
 ·exact ⟨2,h,by decide, .inr ⟨by omega,q⟩⟩
 ·exact ⟨3,h,by decide, .inr ⟨by omega,q⟩⟩
theorem combinedStates_rest {k:Int} (hk:3≤k∧k≠8∧k≠9) {m n:Nat} (hm:m < 8) (hn:n < 8):callA C0 171 [.int k, .int m, .int n] []=some (.int (cmbS k m n),[]):=by
 rw [callA_eq rfl Tryz.func171 rfl rfl]
 have h1:=mod8 hm
 have h2:=mod8 hn
 have h3:=or8 hm hn
 have h4:(m ||| n) % 18446744073709551616=m ||| n:=mod8 (Nat.or_lt_two_pow (n:=3) hm hn)
 obtain ⟨x,x1,x2,x3⟩:=low_any hm
 obtain ⟨y,y1,y2,y3⟩:=low_any hn
 have k8:¬ k=8:=hk.2.1
 have k9:¬ k=9:=hk.2.2
 have e7:orS 0 7=7:=by decide
 have e3:orS 0 3=3:=by decide
 have e47:orS 4 7=7:=by decide
 have e43:orS 4 3=7:=by decide
 have e40:orS 4 0=4:=by decide
 have e00:orS 0 0=0:=by decide
 by_cases k6:k < 6
 ·have hk3:k=3∨k=4∨k=5:=by omega
  rcases hk3 with rfl | rfl | rfl
  ·rcases or_four hm hn with ⟨p,q⟩ | ⟨p,q⟩
   ·rcases x3 with ⟨x3,x4⟩ | ⟨x3,x4⟩
    ·simp [h1,h2,h3,h4,p,x1,x2,x3,cmbS,q,x4,e00]
    ·rcases y3 with ⟨y3,y4⟩ | ⟨y3,y4⟩
     ·simp [h1,h2,h3,h4,p,x1,x2,x3,y1,y2,y3,cmbS,q,x4,y4,e00]
     ·simp [h1,h2,h3,h4,p,x1,x2,x3,y1,y2,y3,cmbS,q,x4,y4,e7,e3]
   ·rcases x3 with ⟨x3,x4⟩ | ⟨x3,x4⟩
    ·simp [h1,h2,h3,h4,p,x1,x2,x3,cmbS,q,x4,e40]
    ·rcases y3 with ⟨y3,y4⟩ | ⟨y3,y4⟩
     ·simp [h1,h2,h3,h4,p,x1,x2,x3,y1,y2,y3,cmbS,q,x4,y4,e40]
     ·simp [h1,h2,h3,h4,p,x1,x2,x3,y1,y2,y3,cmbS,q,x4,y4,e47,e43]
  ·rcases or_four hm hn with ⟨p,q⟩ | ⟨p,q⟩
   ·rcases x3 with ⟨x3,x4⟩ | ⟨x3,x4⟩
    ·simp [h1,h2,h3,h4,p,x1,x2,x3,cmbS,q,x4,e00]
    ·rcases y3 with ⟨y3,y4⟩ | ⟨y3,y4⟩
     ·simp [h1,h2,h3,h4,p,x1,x2,x3,y1,y2,y3,cmbS,q,x4,y4,e00]
     ·simp [h1,h2,h3,h4,p,x1,x2,x3,y1,y2,y3,cmbS,q,x4,y4,e7,e3]
   ·rcases x3 with ⟨x3,x4⟩ | ⟨x3,x4⟩
    ·simp [h1,h2,h3,h4,p,x1,x2,x3,cmbS,q,x4,e40]
    ·rcases y3 with ⟨y3,y4⟩ | ⟨y3,y4⟩
     ·simp [h1,h2,h3,h4,p,x1,x2,x3,y1,y2,y3,cmbS,q,x4,y4,e40]
     ·simp [h1,h2,h3,h4,p,x1,x2,x3,y1,y2,y3,cmbS,q,x4,y4,e47,e43]
  ·rcases or_four hm hn with ⟨p,q⟩ | ⟨p,q⟩
   ·rcases x3 with ⟨x3,x4⟩ | ⟨x3,x4⟩
    ·simp [h1,h2,h3,h4,p,x1,x2,x3,cmbS,q,x4,e00]
    ·rcases y3 with ⟨y3,y4⟩ | ⟨y3,y4⟩
     ·simp [h1,h2,h3,h4,p,x1,x2,x3,y1,y2,y3,cmbS,q,x4,y4,e00]
     ·simp [h1,h2,h3,h4,p,x1,x2,x3,y1,y2,y3,cmbS,q,x4,y4,e7,e3]
   ·rcases x3 with ⟨x3,x4⟩ | ⟨x3,x4⟩
    ·simp [h1,h2,h3,h4,p,x1,x2,x3,cmbS,q,x4,e40]
    ·rcases y3 with ⟨y3,y4⟩ | ⟨y3,y4⟩
     ·simp [h1,h2,h3,h4,p,x1,x2,x3,y1,y2,y3,cmbS,q,x4,y4,e40]
     ·simp [h1,h2,h3,h4,p,x1,x2,x3,y1,y2,y3,cmbS,q,x4,y4,e47,e43]
 ·have k3:¬ k=3:=by omega
  have k4:¬ k=4:=by omega
  have k5:¬ k=5:=by omega
  rcases or_four hm hn with ⟨p,q⟩ | ⟨p,q⟩
  ·rcases x3 with ⟨x3,x4⟩ | ⟨x3,x4⟩
   ·simp [h1,h2,h3,h4,p,x1,x2,x3,cmbS,q,x4,e00,k3,k4,k5,k6,k8,k9]
   ·rcases y3 with ⟨y3,y4⟩ | ⟨y3,y4⟩
    ·simp [h1,h2,h3,h4,p,x1,x2,x3,y1,y2,y3,cmbS,q,x4,y4,e00,k3,k4,k5,k6,k8,k9]
    ·simp [h1,h2,h3,h4,p,x1,x2,x3,y1,y2,y3,cmbS,q,x4,y4,e7,e3,k3,k4,k5,k6,k8,k9]
  ·rcases x3 with ⟨x3,x4⟩ | ⟨x3,x4⟩
   ·simp [h1,h2,h3,h4,p,x1,x2,x3,cmbS,q,x4,e40,k3,k4,k5,k6,k8,k9]
   ·rcases y3 with ⟨y3,y4⟩ | ⟨y3,y4⟩
    ·simp [h1,h2,h3,h4,p,x1,x2,x3,y1,y2,y3,cmbS,q,x4,y4,e40,k3,k4,k5,k6,k8,k9]
    ·simp [h1,h2,h3,h4,p,x1,x2,x3,y1,y2,y3,cmbS,q,x4,y4,e47,e43,k3,k4,k5,k6,k8,k9]
end Go.Proofs.YtjcjpbjpbbdnlaaGreat.P

namespace Go.Av
theorem Ex.wf_shape {w:Int} {e:Ex} (h:e.wf w=true):(e.kind=1∧0≤e.col∧e.col < w∧e.kids=[])∨(e.kind=2∧e.kids=[])∨((e.kind=10∨e.kind=11)∧∃ x,e.kids=[x]∧x.wf w=true)∨((3≤e.kind∧e.kind≤9)∧∃ x y,e.kids=[x,y]∧x.wf w=true∧y.wf w=true):=by
 have hk:∀ x∈e.kids,x.wf w=true:=fun x hx=>Ex.wf_kids h hx
 by_cases h1:e.kind=1
 ·have:=Ex.wf_col h h1; exact .inl ⟨h1,this.1,this.2.1,this.2.2⟩
 rw [Ex.wf_eq] at h
 simp only [Bool.and_eq_true,decide_eq_true_eq] at h
 have hl:=h.1
 unfold kidsK at hl
 split at hl
 ·rename_i hc
  exact .inr (.inl ⟨by omega,List.length_eq_zero_iff.1 (by omega)⟩)
 ·split at hl
  ·rename_i hc
   obtain ⟨x,hx⟩:=list_one (show e.kids.length=1 by omega)
   exact .inr (.inr (.inl ⟨hc,x,hx,hk x (by simp [hx])⟩))
  ·split at hl
   ·rename_i hc
    obtain ⟨x,y,hx⟩:=list_two (show e.kids.length=2 by omega)
    exact .inr (.inr (.inr ⟨hc,x,y,hx,hk x (by simp [hx]),hk y (by simp [hx])⟩))
   ·omega
theorem outS_ok {W : Int} (st : List Int) (hl : (st.length : Int) = W) (hs : ∀ a ∈ st, okS a) : ∀ e : Ex, e.wf W = true → okS (outS st e) := by
  intro e
  induction e using Ex.ind with
  | h k c v ks ih =>
    intro hw
    rw [outS_eq]
    rcases Ex.wf_shape hw with ⟨h1, h2, h3, h4⟩ | ⟨h1, h2⟩ | ⟨h1, x, h2, h3⟩ | ⟨h1, x, y, h2, h3, h4⟩
    · rw [if_pos h1]
      generalize Ex.col (.mk k c v ks) = cc at *
      have hlt : cc.toNat < st.length := by omega
      rw [List.getElem?_eq_getElem hlt]
      exact hs _ (List.getElem_mem hlt)
    · rw [if_neg (by omega), if_pos h1]; exact stV_ok _
    · have hx := ih x (by simp only [Ex.kids] at h2; simp [h2]) h3
      obtain ⟨n, hn⟩ := Int.eq_ofNat_of_zero_le (show 0 ≤ outS st x by have := hx.1; omega)
      have ht := notS_tab ⟨n, by have := hx.2; omega⟩ (by have := hx.1; simp; omega)
      rw [if_neg (by omega), if_neg (by omega), h2]
      simp only [List.getElem?_cons_zero, Option.map_some, Option.getD_some, hn]
      rcases h1 with h1 | h1
      · rw [if_pos h1]; exact ht.1
      · rw [if_neg (by omega), if_pos h1]; exact ht.2
    · have hx := ih x (by simp only [Ex.kids] at h2; simp [h2]) h3
      have hy := ih y (by simp only [Ex.kids] at h2; simp [h2]) h4
      rw [if_neg (by omega), if_neg (by omega), if_neg (by omega), if_neg (by omega), h2]
      exact cmbS_ok hx hy
end Go.Av
namespace Go.Proofs.YtjcjpbjpbbdnlaaGreat.P
open Go Go.Av
set_option maxRecDepth 4000
set_option maxHeartbeats 8000000
theorem seven {a:Int} (h:okS a):a=1∨a=2∨a=3∨a=4∨a=5∨a=6∨a=7:=by have:=h.1; have:=h.2; omega
theorem icomb_all {k a b:Int} (hk:3≤k) (ha:okS a) (hb:okS b):callA C0 171 [.int k, .int a, .int b] []=some (.int (cmbS k a b),[]):=by
 by_cases h:k=8∨k=9
 ·exact combinedStates_and h ha hb
 ·obtain ⟨m,rfl⟩:=Int.eq_ofNat_of_zero_le (show 0≤a by have:=ha.1; omega)
  obtain ⟨n,rfl⟩:=Int.eq_ofNat_of_zero_le (show 0≤b by have:=hb.1; omega)
  exact combinedStates_rest ⟨hk,by omega,by omega⟩ (by have:=ha.2; omega) (by have:=hb.2; omega)
theorem ioutcomes_eq {W : Int} (st : List Int) (hl : (st.length : Int) = W) (hs : ∀ a ∈ st, okS a) : ∀ e : Ex, e.wf W = true → callA C0 157 [.i (.iref e.cells), .i (.isl (intsL st))] [] = some (.int (outS st e), []) := by
  intro e
  induction e using Ex.ind with
  | h k c v ks ih =>
    intro hw
    have hall := outS_ok st hl hs
    rw [callA_eq rfl Tryz.func157 rfl rfl, Ex.cells_eq, outS_eq]
    rcases Ex.wf_shape hw with ⟨h1, h2, h3, h4⟩ | ⟨h1, h2⟩ | ⟨h1, x, h2, h3⟩ | ⟨h1, x, y, h2, h3, h4⟩
    · generalize Ex.mk k c v ks = e at *
      have hlt : e.col.toNat < st.length := by omega
      have h5 := List.getElem?_eq_getElem hlt
      generalize st[e.col.toNat] = s at h5
      have r2 := intsL_nth h5
      obtain ⟨_, h6⟩ := List.getElem?_eq_some_iff.1 h5
      simp [h1, h2, r2, h6, show e.col < st.length by omega]
    · generalize Ex.mk k c v ks = e at *
      have hst := istate_eq e.val.null e.val.n
      simp [h1, hst]
    · have hx := ih x (by simp only [Ex.kids] at h2; simp [h2]) h3
      have ho := hall x h3
      generalize Ex.mk k c v ks = e at *
      generalize hso : outS st x = s at hx ho
      rw [Ex.cells_eq] at hx
      rcases h1 with h1 | h1
      · rcases seven ho with rfl | rfl | rfl | rfl | rfl | rfl | rfl <;> (simp [h1, h2, Ex.cellsL, Ex.cells_eq x, hx, hso]; try decide)
      · rcases seven ho with rfl | rfl | rfl | rfl | rfl | rfl | rfl <;> (simp [h1, h2, Ex.cellsL, Ex.cells_eq x, hx, hso]; try decide)
    · have hx := ih x (by simp only [Ex.kids] at h2; simp [h2]) h3
      have hy := ih y (by simp only [Ex.kids] at h2; simp [h2]) h4
      have ho := hall x h3
      have hp := hall y h4
      generalize Ex.mk k c v ks = e at *
      have hc := icomb_all (k := e.kind) h1.1 ho hp
      generalize hso : outS st x = s at hx ho hc
      generalize hto : outS st y = t at hy hp hc
      rw [Ex.cells_eq] at hx hy
      have q1 : ¬ e.kind = 1 := by omega
      have q2 : ¬ e.kind = 2 := by omega
      have q3 : ¬ e.kind = 10 := by omega
      have q4 : ¬ e.kind = 11 := by omega
      simp [q1, q2, q3, q4, h2, Ex.cellsL, Ex.cells_eq x, Ex.cells_eq y, hx, hy, hc, hso, hto]
end Go.Proofs.YtjcjpbjpbbdnlaaGreat.P

namespace Go.Av
theorem intsL_rep (n:Nat) (x:Int):intsL (List.replicate n x)=List.replicate n [.int x]:=by
 induction n with
 | zero=>rfl
 | succ n ih=>simp [List.replicate_succ,intsL,ih]
theorem intsL_set:∀ (l:List Int) (i:Nat) (x:Int),(intsL l).set i [.int x]=intsL (l.set i x)
 | [],i,x=>by simp [intsL]
 | a :: l,0,x=>by simp [intsL]
 | a :: l,i + 1,x=>by simp [intsL,intsL_set l i x]
def st1 (n i:Nat):List Int:=List.replicate i 7 ++ List.replicate (n - i) 0
def st2 (p m i:Nat):List Int:=List.replicate p 7 ++ (List.replicate i 4 ++ List.replicate (m - i) 7)
theorem rep_nth {a b:Int} {n i:Nat} (h:i < n):(List.replicate i a ++ List.replicate (n - i) b)[i]?=some b:=by
 rw [List.getElem?_append_right (by simp)]
 have:0 < n - i:=by omega
 simp [List.getElem?_replicate,this]
theorem rep_set {a b:Int} {n i:Nat} (h:i < n):(List.replicate i a ++ List.replicate (n - i) b).set i a=List.replicate (i + 1) a ++ List.replicate (n - (i + 1)) b:=by
 rw [List.set_append_right _ _ (by simp)]
 rw [show n - i=(n - (i + 1)) + 1 by omega,List.replicate_succ,List.replicate_succ']
 simp
theorem st1_nth {n i:Nat} (h:i < n):(st1 n i)[i]?=some 0:=rep_nth h
theorem st1_set {n i:Nat} (h:i < n):(st1 n i).set i 7=st1 n (i + 1):=rep_set h
theorem st2_nth {p m i:Nat} (h:i < m):(st2 p m i)[p + i]?=some 7:=by
 unfold st2
 rw [List.getElem?_append_right (by simp)]
 simpa using rep_nth (a:=4) (b:=7) h
theorem st2_set {p m i:Nat} (h:i < m):(st2 p m i).set (p + i) 4=st2 p m (i + 1):=by
 unfold st2
 rw [List.set_append_right _ _ (by simp)]
 simp only [List.length_replicate,Nat.add_sub_cancel_left]
 rw [rep_set h]
theorem st1_all {p m:Nat}:st1 (p + m) (p + m)=st2 p m 0:=by
 simp [st1,st2,List.replicate_append_replicate]
theorem st2_all (p m:Nat):st2 p m m=nulls ((p + m:Nat):Int) p:=by
 unfold st2 nulls
 apply List.ext_getElem?
 intro i
 simp only [Nat.sub_self,List.replicate_zero,List.append_nil,Int.toNat_natCast,List.getElem?_map]
 by_cases h:i < p
 ·rw [List.getElem?_append_left (by simpa using h)]
  simp [h,show i < p + m by omega]
 ·rw [List.getElem?_append_right (by simp; omega)]
  by_cases h2:i < p + m
  ·simp [h2,show i - p < m by omega,show p≤i by omega]
  ·simp [h2,show ¬ i - p < m by omega]
@[simp] theorem st2_length {p m i:Nat} (h:i≤m):(st2 p m i).length=p + m:=by simp [st2]; omega
def colsI (p m:Nat):List Int:=(List.range m).map fun (i:Nat)=>((p + i:Nat):Int)
@[simp] theorem colsI_length (p m:Nat):(colsI p m).length=m:=by simp [colsI]
theorem colsI_nth {p m i:Nat} (h:i < m):(colsI p m)[i]?=some ((p + i:Nat):Int):=by simp [colsI,h]
theorem colsI_succ (p m:Nat):colsI p (m + 1)=colsI p m ++ [((p + m:Nat):Int)]:=by simp [colsI,List.range_succ]
theorem nulls_ok (W left:Int):∀ a∈nulls W left,okS a:=by
 intro a ha
 unfold nulls at ha
 obtain ⟨i,-,rfl⟩:=List.mem_map.1 ha
 unfold okS
 split<;>omega
theorem nulls_length (W left:Int):(nulls W left).length=W.toNat:=by simp [nulls]
theorem two_tab:∀ a:Fin 8,(a.val &&& 2=0∧hasS a.val 2=false)∨(a.val &&& 2=2∧hasS a.val 2=true):=by decide
end Go.Av
namespace Go.Proofs.YtjcjpbjpbbdnlaaGreat.P
open Go Go.Av
set_option maxRecDepth 4000
set_option maxHeartbeats 8000000
def RJ1 (e:Ex) (l:List Int) (n:Nat) (i:Nat):AS :=
 {env:=[(0, .i (.agg [.int e.kind, .int e.col, .bool e.val.null, .int e.val.n, .isl (Ex.cellsL e.kids)])),(1, .int n),(2, .i (.isl (intsL l))),(3, .own 0 0),(6, .bool false),(7, .osl 1 1 0 n),(8,jk i (.int (i - 1))),(10, .junk),(14, .bool false),(18, .int n),(19, .int i),(20,jk i (.bool true)),(26, .junk),(27, .junk),(28, .junk),(29, .junk),(38, .junk)],
  st:=[some (.box [.int e.kind, .int e.col, .bool e.val.null, .int e.val.n, .i (.isl (Ex.cellsL e.kids))]),some (.arr 1 (intsL (st1 n i)))] }
def RJ2 (e:Ex) (n p m:Nat) (i:Nat):AS :=
 {env:=[(0, .i (.agg [.int e.kind, .int e.col, .bool e.val.null, .int e.val.n, .isl (Ex.cellsL e.kids)])),(1, .int n),(2, .i (.isl (intsL (colsI p m)))),(3, .own 0 0),(6, .bool false),(7, .osl 1 1 0 n),(8, .int (n - 1)),(10,jk i (.int ((p:Int) + i - 1))),(14, .bool false),(18, .int n),(19, .int n),(20, .bool false),(26, .i (.isl (intsL (colsI p m)))),(27, .int m),(28, .int i),(29,jk i (.bool true)),(38,jk i (.bool true))],
  st:=[some (.box [.int e.kind, .int e.col, .bool e.val.null, .int e.val.n, .i (.isl (Ex.cellsL e.kids))]),some (.arr 1 (intsL (st2 p m i)))] }
theorem irejects_eq (e:Ex) {n p m:Nat} (hn:n=p + m) (h:e.ok n=true):callA C0 134 [.i (.agg e.cells), .int n, .i (.isl (intsL (colsI p m)))] []=some (.bool (rejP e n p),[]):=by
 have hok:=ok_eq n e
 rw [h] at hok
 obtain ⟨hw,g1,g2⟩:=Ex.ok_wf h
 have hlen:((nulls n p).length:Int)=(n:Int):=by rw [nulls_length]; omega
 have ho:=ioutcomes_eq (nulls n p) hlen (nulls_ok _ _) e hw
 have hs:=outS_ok (nulls n p) hlen (nulls_ok _ _) e hw
 rw [callA_eq rfl Tryz.func134 rfl rfl]
 unfold rejP
 generalize outS (nulls n p) e=s at ho hs
 obtain ⟨s,rfl⟩:=Int.eq_ofNat_of_zero_le (show 0≤s by have:=hs.1; omega)
 have hs8:s < 8:=by have:=hs.2; omega
 have hall:=st2_all p m
 rw [← hn] at hall
 rw [← hall] at ho
 rw [Ex.cells_eq] at *
 have hb:8 * (n:Int)≤281474976710656:=by omega
 have hz:=intsL_rep n 0
 have hz1:st1 n 0=List.replicate n 0:=by simp [st1]
 have hs1:st1 n n=st2 p m 0:=by rw [hn]; exact st1_all
 have hl2:∀ i,i≤m→(st2 p m i).length=n:=fun i hi=>by rw [st2_length hi,hn]
 have hl3:(st2 p m m).take n=st2 p m m:=List.take_of_length_le (by rw [hl2 m (Nat.le_refl m)]; exact Nat.le_refl n)
 simp [hok,hb]
 rw [loop_to (RJ1 e (colsI p m) n) n (by simp [RJ1,hz1,hz])]
 ·rw [execA_loop]
  simp [RJ1]
  rw [loop_to (RJ2 e n p m) m (by simp [RJ2,hs1,jk_pos (show n≠0 by omega)])]
  ·rw [execA_loop]
   have h2:=two_tab ⟨s,hs8⟩
   rcases h2 with ⟨h2,h3⟩ | ⟨h2,h3⟩
   ·simp at h2 h3
    simp [RJ2,ho,mod8 hs8,h2,h3,hl2,hl3]
   ·simp at h2 h3
    simp [RJ2,ho,mod8 hs8,h2,h3,hl2,hl3]
  ·intro i hi
   have h3:=colsI_nth (p:=p) hi
   have r2:=intsL_nth h3
   have r3:=intsL_nth (st2_nth (p:=p) hi)
   have hset:=st2_set (p:=p) hi
   have hin:((p:Int) + i) < n:=by omega
   have hl:=hl2 i (by omega)
   have hin2:p + i < n:=by omega
   have hin0:0≤(p:Int) + i:=by omega
   have w2:IntKind.i64.wrap ((i:Int) + 1)=i + 1:=wrap64 (by omega) (by omega)
   simp [RJ2,hi,r2,r3,w2,intsL_set,hset,hin,hin0,hl,show ((p:Int) + i).toNat=p + i by omega]
   omega
 ·intro i hi
  have r3:=intsL_nth (st1_nth hi)
  have hset:=st1_set hi
  have w2:IntKind.i64.wrap ((i:Int) + 1)=i + 1:=wrap64 (by omega) (by omega)
  simp [RJ1,hi,r3,w2,intsL_set,hset]
end Go.Proofs.YtjcjpbjpbbdnlaaGreat.P

namespace Go.Av
theorem nulls_nth {n p i:Nat} (h:i < n):(nulls n p)[i]?=some (if p≤i then 4 else 7):=by
 have:i < (nulls (n:Int) p).length:=by rw [nulls_length]; simpa using h
 unfold nulls
 simp [h]
end Go.Av
namespace Go.Proofs.YtjcjpbjpbbdnlaaGreat.P
open Go Go.Av
set_option maxRecDepth 4000
set_option maxHeartbeats 8000000
def CLX (n p:Nat) (i:Nat):AS :=
 {env:=[(0, .int p),(1, .int n),(4, .nils),(5, .osl 0 1 0 i),(6, .int ((p:Int) + i)),(11,jk i (.bool true))],st:=[some (.arr 1 (intsL (colsI p i)))] }
theorem columnList_eq {n p m:Nat} (hn:n=p + m) (hb:n < 1000):callA C0 164 [.int p, .int n] []=some (.i (.isl (intsL (colsI p m))),[]):=by
 rw [callA_eq rfl Tryz.func164 rfl rfl]
 simp
 rw [loop_to (CLX n p) m (by simp [CLX,colsI,intsL])]
 ·rw [execA_loop]
  have h1:¬ ((p:Int) + m < n):=by omega
  have h2:(colsI p m).take m=colsI p m:=List.take_of_length_le (by simp)
  simp [CLX,h1,h2]
 ·intro i hi
  have h1:((p:Int) + i < n):=by omega
  have w2:IntKind.i64.wrap ((p:Int) + i + 1)=(p:Int) + (i + 1):=by rw [wrap64 (by omega) (by omega)]; omega
  have hl:(i + 1) * 8≤140737488355328:=by omega
  have h2:(colsI p i).take i=colsI p i:=List.take_of_length_le (by simp)
  simp [CLX,h1,w2,hl,h2,colsI_succ,intsL_snoc]
def nsS (p i k:Nat):Int:=if p≤i∧i < p + k then 4 else 7
def nsB (p m i:Nat):AV:=if m=0 then .junk else jk i (.bool (decide ((p:Int) + (m - 1)=i - 1)))
@[simp] theorem idsOf_nsB (p m i:Nat):idsOf (nsB p m i)=[]:=by unfold nsB; split<;>simp
@[simp] theorem ren_nsB (r:Nat→Option Nat) (p m i:Nat):ren r (nsB p m i)=nsB p m i:=by unfold nsB; split<;>simp
def NSO (n p m:Nat) (i:Nat):AS :=
 {env:=[(0, .int n),(1, .i (.isl (intsL (colsI p m)))),(4, .nils),(5, .osl 0 1 0 i),(6, .int i),(7,jk i (.int (nsS p (i - 1) m))),(8,jk i (.int m)),(12,jk i (.bool true)),(18,jk i (.bool false)),(26,nsB p m i)],st:=[some (.arr 1 (intsL ((nulls n p).take i)))] }
def NSI (n p m:Nat) (i k:Nat):AS :=
 {env:=[(0, .int n),(1, .i (.isl (intsL (colsI p m)))),(4, .nils),(5, .osl 0 1 0 i),(6, .int i),(7, .int (nsS p i k)),(8, .int k),(12, .bool true),(18,if k=0 then jk i (.bool false) else .bool true),(26,if k=0 then nsB p m i else .bool (decide ((p:Int) + (k - 1)=i)))],st:=[some (.arr 1 (intsL ((nulls n p).take i)))] }
theorem nullStates_eq {n p m:Nat} (hn:n=p + m) (hb:n < 1000):callA C0 175 [.int n, .i (.isl (intsL (colsI p m)))] []=some (.i (.isl (intsL (nulls n p))),[]):=by
 rw [callA_eq rfl Tryz.func175 rfl rfl]
 have hnl:(nulls (n:Int) p).length=n:=by rw [nulls_length]; omega
 simp
 rw [loop_to (NSO n p m) n (by simp [NSO,intsL,nsB])]
 ·rw [execA_loop]
  have h2:(nulls (n:Int) p).take n=nulls n p:=List.take_of_length_le (by omega)
  simp [NSO,h2,hnl]
 ·intro i hi
  have w2:IntKind.i64.wrap ((i:Int) + 1)=i + 1:=wrap64 (by omega) (by omega)
  have h3:=nulls_nth (p:=p) hi
  have htk:=take_snoc h3
  have hl:(i + 1) * 8≤140737488355328:=by omega
  have hsm:nsS p i m=if p≤i then 4 else 7:=by unfold nsS; by_cases h:p≤i<;>simp [h]; omega
  have hlt:((nulls (n:Int) p).take i).length=i:=by simp [hnl]; omega
  have htt:((nulls (n:Int) p).take i).take i=(nulls (n:Int) p).take i:=List.take_of_length_le (by omega)
  simp only [← hsm] at htk
  simp [NSO,hi]
  rw [loop_to (NSI n p m i) m (by simp [NSI,nsS]; try omega)]
  ·rw [execA_loop]
   by_cases hm:m=0
   ·subst hm
    simp [NSI,NSO,w2,hl,htk,intsL_snoc,hlt,htt,nsB]
   ·by_cases h0:i=0
    ·subst h0
     simp [NSI,NSO,hl,htk,intsL_snoc,nsB,hm,intsL]
    ·simp [NSI,NSO,w2,hl,htk,intsL_snoc,hlt,htt,nsB,hm]
  ·intro k hk
   have h5:=colsI_nth (p:=p) hk
   have r2:=intsL_nth h5
   have w3:IntKind.i64.wrap ((k:Int) + 1)=k + 1:=wrap64 (by omega) (by omega)
   have e1:∀ x:AV,(if (k + 1=0) then x else (AV.bool (decide ((p:Int) + ((k + 1:Nat) - 1)=i))))=AV.bool (decide ((p:Int) + k=i)):=by intro x; simp
   by_cases he:(p:Int) + k=i
   ·have hs:nsS p i (k + 1)=4:=by unfold nsS; rw [if_pos (by omega)]
    by_cases k0:k=0
    ·subst k0; simp at he; simp [NSI,hk,r2,hs,he]
    ·simp [NSI,hk,r2,w3,hs,he,k0]
   ·have hs:nsS p i (k + 1)=nsS p i k:=by
     unfold nsS
     by_cases hp:p≤i∧i < p + k
     ·rw [if_pos hp,if_pos (by omega)]
     ·rw [if_neg hp,if_neg (by omega)]
    by_cases k0:k=0
    ·subst k0; simp at he; simp [NSI,hk,r2,hs,he]
    ·simp [NSI,hk,r2,w3,hs,he,k0]
end Go.Proofs.YtjcjpbjpbbdnlaaGreat.P

namespace Go.Av
def valX (x:Int):Val:=⟨decide (x=4),if x=2 then 1 else 0⟩
def tsI (k a b x s:Int) (j:Nat):Int:=(([1,2,4]:List Int).take j).foldl (fun s y=>if (hasS a x && hasS b y)=true then orS s (stV (Val.cmb k (valX x) (valX y))) else s) s
def tsO (k a b:Int) (i:Nat):Int:=(([1,2,4]:List Int).take i).foldl (fun s x=>tsI k a b x s 3) 0
theorem tsI_low {k a b x s : Int} (hs : lowN s) (j : Nat) : lowN (tsI k a b x s j) := by
  unfold tsI
  generalize (([1, 2, 4] : List Int).take j) = l
  induction l generalizing s with
  | nil => simpa using hs
  | cons y l ih =>
    simp only [List.foldl_cons]
    apply ih
    split
    · exact orS_low hs (stV_low _)
    · exact hs
theorem tsO_low {k a b:Int} (i:Nat):lowN (tsO k a b i):=by
 unfold tsO
 have:∀ (l:List Int) (s:Int),lowN s→lowN (l.foldl (fun s x=>tsI k a b x s 3) s):=by
  intro l
  induction l with
  | nil=>intro s hs; simpa using hs
  | cons y l ih=>intro s hs; exact ih _ (tsI_low hs 3)
 exact this _ _ ⟨0,rfl,by omega⟩
theorem ts_tab:∀ a b:Fin 8,tsO 8 a.val b.val 3=cmbS 8 a.val b.val∧tsO 9 a.val b.val 3=cmbS 9 a.val b.val:=by decide
end Go.Av
namespace Go.Proofs.YtjcjpbjpbbdnlaaGreat.P
open Go Go.Av
set_option maxRecDepth 4000
set_option maxHeartbeats 8000000
theorem struth_eq (b:Bool) (n:Int):callA C0 193 [.i (.agg [.bool b, .int n])] []=some (.int (if b=true then 2 else if n=0 then 0 else 1),[]):=by
 rw [callA_eq rfl Tryz.func193 rfl rfl]
 cases b
 ·by_cases h:n=0<;>simp [h]
 ·simp
theorem snot_eq (t:Int) (h:0≤t∧t≤2):callA C0 194 [.int t] []=some (.int (if t=2 then 2 else 1 - t),[]):=by
 rw [callA_eq rfl Tryz.func194 rfl rfl]
 have:t=0∨t=1∨t=2:=by omega
 rcases this with rfl | rfl | rfl<;>simp
theorem sand_eq (s t:Int):callA C0 192 [.int s, .int t] []=some (.int (if s=0∨t=0 then 0 else if s=1∧t=1 then 1 else 2),[]):=by
 rw [callA_eq rfl Tryz.func192 rfl rfl]
 by_cases h1:s=0
 ·simp [h1]
 ·by_cases h2:t=0
  ·simp [h1,h2]
  ·by_cases h3:s=1
   ·by_cases h4:t=1
    ·simp [h3,h4]
    ·simp [h3,h4,h2]
   ·simp [h1,h2,h3]
theorem sof_eq (t:Int):callA C0 191 [.int t] []=some (.i (.agg [.bool (decide (t=2)), .int (if t=2 then 0 else t)]),[]):=by
 rw [callA_eq rfl Tryz.func191 rfl rfl]
 by_cases h:t=2
 ·subst h; simp
 ·simp [h]
theorem scomb_eq {k x y:Int} (hk:k=8∨k=9) (hx:x=1∨x=2∨x=4) (hy:y=1∨y=2∨y=4):callA C0 189 [.int k, .i (.agg [.bool (valX x).null, .int (valX x).n]), .i (.agg [.bool (valX y).null, .int (valX y).n])] []=some (.i (.agg [.bool (Val.cmb k (valX x) (valX y)).null, .int (Val.cmb k (valX x) (valX y)).n]),[]):=by
 rw [callA_eq rfl Tryz.func189 rfl rfl]
 rcases hk with rfl | rfl<;>rcases hx with rfl | rfl | rfl<;>rcases hy with rfl | rfl | rfl<;>(simp [valX,struth_eq,snot_eq,sand_eq,sof_eq]; try decide)
end Go.Proofs.YtjcjpbjpbbdnlaaGreat.P

namespace Go.Proofs.YtjcjpbjpbbdnlaaGreat.P
open Go Go.Av
set_option maxRecDepth 4000
set_option maxHeartbeats 8000000
@[simp] theorem wr8:IntKind.i64.wrap 8=8:=by decide
def pw (i:Nat):Int:=if i=0 then 1 else if i=1 then 2 else if i=2 then 4 else 8
def TSO (k:Int) (a b:Nat) (i:Nat):AS :=
 {env:=[(0, .int k),(1, .int a),(2, .int b),(6, .int 0),(7, .int (tsO k a b i)),(8, .int (pw i)),(9,jk i (.int 8)),(11,jk i (.bool true)),(15,jk i (.bool false)),(29,jk i (.bool (hasS a (pw (i - 1)) && hasS b 4)))],st:=[] }
def TSI (k:Int) (a b:Nat) (i:Nat) (j:Nat):AS :=
 {env:=[(0, .int k),(1, .int a),(2, .int b),(6, .int 0),(7, .int (tsI k a b (pw i) (tsO k a b i) j)),(8, .int (pw i)),(9, .int (pw j)),(11, .bool true),(15,if j=0 then jk i (.bool false) else .bool true),(29,if j=0 then jk i (.bool (hasS a (pw (i - 1)) && hasS b 4)) else .bool (hasS a (pw i) && hasS b (pw (j - 1))))],st:=[] }
theorem has_one {a:Nat} (ha:a < 8):IntKind.i64.wrap (a:Int)=a∧(hasS a 1=decide ((a:Int).tmod 2=1)):=by
 refine ⟨wrap64 (by omega) (by omega),?_⟩
 unfold hasS
 rw [Int.tmod_eq_emod_of_nonneg (by omega),Int.ediv_one]
theorem has_div {a:Nat} (ha:a < 8) {x:Int} (hx:0 < x) (hx8:x < 8):IntKind.i64.wrap ((a:Int) / x)=(a:Int) / x∧(hasS a x=decide (((a:Int) / x).tmod 2=1)):=by
 have h2:0≤(a:Int) / x:=Int.ediv_nonneg (by omega) (by omega)
 have h3:(a:Int) / x≤a:=Int.ediv_le_self _ (by omega)
 refine ⟨wrap64 (by omega) (by omega),?_⟩
 unfold hasS
 rw [Int.tmod_eq_emod_of_nonneg h2]
theorem valueX_eq (x:Int):callA C0 190 [.int x] []=some (.i (.agg [.bool (valX x).null, .int (valX x).n]),[]):=valueOf_eq x
theorem tsI_succ {k a b x s:Int} {j:Nat} {y:Int} (h:(([1,2,4]:List Int))[j]?=some y):tsI k a b x s (j + 1)=if (hasS a x && hasS b y)=true then orS (tsI k a b x s j) (stV (Val.cmb k (valX x) (valX y))) else tsI k a b x s j:=by
 unfold tsI; rw [take_snoc h,List.foldl_append]; rfl
theorem tsO_succ {k a b:Int} {i:Nat} {x:Int} (h:(([1,2,4]:List Int))[i]?=some x):tsO k a b (i + 1)=tsI k a b x (tsO k a b i) 3:=by
 unfold tsO; rw [take_snoc h,List.foldl_append]; rfl
theorem truthStates_8 {a b:Nat} (ha:a < 8) (hb:b < 8):callA C0 182 [.int 8, .int a, .int b] []=some (.int (tsO 8 a b 3),[]):=by
 rw [callA_eq rfl Tryz.func182 rfl rfl]
 obtain ⟨a1,b1⟩:=has_one ha
 obtain ⟨a2,b2⟩:=has_div ha (x:=2) (by omega) (by omega)
 obtain ⟨a4,b4⟩:=has_div ha (x:=4) (by omega) (by omega)
 obtain ⟨c1,d1⟩:=has_one hb
 obtain ⟨c2,d2⟩:=has_div hb (x:=2) (by omega) (by omega)
 obtain ⟨c4,d4⟩:=has_div hb (x:=4) (by omega) (by omega)
 simp
 rw [loop_to (TSO 8 a b) 3 (by simp [TSO,tsO,pw])]
 ·rw [execA_loop]
  simp [TSO,pw]
 ·intro i hi
  have hi3:i=0∨i=1∨i=2:=by omega
  rcases hi3 with rfl | rfl | rfl
  ·have hsc:=tsO_succ (k:=8) (a:=a) (b:=b) (i:=0) (x:=1) rfl
   have hlo:=tsO_low (k:=8) (a:=a) (b:=b) 0
   simp [TSO,pw]
   rw [loop_to (TSI 8 a b 0) 3 (by simp [TSI,tsI,pw])]
   ·rw [execA_loop]
    simp [TSI,TSO,pw,hsc]
   ·intro j hj
    have hj3:j=0∨j=1∨j=2:=by omega
    rcases hj3 with rfl | rfl | rfl
    ·have hs:=tsI_succ (k:=8) (a:=a) (b:=b) (x:=1) (s:=tsO 8 a b 0) (j:=0) (y:=1) rfl
     obtain ⟨m,m1,m2⟩:=tsI_low (k:=8) (a:=a) (b:=b) (x:=1) hlo 0
     obtain ⟨n,n1,n2⟩:=stV_low (Val.cmb 8 (valX 1) (valX 1))
     have hcm:=scomb_eq (k:=8) (x:=1) (y:=1) (by omega) (by omega) (by omega)
     have hst:=sstate_eq (Val.cmb 8 (valX 1) (valX 1)).null (Val.cmb 8 (valX 1) (valX 1)).n
     rw [show stV ⟨(Val.cmb 8 (valX 1) (valX 1)).null,(Val.cmb 8 (valX 1) (valX 1)).n⟩=stV (Val.cmb 8 (valX 1) (valX 1)) from rfl,n1] at hst
     rw [m1,n1,orS_nat] at hs
     by_cases p:hasS a 1=true
     ·by_cases q:hasS b 1=true
      ·rw [p,q] at hs
       simp only [Bool.and_self,if_true] at hs
       have p':=p; have q':=q
       rw [b1,decide_eq_true_eq] at p'
       rw [d1,decide_eq_true_eq] at q'
       simp [TSI,pw,a1,c1,p',q',p,q,valueX_eq,hcm,hst,m1,mod8 m2,mod8 n2,or8 m2 n2,hs]
      ·have q2:hasS b 1=false:=by simpa using q
       rw [p,q2] at hs
       simp only [Bool.and_false,Bool.false_eq_true,if_false] at hs
       have p':=p; have q':=q
       rw [b1,decide_eq_true_eq] at p'
       rw [d1,decide_eq_true_eq] at q'
       simp [TSI,pw,a1,c1,p',q',p,q2,m1,hs]
     ·have p2:hasS a 1=false:=by simpa using p
      rw [p2] at hs
      simp only [Bool.false_and,Bool.false_eq_true,if_false] at hs
      have p':=p
      rw [b1,decide_eq_true_eq] at p'
      simp [TSI,pw,a1,p',p2,m1,hs]
    ·have hs:=tsI_succ (k:=8) (a:=a) (b:=b) (x:=1) (s:=tsO 8 a b 0) (j:=1) (y:=2) rfl
     obtain ⟨m,m1,m2⟩:=tsI_low (k:=8) (a:=a) (b:=b) (x:=1) hlo 1
     obtain ⟨n,n1,n2⟩:=stV_low (Val.cmb 8 (valX 1) (valX 2))
     have hcm:=scomb_eq (k:=8) (x:=1) (y:=2) (by omega) (by omega) (by omega)
     have hst:=sstate_eq (Val.cmb 8 (valX 1) (valX 2)).null (Val.cmb 8 (valX 1) (valX 2)).n
     rw [show stV ⟨(Val.cmb 8 (valX 1) (valX 2)).null,(Val.cmb 8 (valX 1) (valX 2)).n⟩=stV (Val.cmb 8 (valX 1) (valX 2)) from rfl,n1] at hst
     rw [m1,n1,orS_nat] at hs
     by_cases p:hasS a 1=true
     ·by_cases q:hasS b 2=true
      ·rw [p,q] at hs
       simp only [Bool.and_self,if_true] at hs
       have p':=p; have q':=q
       rw [b1,decide_eq_true_eq] at p'
       rw [d2,decide_eq_true_eq] at q'
       simp [TSI,pw,a1,c2,p',q',p,q,valueX_eq,hcm,hst,m1,mod8 m2,mod8 n2,or8 m2 n2,hs]
      ·have q2:hasS b 2=false:=by simpa using q
       rw [p,q2] at hs
       simp only [Bool.and_false,Bool.false_eq_true,if_false] at hs
       have p':=p; have q':=q
       rw [b1,decide_eq_true_eq] at p'
       rw [d2,decide_eq_true_eq] at q'
       simp [TSI,pw,a1,c2,p',q',p,q2,m1,hs]
     ·have p2:hasS a 1=false:=by simpa using p
      rw [p2] at hs
      simp only [Bool.false_and,Bool.false_eq_true,if_false] at hs
      have p':=p
      rw [b1,decide_eq_true_eq] at p'
      simp [TSI,pw,a1,p',p2,m1,hs]
    ·have hs:=tsI_succ (k:=8) (a:=a) (b:=b) (x:=1) (s:=tsO 8 a b 0) (j:=2) (y:=4) rfl
     obtain ⟨m,m1,m2⟩:=tsI_low (k:=8) (a:=a) (b:=b) (x:=1) hlo 2
     obtain ⟨n,n1,n2⟩:=stV_low (Val.cmb 8 (valX 1) (valX 4))
     have hcm:=scomb_eq (k:=8) (x:=1) (y:=4) (by omega) (by omega) (by omega)
     have hst:=sstate_eq (Val.cmb 8 (valX 1) (valX 4)).null (Val.cmb 8 (valX 1) (valX 4)).n
     rw [show stV ⟨(Val.cmb 8 (valX 1) (valX 4)).null,(Val.cmb 8 (valX 1) (valX 4)).n⟩=stV (Val.cmb 8 (valX 1) (valX 4)) from rfl,n1] at hst
     rw [m1,n1,orS_nat] at hs
     by_cases p:hasS a 1=true
     ·by_cases q:hasS b 4=true
      ·rw [p,q] at hs
       simp only [Bool.and_self,if_true] at hs
       have p':=p; have q':=q
       rw [b1,decide_eq_true_eq] at p'
       rw [d4,decide_eq_true_eq] at q'
       simp [TSI,pw,a1,c4,p',q',p,q,valueX_eq,hcm,hst,m1,mod8 m2,mod8 n2,or8 m2 n2,hs]
      ·have q2:hasS b 4=false:=by simpa using q
       rw [p,q2] at hs
       simp only [Bool.and_false,Bool.false_eq_true,if_false] at hs
       have p':=p; have q':=q
       rw [b1,decide_eq_true_eq] at p'
       rw [d4,decide_eq_true_eq] at q'
       simp [TSI,pw,a1,c4,p',q',p,q2,m1,hs]
     ·have p2:hasS a 1=false:=by simpa using p
      rw [p2] at hs
      simp only [Bool.false_and,Bool.false_eq_true,if_false] at hs
      have p':=p
      rw [b1,decide_eq_true_eq] at p'
      simp [TSI,pw,a1,p',p2,m1,hs]
  ·have hsc:=tsO_succ (k:=8) (a:=a) (b:=b) (i:=1) (x:=2) rfl
   have hlo:=tsO_low (k:=8) (a:=a) (b:=b) 1
   simp [TSO,pw]
   rw [loop_to (TSI 8 a b 1) 3 (by simp [TSI,tsI,pw])]
   ·rw [execA_loop]
    simp [TSI,TSO,pw,hsc]
   ·intro j hj
    have hj3:j=0∨j=1∨j=2:=by omega
    rcases hj3 with rfl | rfl | rfl
    ·have hs:=tsI_succ (k:=8) (a:=a) (b:=b) (x:=2) (s:=tsO 8 a b 1) (j:=0) (y:=1) rfl
     obtain ⟨m,m1,m2⟩:=tsI_low (k:=8) (a:=a) (b:=b) (x:=2) hlo 0
     obtain ⟨n,n1,n2⟩:=stV_low (Val.cmb 8 (valX 2) (valX 1))
     have hcm:=scomb_eq (k:=8) (x:=2) (y:=1) (by omega) (by omega) (by omega)
     have hst:=sstate_eq (Val.cmb 8 (valX 2) (valX 1)).null (Val.cmb 8 (valX 2) (valX 1)).n
     rw [show stV ⟨(Val.cmb 8 (valX 2) (valX 1)).null,(Val.cmb 8 (valX 2) (valX 1)).n⟩=stV (Val.cmb 8 (valX 2) (valX 1)) from rfl,n1] at hst
     rw [m1,n1,orS_nat] at hs
     by_cases p:hasS a 2=true
     ·by_cases q:hasS b 1=true
      ·rw [p,q] at hs
       simp only [Bool.and_self,if_true] at hs
       have p':=p; have q':=q
       rw [b2,decide_eq_true_eq] at p'
       rw [d1,decide_eq_true_eq] at q'
       simp [TSI,pw,a2,c1,p',q',p,q,valueX_eq,hcm,hst,m1,mod8 m2,mod8 n2,or8 m2 n2,hs]
      ·have q2:hasS b 1=false:=by simpa using q
       rw [p,q2] at hs
       simp only [Bool.and_false,Bool.false_eq_true,if_false] at hs
       have p':=p; have q':=q
       rw [b2,decide_eq_true_eq] at p'
       rw [d1,decide_eq_true_eq] at q'
       simp [TSI,pw,a2,c1,p',q',p,q2,m1,hs]
     ·have p2:hasS a 2=false:=by simpa using p
      rw [p2] at hs
      simp only [Bool.false_and,Bool.false_eq_true,if_false] at hs
      have p':=p
      rw [b2,decide_eq_true_eq] at p'
      simp [TSI,pw,a2,p',p2,m1,hs]
    ·have hs:=tsI_succ (k:=8) (a:=a) (b:=b) (x:=2) (s:=tsO 8 a b 1) (j:=1) (y:=2) rfl
     obtain ⟨m,m1,m2⟩:=tsI_low (k:=8) (a:=a) (b:=b) (x:=2) hlo 1
     obtain ⟨n,n1,n2⟩:=stV_low (Val.cmb 8 (valX 2) (valX 2))
     have hcm:=scomb_eq (k:=8) (x:=2) (y:=2) (by omega) (by omega) (by omega)
     have hst:=sstate_eq (Val.cmb 8 (valX 2) (valX 2)).null (Val.cmb 8 (valX 2) (valX 2)).n
     rw [show stV ⟨(Val.cmb 8 (valX 2) (valX 2)).null,(Val.cmb 8 (valX 2) (valX 2)).n⟩=stV (Val.cmb 8 (valX 2) (valX 2)) from rfl,n1] at hst
     rw [m1,n1,orS_nat] at hs
     by_cases p:hasS a 2=true
     ·by_cases q:hasS b 2=true
      ·rw [p,q] at hs
       simp only [Bool.and_self,if_true] at hs
       have p':=p; have q':=q
       rw [b2,decide_eq_true_eq] at p'
       rw [d2,decide_eq_true_eq] at q'
       simp [TSI,pw,a2,c2,p',q',p,q,valueX_eq,hcm,hst,m1,mod8 m2,mod8 n2,or8 m2 n2,hs]
      ·have q2:hasS b 2=false:=by simpa using q
       rw [p,q2] at hs
       simp only [Bool.and_false,Bool.false_eq_true,if_false] at hs
       have p':=p; have q':=q
       rw [b2,decide_eq_true_eq] at p'
       rw [d2,decide_eq_true_eq] at q'
       simp [TSI,pw,a2,c2,p',q',p,q2,m1,hs]
     ·have p2:hasS a 2=false:=by simpa using p
      rw [p2] at hs
      simp only [Bool.false_and,Bool.false_eq_true,if_false] at hs
      have p':=p
      rw [b2,decide_eq_true_eq] at p'
      simp [TSI,pw,a2,p',p2,m1,hs]
    ·have hs:=tsI_succ (k:=8) (a:=a) (b:=b) (x:=2) (s:=tsO 8 a b 1) (j:=2) (y:=4) rfl
     obtain ⟨m,m1,m2⟩:=tsI_low (k:=8) (a:=a) (b:=b) (x:=2) hlo 2
     obtain ⟨n,n1,n2⟩:=stV_low (Val.cmb 8 (valX 2) (valX 4))
     have hcm:=scomb_eq (k:=8) (x:=2) (y:=4) (by omega) (by omega) (by omega)
     have hst:=sstate_eq (Val.cmb 8 (valX 2) (valX 4)).null (Val.cmb 8 (valX 2) (valX 4)).n
     rw [show stV ⟨(Val.cmb 8 (valX 2) (valX 4)).null,(Val.cmb 8 (valX 2) (valX 4)).n⟩=stV (Val.cmb 8 (valX 2) (valX 4)) from rfl,n1] at hst
     rw [m1,n1,orS_nat] at hs
     by_cases p:hasS a 2=true
     ·by_cases q:hasS b 4=true
      ·rw [p,q] at hs
       simp only [Bool.and_self,if_true] at hs
       have p':=p; have q':=q
       rw [b2,decide_eq_true_eq] at p'
       rw [d4,decide_eq_true_eq] at q'
       simp [TSI,pw,a2,c4,p',q',p,q,valueX_eq,hcm,hst,m1,mod8 m2,mod8 n2,or8 m2 n2,hs]
      ·have q2:hasS b 4=false:=by simpa using q
       rw [p,q2] at hs
       simp only [Bool.and_false,Bool.false_eq_true,if_false] at hs
       have p':=p; have q':=q
       rw [b2,decide_eq_true_eq] at p'
       rw [d4,decide_eq_true_eq] at q'
       simp [TSI,pw,a2,c4,p',q',p,q2,m1,hs]
     ·have p2:hasS a 2=false:=by simpa using p
      rw [p2] at hs
      simp only [Bool.false_and,Bool.false_eq_true,if_false] at hs
      have p':=p
      rw [b2,decide_eq_true_eq] at p'
      simp [TSI,pw,a2,p',p2,m1,hs]
  ·have hsc:=tsO_succ (k:=8) (a:=a) (b:=b) (i:=2) (x:=4) rfl
   have hlo:=tsO_low (k:=8) (a:=a) (b:=b) 2
   simp [TSO,pw]
   rw [loop_to (TSI 8 a b 2) 3 (by simp [TSI,tsI,pw])]
   ·rw [execA_loop]
    simp [TSI,TSO,pw,hsc]
   ·intro j hj
    have hj3:j=0∨j=1∨j=2:=by omega
    rcases hj3 with rfl | rfl | rfl
    ·have hs:=tsI_succ (k:=8) (a:=a) (b:=b) (x:=4) (s:=tsO 8 a b 2) (j:=0) (y:=1) rfl
     obtain ⟨m,m1,m2⟩:=tsI_low (k:=8) (a:=a) (b:=b) (x:=4) hlo 0
     obtain ⟨n,n1,n2⟩:=stV_low (Val.cmb 8 (valX 4) (valX 1))
     have hcm:=scomb_eq (k:=8) (x:=4) (y:=1) (by omega) (by omega) (by omega)
     have hst:=sstate_eq (Val.cmb 8 (valX 4) (valX 1)).null (Val.cmb 8 (valX 4) (valX 1)).n
     rw [show stV ⟨(Val.cmb 8 (valX 4) (valX 1)).null,(Val.cmb 8 (valX 4) (valX 1)).n⟩=stV (Val.cmb 8 (valX 4) (valX 1)) from rfl,n1] at hst
     rw [m1,n1,orS_nat] at hs
     by_cases p:hasS a 4=true
     ·by_cases q:hasS b 1=true
      ·rw [p,q] at hs
       simp only [Bool.and_self,if_true] at hs
       have p':=p; have q':=q
       rw [b4,decide_eq_true_eq] at p'
       rw [d1,decide_eq_true_eq] at q'
       simp [TSI,pw,a4,c1,p',q',p,q,valueX_eq,hcm,hst,m1,mod8 m2,mod8 n2,or8 m2 n2,hs]
      ·have q2:hasS b 1=false:=by simpa using q
       rw [p,q2] at hs
       simp only [Bool.and_false,Bool.false_eq_true,if_false] at hs
       have p':=p; have q':=q
       rw [b4,decide_eq_true_eq] at p'
       rw [d1,decide_eq_true_eq] at q'
       simp [TSI,pw,a4,c1,p',q',p,q2,m1,hs]
     ·have p2:hasS a 4=false:=by simpa using p
      rw [p2] at hs
      simp only [Bool.false_and,Bool.false_eq_true,if_false] at hs
      have p':=p
      rw [b4,decide_eq_true_eq] at p'
      simp [TSI,pw,a4,p',p2,m1,hs]
    ·have hs:=tsI_succ (k:=8) (a:=a) (b:=b) (x:=4) (s:=tsO 8 a b 2) (j:=1) (y:=2) rfl
     obtain ⟨m,m1,m2⟩:=tsI_low (k:=8) (a:=a) (b:=b) (x:=4) hlo 1
     obtain ⟨n,n1,n2⟩:=stV_low (Val.cmb 8 (valX 4) (valX 2))
     have hcm:=scomb_eq (k:=8) (x:=4) (y:=2) (by omega) (by omega) (by omega)
     have hst:=sstate_eq (Val.cmb 8 (valX 4) (valX 2)).null (Val.cmb 8 (valX 4) (valX 2)).n
     rw [show stV ⟨(Val.cmb 8 (valX 4) (valX 2)).null,(Val.cmb 8 (valX 4) (valX 2)).n⟩=stV (Val.cmb 8 (valX 4) (valX 2)) from rfl,n1] at hst
     rw [m1,n1,orS_nat] at hs
     by_cases p:hasS a 4=true
     ·by_cases q:hasS b 2=true
      ·rw [p,q] at hs
       simp only [Bool.and_self,if_true] at hs
       have p':=p; have q':=q
       rw [b4,decide_eq_true_eq] at p'
       rw [d2,decide_eq_true_eq] at q'
       simp [TSI,pw,a4,c2,p',q',p,q,valueX_eq,hcm,hst,m1,mod8 m2,mod8 n2,or8 m2 n2,hs]
      ·have q2:hasS b 2=false:=by simpa using q
       rw [p,q2] at hs
       simp only [Bool.and_false,Bool.false_eq_true,if_false] at hs
       have p':=p; have q':=q
       rw [b4,decide_eq_true_eq] at p'
       rw [d2,decide_eq_true_eq] at q'
       simp [TSI,pw,a4,c2,p',q',p,q2,m1,hs]
     ·have p2:hasS a 4=false:=by simpa using p
      rw [p2] at hs
      simp only [Bool.false_and,Bool.false_eq_true,if_false] at hs
      have p':=p
      rw [b4,decide_eq_true_eq] at p'
      simp [TSI,pw,a4,p',p2,m1,hs]
    ·have hs:=tsI_succ (k:=8) (a:=a) (b:=b) (x:=4) (s:=tsO 8 a b 2) (j:=2) (y:=4) rfl
     obtain ⟨m,m1,m2⟩:=tsI_low (k:=8) (a:=a) (b:=b) (x:=4) hlo 2
     obtain ⟨n,n1,n2⟩:=stV_low (Val.cmb 8 (valX 4) (valX 4))
     have hcm:=scomb_eq (k:=8) (x:=4) (y:=4) (by omega) (by omega) (by omega)
     have hst:=sstate_eq (Val.cmb 8 (valX 4) (valX 4)).null (Val.cmb 8 (valX 4) (valX 4)).n
     rw [show stV ⟨(Val.cmb 8 (valX 4) (valX 4)).null,(Val.cmb 8 (valX 4) (valX 4)).n⟩=stV (Val.cmb 8 (valX 4) (valX 4)) from rfl,n1] at hst
     rw [m1,n1,orS_nat] at hs
     by_cases p:hasS a 4=true
     ·by_cases q:hasS b 4=true
      ·rw [p,q] at hs
       simp only [Bool.and_self,if_true] at hs
       have p':=p; have q':=q
       rw [b4,decide_eq_true_eq] at p'
       rw [d4,decide_eq_true_eq] at q'
       simp [TSI,pw,a4,c4,p',q',p,q,valueX_eq,hcm,hst,m1,mod8 m2,mod8 n2,or8 m2 n2,hs]
      ·have q2:hasS b 4=false:=by simpa using q
       rw [p,q2] at hs
       simp only [Bool.and_false,Bool.false_eq_true,if_false] at hs
       have p':=p; have q':=q
       rw [b4,decide_eq_true_eq] at p'
       rw [d4,decide_eq_true_eq] at q'
       simp [TSI,pw,a4,c4,p',q',p,q2,m1,hs]
     ·have p2:hasS a 4=false:=by simpa using p
      rw [p2] at hs
      simp only [Bool.false_and,Bool.false_eq_true,if_false] at hs
      have p':=p
      rw [b4,decide_eq_true_eq] at p'
      simp [TSI,pw,a4,p',p2,m1,hs]
theorem truthStates_9 {a b:Nat} (ha:a < 8) (hb:b < 8):callA C0 182 [.int 9, .int a, .int b] []=some (.int (tsO 9 a b 3),[]):=by
 rw [callA_eq rfl Tryz.func182 rfl rfl]
 obtain ⟨a1,b1⟩:=has_one ha
 obtain ⟨a2,b2⟩:=has_div ha (x:=2) (by omega) (by omega)
 obtain ⟨a4,b4⟩:=has_div ha (x:=4) (by omega) (by omega)
 obtain ⟨c1,d1⟩:=has_one hb
 obtain ⟨c2,d2⟩:=has_div hb (x:=2) (by omega) (by omega)
 obtain ⟨c4,d4⟩:=has_div hb (x:=4) (by omega) (by omega)
 simp
 rw [loop_to (TSO 9 a b) 3 (by simp [TSO,tsO,pw])]
 ·rw [execA_loop]
  simp [TSO,pw]
 ·intro i hi
  have hi3:i=0∨i=1∨i=2:=by omega
  rcases hi3 with rfl | rfl | rfl
  ·have hsc:=tsO_succ (k:=9) (a:=a) (b:=b) (i:=0) (x:=1) rfl
   have hlo:=tsO_low (k:=9) (a:=a) (b:=b) 0
   simp [TSO,pw]
   rw [loop_to (TSI 9 a b 0) 3 (by simp [TSI,tsI,pw])]
   ·rw [execA_loop]
    simp [TSI,TSO,pw,hsc]
   ·intro j hj
    have hj3:j=0∨j=1∨j=2:=by omega
    rcases hj3 with rfl | rfl | rfl
    ·have hs:=tsI_succ (k:=9) (a:=a) (b:=b) (x:=1) (s:=tsO 9 a b 0) (j:=0) (y:=1) rfl
     obtain ⟨m,m1,m2⟩:=tsI_low (k:=9) (a:=a) (b:=b) (x:=1) hlo 0
     obtain ⟨n,n1,n2⟩:=stV_low (Val.cmb 9 (valX 1) (valX 1))
     have hcm:=scomb_eq (k:=9) (x:=1) (y:=1) (by omega) (by omega) (by omega)
     have hst:=sstate_eq (Val.cmb 9 (valX 1) (valX 1)).null (Val.cmb 9 (valX 1) (valX 1)).n
     rw [show stV ⟨(Val.cmb 9 (valX 1) (valX 1)).null,(Val.cmb 9 (valX 1) (valX 1)).n⟩=stV (Val.cmb 9 (valX 1) (valX 1)) from rfl,n1] at hst
     rw [m1,n1,orS_nat] at hs
     by_cases p:hasS a 1=true
     ·by_cases q:hasS b 1=true
      ·rw [p,q] at hs
       simp only [Bool.and_self,if_true] at hs
       have p':=p; have q':=q
       rw [b1,decide_eq_true_eq] at p'
       rw [d1,decide_eq_true_eq] at q'
       simp [TSI,pw,a1,c1,p',q',p,q,valueX_eq,hcm,hst,m1,mod8 m2,mod8 n2,or8 m2 n2,hs]
      ·have q2:hasS b 1=false:=by simpa using q
       rw [p,q2] at hs
       simp only [Bool.and_false,Bool.false_eq_true,if_false] at hs
       have p':=p; have q':=q
       rw [b1,decide_eq_true_eq] at p'
       rw [d1,decide_eq_true_eq] at q'
       simp [TSI,pw,a1,c1,p',q',p,q2,m1,hs]
     ·have p2:hasS a 1=false:=by simpa using p
      rw [p2] at hs
      simp only [Bool.false_and,Bool.false_eq_true,if_false] at hs
      have p':=p
      rw [b1,decide_eq_true_eq] at p'
      simp [TSI,pw,a1,p',p2,m1,hs]
    ·have hs:=tsI_succ (k:=9) (a:=a) (b:=b) (x:=1) (s:=tsO 9 a b 0) (j:=1) (y:=2) rfl
     obtain ⟨m,m1,m2⟩:=tsI_low (k:=9) (a:=a) (b:=b) (x:=1) hlo 1
     obtain ⟨n,n1,n2⟩:=stV_low (Val.cmb 9 (valX 1) (valX 2))
     have hcm:=scomb_eq (k:=9) (x:=1) (y:=2) (by omega) (by omega) (by omega)
     have hst:=sstate_eq (Val.cmb 9 (valX 1) (valX 2)).null (Val.cmb 9 (valX 1) (valX 2)).n
     rw [show stV ⟨(Val.cmb 9 (valX 1) (valX 2)).null,(Val.cmb 9 (valX 1) (valX 2)).n⟩=stV (Val.cmb 9 (valX 1) (valX 2)) from rfl,n1] at hst
     rw [m1,n1,orS_nat] at hs
     by_cases p:hasS a 1=true
     ·by_cases q:hasS b 2=true
      ·rw [p,q] at hs
       simp only [Bool.and_self,if_true] at hs
       have p':=p; have q':=q
       rw [b1,decide_eq_true_eq] at p'
       rw [d2,decide_eq_true_eq] at q'
       simp [TSI,pw,a1,c2,p',q',p,q,valueX_eq,hcm,hst,m1,mod8 m2,mod8 n2,or8 m2 n2,hs]
      ·have q2:hasS b 2=false:=by simpa using q
       rw [p,q2] at hs
       simp only [Bool.and_false,Bool.false_eq_true,if_false] at hs
       have p':=p; have q':=q
       rw [b1,decide_eq_true_eq] at p'
       rw [d2,decide_eq_true_eq] at q'
       simp [TSI,pw,a1,c2,p',q',p,q2,m1,hs]
     ·have p2:hasS a 1=false:=by simpa using p
      rw [p2] at hs
      simp only [Bool.false_and,Bool.false_eq_true,if_false] at hs
      have p':=p
      rw [b1,decide_eq_true_eq] at p'
      simp [TSI,pw,a1,p',p2,m1,hs]
    ·have hs:=tsI_succ (k:=9) (a:=a) (b:=b) (x:=1) (s:=tsO 9 a b 0) (j:=2) (y:=4) rfl
     obtain ⟨m,m1,m2⟩:=tsI_low (k:=9) (a:=a) (b:=b) (x:=1) hlo 2
     obtain ⟨n,n1,n2⟩:=stV_low (Val.cmb 9 (valX 1) (valX 4))
     have hcm:=scomb_eq (k:=9) (x:=1) (y:=4) (by omega) (by omega) (by omega)
     have hst:=sstate_eq (Val.cmb 9 (valX 1) (valX 4)).null (Val.cmb 9 (valX 1) (valX 4)).n
     rw [show stV ⟨(Val.cmb 9 (valX 1) (valX 4)).null,(Val.cmb 9 (valX 1) (valX 4)).n⟩=stV (Val.cmb 9 (valX 1) (valX 4)) from rfl,n1] at hst
     rw [m1,n1,orS_nat] at hs
     by_cases p:hasS a 1=true
     ·by_cases q:hasS b 4=true
      ·rw [p,q] at hs
       simp only [Bool.and_self,if_true] at hs
       have p':=p; have q':=q
       rw [b1,decide_eq_true_eq] at p'
       rw [d4,decide_eq_true_eq] at q'
       simp [TSI,pw,a1,c4,p',q',p,q,valueX_eq,hcm,hst,m1,mod8 m2,mod8 n2,or8 m2 n2,hs]
      ·have q2:hasS b 4=false:=by simpa using q
       rw [p,q2] at hs
       simp only [Bool.and_false,Bool.false_eq_true,if_false] at hs
       have p':=p; have q':=q
       rw [b1,decide_eq_true_eq] at p'
       rw [d4,decide_eq_true_eq] at q'
       simp [TSI,pw,a1,c4,p',q',p,q2,m1,hs]
     ·have p2:hasS a 1=false:=by simpa using p
      rw [p2] at hs
      simp only [Bool.false_and,Bool.false_eq_true,if_false] at hs
      have p':=p
      rw [b1,decide_eq_true_eq] at p'
      simp [TSI,pw,a1,p',p2,m1,hs]
  ·have hsc:=tsO_succ (k:=9) (a:=a) (b:=b) (i:=1) (x:=2) rfl
   have hlo:=tsO_low (k:=9) (a:=a) (b:=b) 1
   simp [TSO,pw]
   rw [loop_to (TSI 9 a b 1) 3 (by simp [TSI,tsI,pw])]
   ·rw [execA_loop]
    simp [TSI,TSO,pw,hsc]
   ·intro j hj
    have hj3:j=0∨j=1∨j=2:=by omega
    rcases hj3 with rfl | rfl | rfl
    ·have hs:=tsI_succ (k:=9) (a:=a) (b:=b) (x:=2) (s:=tsO 9 a b 1) (j:=0) (y:=1) rfl
     obtain ⟨m,m1,m2⟩:=tsI_low (k:=9) (a:=a) (b:=b) (x:=2) hlo 0
     obtain ⟨n,n1,n2⟩:=stV_low (Val.cmb 9 (valX 2) (valX 1))
     have hcm:=scomb_eq (k:=9) (x:=2) (y:=1) (by omega) (by omega) (by omega)
     have hst:=sstate_eq (Val.cmb 9 (valX 2) (valX 1)).null (Val.cmb 9 (valX 2) (valX 1)).n
     rw [show stV ⟨(Val.cmb 9 (valX 2) (valX 1)).null,(Val.cmb 9 (valX 2) (valX 1)).n⟩=stV (Val.cmb 9 (valX 2) (valX 1)) from rfl,n1] at hst
     rw [m1,n1,orS_nat] at hs
     by_cases p:hasS a 2=true
     ·by_cases q:hasS b 1=true
      ·rw [p,q] at hs
       simp only [Bool.and_self,if_true] at hs
       have p':=p; have q':=q
       rw [b2,decide_eq_true_eq] at p'
       rw [d1,decide_eq_true_eq] at q'
       simp [TSI,pw,a2,c1,p',q',p,q,valueX_eq,hcm,hst,m1,mod8 m2,mod8 n2,or8 m2 n2,hs]
      ·have q2:hasS b 1=false:=by simpa using q
       rw [p,q2] at hs
       simp only [Bool.and_false,Bool.false_eq_true,if_false] at hs
       have p':=p; have q':=q
       rw [b2,decide_eq_true_eq] at p'
       rw [d1,decide_eq_true_eq] at q'
       simp [TSI,pw,a2,c1,p',q',p,q2,m1,hs]
     ·have p2:hasS a 2=false:=by simpa using p
      rw [p2] at hs
      simp only [Bool.false_and,Bool.false_eq_true,if_false] at hs
      have p':=p
      rw [b2,decide_eq_true_eq] at p'
      simp [TSI,pw,a2,p',p2,m1,hs]
    ·have hs:=tsI_succ (k:=9) (a:=a) (b:=b) (x:=2) (s:=tsO 9 a b 1) (j:=1) (y:=2) rfl
     obtain ⟨m,m1,m2⟩:=tsI_low (k:=9) (a:=a) (b:=b) (x:=2) hlo 1
     obtain ⟨n,n1,n2⟩:=stV_low (Val.cmb 9 (valX 2) (valX 2))
     have hcm:=scomb_eq (k:=9) (x:=2) (y:=2) (by omega) (by omega) (by omega)
     have hst:=sstate_eq (Val.cmb 9 (valX 2) (valX 2)).null (Val.cmb 9 (valX 2) (valX 2)).n
     rw [show stV ⟨(Val.cmb 9 (valX 2) (valX 2)).null,(Val.cmb 9 (valX 2) (valX 2)).n⟩=stV (Val.cmb 9 (valX 2) (valX 2)) from rfl,n1] at hst
     rw [m1,n1,orS_nat] at hs
     by_cases p:hasS a 2=true
     ·by_cases q:hasS b 2=true
      ·rw [p,q] at hs
       simp only [Bool.and_self,if_true] at hs
       have p':=p; have q':=q
       rw [b2,decide_eq_true_eq] at p'
       rw [d2,decide_eq_true_eq] at q'
       simp [TSI,pw,a2,c2,p',q',p,q,valueX_eq,hcm,hst,m1,mod8 m2,mod8 n2,or8 m2 n2,hs]
      ·have q2:hasS b 2=false:=by simpa using q
       rw [p,q2] at hs
       simp only [Bool.and_false,Bool.false_eq_true,if_false] at hs
       have p':=p; have q':=q
       rw [b2,decide_eq_true_eq] at p'
       rw [d2,decide_eq_true_eq] at q'
       simp [TSI,pw,a2,c2,p',q',p,q2,m1,hs]
     ·have p2:hasS a 2=false:=by simpa using p
      rw [p2] at hs
      simp only [Bool.false_and,Bool.false_eq_true,if_false] at hs
      have p':=p
      rw [b2,decide_eq_true_eq] at p'
      simp [TSI,pw,a2,p',p2,m1,hs]
    ·have hs:=tsI_succ (k:=9) (a:=a) (b:=b) (x:=2) (s:=tsO 9 a b 1) (j:=2) (y:=4) rfl
     obtain ⟨m,m1,m2⟩:=tsI_low (k:=9) (a:=a) (b:=b) (x:=2) hlo 2
     obtain ⟨n,n1,n2⟩:=stV_low (Val.cmb 9 (valX 2) (valX 4))
     have hcm:=scomb_eq (k:=9) (x:=2) (y:=4) (by omega) (by omega) (by omega)
     have hst:=sstate_eq (Val.cmb 9 (valX 2) (valX 4)).null (Val.cmb 9 (valX 2) (valX 4)).n
     rw [show stV ⟨(Val.cmb 9 (valX 2) (valX 4)).null,(Val.cmb 9 (valX 2) (valX 4)).n⟩=stV (Val.cmb 9 (valX 2) (valX 4)) from rfl,n1] at hst
     rw [m1,n1,orS_nat] at hs
     by_cases p:hasS a 2=true
     ·by_cases q:hasS b 4=true
      ·rw [p,q] at hs
       simp only [Bool.and_self,if_true] at hs
       have p':=p; have q':=q
       rw [b2,decide_eq_true_eq] at p'
       rw [d4,decide_eq_true_eq] at q'
       simp [TSI,pw,a2,c4,p',q',p,q,valueX_eq,hcm,hst,m1,mod8 m2,mod8 n2,or8 m2 n2,hs]
      ·have q2:hasS b 4=false:=by simpa using q
       rw [p,q2] at hs
       simp only [Bool.and_false,Bool.false_eq_true,if_false] at hs
       have p':=p; have q':=q
       rw [b2,decide_eq_true_eq] at p'
       rw [d4,decide_eq_true_eq] at q'
       simp [TSI,pw,a2,c4,p',q',p,q2,m1,hs]
     ·have p2:hasS a 2=false:=by simpa using p
      rw [p2] at hs
      simp only [Bool.false_and,Bool.false_eq_true,if_false] at hs
      have p':=p
      rw [b2,decide_eq_true_eq] at p'
      simp [TSI,pw,a2,p',p2,m1,hs]
  ·have hsc:=tsO_succ (k:=9) (a:=a) (b:=b) (i:=2) (x:=4) rfl
   have hlo:=tsO_low (k:=9) (a:=a) (b:=b) 2
   simp [TSO,pw]
   rw [loop_to (TSI 9 a b 2) 3 (by simp [TSI,tsI,pw])]
   ·rw [execA_loop]
    simp [TSI,TSO,pw,hsc]
   ·intro j hj
    have hj3:j=0∨j=1∨j=2:=by omega
    rcases hj3 with rfl | rfl | rfl
    ·have hs:=tsI_succ (k:=9) (a:=a) (b:=b) (x:=4) (s:=tsO 9 a b 2) (j:=0) (y:=1) rfl
     obtain ⟨m,m1,m2⟩:=tsI_low (k:=9) (a:=a) (b:=b) (x:=4) hlo 0
     obtain ⟨n,n1,n2⟩:=stV_low (Val.cmb 9 (valX 4) (valX 1))
     have hcm:=scomb_eq (k:=9) (x:=4) (y:=1) (by omega) (by omega) (by omega)
     have hst:=sstate_eq (Val.cmb 9 (valX 4) (valX 1)).null (Val.cmb 9 (valX 4) (valX 1)).n
     rw [show stV ⟨(Val.cmb 9 (valX 4) (valX 1)).null,(Val.cmb 9 (valX 4) (valX 1)).n⟩=stV (Val.cmb 9 (valX 4) (valX 1)) from rfl,n1] at hst
     rw [m1,n1,orS_nat] at hs
     by_cases p:hasS a 4=true
     ·by_cases q:hasS b 1=true
      ·rw [p,q] at hs
       simp only [Bool.and_self,if_true] at hs
       have p':=p; have q':=q
       rw [b4,decide_eq_true_eq] at p'
       rw [d1,decide_eq_true_eq] at q'
       simp [TSI,pw,a4,c1,p',q',p,q,valueX_eq,hcm,hst,m1,mod8 m2,mod8 n2,or8 m2 n2,hs]
      ·have q2:hasS b 1=false:=by simpa using q
       rw [p,q2] at hs
       simp only [Bool.and_false,Bool.false_eq_true,if_false] at hs
       have p':=p; have q':=q
       rw [b4,decide_eq_true_eq] at p'
       rw [d1,decide_eq_true_eq] at q'
       simp [TSI,pw,a4,c1,p',q',p,q2,m1,hs]
     ·have p2:hasS a 4=false:=by simpa using p
      rw [p2] at hs
      simp only [Bool.false_and,Bool.false_eq_true,if_false] at hs
      have p':=p
      rw [b4,decide_eq_true_eq] at p'
      simp [TSI,pw,a4,p',p2,m1,hs]
    ·have hs:=tsI_succ (k:=9) (a:=a) (b:=b) (x:=4) (s:=tsO 9 a b 2) (j:=1) (y:=2) rfl
     obtain ⟨m,m1,m2⟩:=tsI_low (k:=9) (a:=a) (b:=b) (x:=4) hlo 1
     obtain ⟨n,n1,n2⟩:=stV_low (Val.cmb 9 (valX 4) (valX 2))
     have hcm:=scomb_eq (k:=9) (x:=4) (y:=2) (by omega) (by omega) (by omega)
     have hst:=sstate_eq (Val.cmb 9 (valX 4) (valX 2)).null (Val.cmb 9 (valX 4) (valX 2)).n
     rw [show stV ⟨(Val.cmb 9 (valX 4) (valX 2)).null,(Val.cmb 9 (valX 4) (valX 2)).n⟩=stV (Val.cmb 9 (valX 4) (valX 2)) from rfl,n1] at hst
     rw [m1,n1,orS_nat] at hs
     by_cases p:hasS a 4=true
     ·by_cases q:hasS b 2=true
      ·rw [p,q] at hs
       simp only [Bool.and_self,if_true] at hs
       have p':=p; have q':=q
       rw [b4,decide_eq_true_eq] at p'
       rw [d2,decide_eq_true_eq] at q'
       simp [TSI,pw,a4,c2,p',q',p,q,valueX_eq,hcm,hst,m1,mod8 m2,mod8 n2,or8 m2 n2,hs]
      ·have q2:hasS b 2=false:=by simpa using q
       rw [p,q2] at hs
       simp only [Bool.and_false,Bool.false_eq_true,if_false] at hs
       have p':=p; have q':=q
       rw [b4,decide_eq_true_eq] at p'
       rw [d2,decide_eq_true_eq] at q'
       simp [TSI,pw,a4,c2,p',q',p,q2,m1,hs]
     ·have p2:hasS a 4=false:=by simpa using p
      rw [p2] at hs
      simp only [Bool.false_and,Bool.false_eq_true,if_false] at hs
      have p':=p
      rw [b4,decide_eq_true_eq] at p'
      simp [TSI,pw,a4,p',p2,m1,hs]
    ·have hs:=tsI_succ (k:=9) (a:=a) (b:=b) (x:=4) (s:=tsO 9 a b 2) (j:=2) (y:=4) rfl
     obtain ⟨m,m1,m2⟩:=tsI_low (k:=9) (a:=a) (b:=b) (x:=4) hlo 2
     obtain ⟨n,n1,n2⟩:=stV_low (Val.cmb 9 (valX 4) (valX 4))
     have hcm:=scomb_eq (k:=9) (x:=4) (y:=4) (by omega) (by omega) (by omega)
     have hst:=sstate_eq (Val.cmb 9 (valX 4) (valX 4)).null (Val.cmb 9 (valX 4) (valX 4)).n
     rw [show stV ⟨(Val.cmb 9 (valX 4) (valX 4)).null,(Val.cmb 9 (valX 4) (valX 4)).n⟩=stV (Val.cmb 9 (valX 4) (valX 4)) from rfl,n1] at hst
     rw [m1,n1,orS_nat] at hs
     by_cases p:hasS a 4=true
     ·by_cases q:hasS b 4=true
      ·rw [p,q] at hs
       simp only [Bool.and_self,if_true] at hs
       have p':=p; have q':=q
       rw [b4,decide_eq_true_eq] at p'
       rw [d4,decide_eq_true_eq] at q'
       simp [TSI,pw,a4,c4,p',q',p,q,valueX_eq,hcm,hst,m1,mod8 m2,mod8 n2,or8 m2 n2,hs]
      ·have q2:hasS b 4=false:=by simpa using q
       rw [p,q2] at hs
       simp only [Bool.and_false,Bool.false_eq_true,if_false] at hs
       have p':=p; have q':=q
       rw [b4,decide_eq_true_eq] at p'
       rw [d4,decide_eq_true_eq] at q'
       simp [TSI,pw,a4,c4,p',q',p,q2,m1,hs]
     ·have p2:hasS a 4=false:=by simpa using p
      rw [p2] at hs
      simp only [Bool.false_and,Bool.false_eq_true,if_false] at hs
      have p':=p
      rw [b4,decide_eq_true_eq] at p'
      simp [TSI,pw,a4,p',p2,m1,hs]
theorem strue_eq {k a b:Int} (hk:k=8∨k=9) (ha:okS a) (hb:okS b):callA C0 182 [.int k, .int a, .int b] []=some (.int (cmbS k a b),[]):=by
 obtain ⟨m,rfl⟩:=Int.eq_ofNat_of_zero_le (show 0≤a by have:=ha.1; omega)
 obtain ⟨n,rfl⟩:=Int.eq_ofNat_of_zero_le (show 0≤b by have:=hb.1; omega)
 have hm:m < 8:=by have:=ha.2; omega
 have hn:n < 8:=by have:=hb.2; omega
 have ht:=ts_tab ⟨m,hm⟩ ⟨n,hn⟩
 rcases hk with rfl | rfl
 ·rw [truthStates_8 hm hn]; simp only at ht; rw [ht.1]
 ·rw [truthStates_9 hm hn]; simp only at ht; rw [ht.2]
end Go.Proofs.YtjcjpbjpbbdnlaaGreat.P

namespace Go.Proofs.YtjcjpbjpbbdnlaaGreat.P
open Go Go.Av
set_option maxRecDepth 4000
set_option maxHeartbeats 8000000
theorem low3_tab:∀ m:Fin 8,(m.val &&& 3=0∧(hasS m.val 1 || hasS m.val 2)=false)∨((m.val &&& 3=1∨m.val &&& 3=2∨m.val &&& 3=3)∧(hasS m.val 1 || hasS m.val 2)=true):=by decide
theorem low3 {m:Nat} (hm:m < 8):∃ v:Nat,m &&& 3=v∧IntKind.i64.wrap (v:Int)=v∧((v=0∧(hasS m 1 || hasS m 2)=false)∨(¬ v=0∧(hasS m 1 || hasS m 2)=true)):=by
 rcases low3_tab ⟨m,hm⟩ with ⟨h,q⟩ | ⟨h | h | h,q⟩
 ·exact ⟨0,h,by decide, .inl ⟨rfl,q⟩⟩
 ·exact ⟨1,h,by decide, .inr ⟨by omega,q⟩⟩
 ·exact ⟨2,h,by decide, .inr ⟨by omega,q⟩⟩
 ·exact ⟨3,h,by decide, .inr ⟨by omega,q⟩⟩
theorem soutcomes_eq {W : Int} (st : List Int) (hl : (st.length : Int) = W) (hs : ∀ a ∈ st, okS a) : ∀ e : Ex, e.wf W = true → callA C0 174 [.i (.agg e.cells), .i (.isl (intsL st))] [] = some (.int (outS st e), []) := by
  intro e
  induction e using Ex.ind with
  | h k c v ks ih =>
    intro hw
    have hall := outS_ok st hl hs
    rw [callA_eq rfl Tryz.func174 rfl rfl, Ex.cells_eq, outS_eq]
    rcases Ex.wf_shape hw with ⟨h1, h2, h3, h4⟩ | ⟨h1, h2⟩ | ⟨h1, x, h2, h3⟩ | ⟨h1, x, y, h2, h3, h4⟩
    · generalize Ex.mk k c v ks = e at *
      have hlt : e.col.toNat < st.length := by omega
      have h5 := List.getElem?_eq_getElem hlt
      generalize st[e.col.toNat] = s at h5
      have r2 := intsL_nth h5
      obtain ⟨_, h6⟩ := List.getElem?_eq_some_iff.1 h5
      simp [h1, h2, r2, h6, show e.col < st.length by omega]
    · generalize Ex.mk k c v ks = e at *
      have hst := sstate_eq e.val.null e.val.n
      simp [h1, hst]
    · have hx := ih x (by simp only [Ex.kids] at h2; simp [h2]) h3
      have ho := hall x h3
      generalize Ex.mk k c v ks = e at *
      generalize hso : outS st x = s at hx ho
      rw [Ex.cells_eq] at hx
      rcases h1 with h1 | h1
      · rcases seven ho with rfl | rfl | rfl | rfl | rfl | rfl | rfl <;> (simp [h1, h2, Ex.cellsL, Ex.cells_eq x, hx, hso]; try decide)
      · rcases seven ho with rfl | rfl | rfl | rfl | rfl | rfl | rfl <;> (simp [h1, h2, Ex.cellsL, Ex.cells_eq x, hx, hso]; try decide)
    · have hx := ih x (by simp only [Ex.kids] at h2; simp [h2]) h3
      have hy := ih y (by simp only [Ex.kids] at h2; simp [h2]) h4
      have ho := hall x h3
      have hp := hall y h4
      generalize Ex.mk k c v ks = e at *
      generalize hso : outS st x = s at hx ho
      generalize hto : outS st y = t at hy hp
      rw [Ex.cells_eq] at hx hy
      have q1 : ¬ e.kind = 1 := by omega
      have q2 : ¬ e.kind = 2 := by omega
      have q3 : ¬ e.kind = 10 := by omega
      have q4 : ¬ e.kind = 11 := by omega
      by_cases hk : e.kind = 8 ∨ e.kind = 9
      · have hc := strue_eq (k := e.kind) hk ho hp
        rcases hk with hk | hk <;> (rw [hk] at hc; simp [hk, h2, Ex.cellsL, Ex.cells_eq x, Ex.cells_eq y, hx, hy, hc, hso, hto])
      · have q5 : ¬ e.kind = 8 := by omega
        have q6 : ¬ e.kind = 9 := by omega
        have hcs : cmbS e.kind s t = orS (if hasS (orS s t) 4 = true then 4 else 0) (if (hasS s 1 || hasS s 2) = true ∧ (hasS t 1 || hasS t 2) = true then (if e.kind < 6 then 7 else 3) else 0) := if_neg hk
        obtain ⟨m, rfl⟩ := Int.eq_ofNat_of_zero_le (show 0 ≤ s by have := ho.1; omega)
        obtain ⟨n, rfl⟩ := Int.eq_ofNat_of_zero_le (show 0 ≤ t by have := hp.1; omega)
        have hm : m < 8 := by have := ho.2; omega
        have hn : n < 8 := by have := hp.2; omega
        have h1 := mod8 hm
        have h2' := mod8 hn
        have h3' := or8 hm hn
        have h4' : (m ||| n) % 18446744073709551616 = m ||| n := mod8 (Nat.or_lt_two_pow (n := 3) hm hn)
        obtain ⟨x', x1, x2, x3⟩ := low3 hm
        obtain ⟨y', y1, y2, y3⟩ := low3 hn
        have e7 : orS 0 7 = 7 := by decide
        have e3 : orS 0 3 = 3 := by decide
        have e47 : orS 4 7 = 7 := by decide
        have e43 : orS 4 3 = 7 := by decide
        have e40 : orS 4 0 = 4 := by decide
        have e00 : orS 0 0 = 0 := by decide
        rcases or_four hm hn with ⟨p, q⟩ | ⟨p, q⟩ <;> rcases x3 with ⟨x3, x4⟩ | ⟨x3, x4⟩ <;> rcases y3 with ⟨y3, y4⟩ | ⟨y3, y4⟩ <;> by_cases q7 : e.kind < 6 <;>
          simp [q1, q2, q3, q4, q5, q6, q7, h2, Ex.cellsL, Ex.cells_eq x, Ex.cells_eq y, hx, hy, hso, hto, hcs, h1, h2', h3', h4', p, q, x1, x2, x3, x4, y1, y2, y3, y4, e7, e3, e47, e43, e40, e00]
theorem srejects_eq (e:Ex) {n p m:Nat} (hn:n=p + m) (hb:n < 1000) (h:e.wf n=true):callA C0 163 [.i (.agg e.cells), .int n, .i (.isl (intsL (colsI p m)))] []=some (.bool (rejP e n p),[]):=by
 have hlen:((nulls n p).length:Int)=(n:Int):=by rw [nulls_length]; omega
 have ho:=soutcomes_eq (nulls n p) hlen (nulls_ok _ _) e h
 have hs:=outS_ok (nulls n p) hlen (nulls_ok _ _) e h
 have hns:=nullStates_eq hn hb
 rw [callA_eq rfl Tryz.func163 rfl rfl]
 unfold rejP
 generalize outS (nulls n p) e=s at ho hs
 rw [Ex.cells_eq] at *
 rcases seven hs with rfl | rfl | rfl | rfl | rfl | rfl | rfl<;>(simp [hns,ho]; try decide)
end Go.Proofs.YtjcjpbjpbbdnlaaGreat.P

namespace Go.Proofs.YtjcjpbjpbbdnlaaGreat.P
open Go Go.Av
set_option maxRecDepth 4000
set_option maxHeartbeats 4000000
def RuleC (g:FuncId) (ws:List Int) (r:Int) (p:Pn):Prop:=∃ (q:Pn) (b:Bool),callA C0 g [.i (.iref p.cells), .i (.isl (intsL ws))] []=some (.tup [.i (.agg q.cells), .bool b],[])∧(b=true→rwP ws r p=some q)∧(b=false→∀ q',rwP ws r p=some q'→∀ lv,q'.wd ws lv=0)
@[simp] theorem filt_kind (e:Ex) (k:Pn):(filt e k).kind=2:=rfl
@[simp] theorem proj_kind (es:List Ex) (k:Pn):(proj es k).kind=3:=rfl
@[simp] theorem pair_kind (kd:Int) (e:Ex) (a b:Pn):(pairP kd e a b).kind=kd:=rfl
@[simp] theorem union_kind (a b:Pn):(unionP a b).kind=6:=rfl
theorem rwP_filt (ws:List Int) (r:Int) (e:Ex) (k:Pn):rwP ws r (filt e k)=rwF ws r e k:=by simp [rwP,filt,Pn.ex0,Pn.kid0,Pn.kind,Pn.exprs,Pn.kids]
theorem RuleC.no {g:FuncId} {ws:List Int} {r:Int} {p:Pn} (h:callA C0 g [.i (.iref p.cells), .i (.isl (intsL ws))] []=some (.tup [.i (.agg Pn.zero.cells), .bool false],[])) (hr:rwP ws r p=none):RuleC g ws r p:=⟨.zero,false,h,by simp,by simp [hr]⟩
theorem RuleC.yes {g:FuncId} {ws:List Int} {r:Int} {p q:Pn} (h:callA C0 g [.i (.iref p.cells), .i (.isl (intsL ws))] []=some (.tup [.i (.agg q.cells), .bool true],[])) (hr:rwP ws r p=some q):RuleC g ws r p:=⟨q,true,h,fun _=>hr,by simp⟩
theorem rule1 {ws:List Int} {p:Pn} {W:Int} (hp:Wd ws p W):RuleC 87 ws 1 p:=by
 by_cases hk:p.kind=2
 ·obtain ⟨e,a,rfl⟩:=Wd_two hp hk
  by_cases hk2:a.kind=2
  ·obtain ⟨e2,a2,rfl⟩:=Wd_two (Wd_filt hp).1 hk2
   refine .yes (q:=filt (andE e2 e) a2) ?_ (by rw [rwP_filt]; simp [rwF,filt,Pn.ex0,Pn.kid0,Pn.kind,Pn.exprs,Pn.kids])
   have h1:=filterOver_yes (e:=e) (k:=filt e2 a2) (kd:=2) rfl
   have h2:=both_eq e2 e
   have h3:=filterPlan_eq (andE e2 e) a2
   rw [callA_eq rfl Tryz.func87 rfl rfl]
   simp only [filt_cells,andE_cells,Ex.cells_eq e,Ex.cells_eq e2,Pn.cells_eq a2] at h1 h2 h3 ⊢
   simp [h1,h2,h3]
  ·refine .no ?_ (by rw [rwP_filt]; simp [rwF,hk2])
   have h1:=filterOver_not (e:=e) (k:=a) (kd:=2) hk2
   rw [callA_eq rfl Tryz.func87 rfl rfl]
   simp only [filt_cells,zero_cells] at h1 ⊢
   simp [h1]
 ·refine .no ?_ (by simp [rwP,hk])
  have h1:=filterOver_no (p:=p) (kd:=2) hk
  rw [callA_eq rfl Tryz.func87 rfl rfl]
  simp only [zero_cells,Pn.cells_eq p] at h1 ⊢
  simp [h1]
theorem rule5 {ws:List Int} {p:Pn} {W:Int} (hp:Wd ws p W):RuleC 91 ws 5 p:=by
 by_cases hk:p.kind=2
 ·obtain ⟨e,a,rfl⟩:=Wd_two hp hk
  by_cases hk2:a.kind=4
  ·obtain ⟨e2,x,y,hx⟩:=Wd_four (Wd_filt hp).1 (.inl hk2)
   rw [hk2] at hx
   subst hx
   refine .yes (q:=pairP 4 (andE e2 e) x y) ?_ (by rw [rwP_filt]; simp [rwF,pairP,Pn.ex0,Pn.kid0,Pn.kid1,Pn.kind,Pn.exprs,Pn.kids])
   have h1:=filterOver_yes (e:=e) (k:=pairP 4 e2 x y) (kd:=4) rfl
   have h2:=both_eq e2 e
   have h3:=pairPlan_eq 4 (andE e2 e) x y
   rw [callA_eq rfl Tryz.func91 rfl rfl]
   simp only [filt_cells,pair_cells,andE_cells,Ex.cells_eq e,Ex.cells_eq e2,Pn.cells_eq x,Pn.cells_eq y] at h1 h2 h3 ⊢
   simp [h1,h2,h3]
  ·refine .no ?_ (by rw [rwP_filt]; simp [rwF,hk2])
   have h1:=filterOver_not (e:=e) (k:=a) (kd:=4) hk2
   rw [callA_eq rfl Tryz.func91 rfl rfl]
   simp only [filt_cells,zero_cells] at h1 ⊢
   simp [h1]
 ·refine .no ?_ (by simp [rwP,hk])
  have h1:=filterOver_no (p:=p) (kd:=4) hk
  rw [callA_eq rfl Tryz.func91 rfl rfl]
  simp only [zero_cells,Pn.cells_eq p] at h1 ⊢
  simp [h1]
theorem rule8 {ws:List Int} {p:Pn} {W:Int} (hp:Wd ws p W):RuleC 94 ws 8 p:=by
 by_cases hk:p.kind=2
 ·obtain ⟨e,a,rfl⟩:=Wd_two hp hk
  by_cases hk2:a.kind=6
  ·obtain ⟨x,y,rfl⟩:=Wd_six (Wd_filt hp).1 hk2
   refine .yes (q:=unionP (filt e x) (filt e y)) ?_ (by rw [rwP_filt]; simp [rwF,unionP,Pn.ex0,Pn.kid0,Pn.kid1,Pn.kind,Pn.exprs,Pn.kids])
   have h1:=filterOver_yes (e:=e) (k:=unionP x y) (kd:=6) rfl
   have h2:=filterPlan_eq e x
   have h3:=filterPlan_eq e y
   rw [callA_eq rfl Tryz.func94 rfl rfl]
   simp only [filt_cells,union_cells,Ex.cells_eq e,Pn.cells_eq x,Pn.cells_eq y] at h1 h2 h3 ⊢
   simp [h1,h2,h3]
  ·refine .no ?_ (by rw [rwP_filt]; simp [rwF,hk2])
   have h1:=filterOver_not (e:=e) (k:=a) (kd:=6) hk2
   rw [callA_eq rfl Tryz.func94 rfl rfl]
   simp only [filt_cells,zero_cells] at h1 ⊢
   simp [h1]
 ·refine .no ?_ (by simp [rwP,hk])
  have h1:=filterOver_no (p:=p) (kd:=6) hk
  rw [callA_eq rfl Tryz.func94 rfl rfl]
  simp only [zero_cells,Pn.cells_eq p] at h1 ⊢
  simp [h1]
theorem rule9 {ws:List Int} {p:Pn} {W:Int} (hp:Wd ws p W):RuleC 95 ws 9 p:=by
 by_cases hk:p.kind=7
 ·obtain ⟨a,rfl⟩:=Wd_sev hp hk
  have hc:(Pn.mk 7 0 [] [] [a]).cells=[.int 7, .int 0, .isl [], .isl [], .isl [a.cells]]:=by simp [Pn.cells,Ex.cellsL,intsL,Pn.cellsL]
  by_cases hk2:a.kind=7∨a.kind=8
  ·refine .yes (q:=a) ?_ (by simp [rwP,Pn.kid0,Pn.kids,hk2])
   rw [callA_eq rfl Tryz.func95 rfl rfl]
   simp only [hc,Pn.cells_eq a]
   rcases hk2 with hk2 | hk2<;>simp [hk2]
  ·refine .no ?_ (by simp [rwP,Pn.kid0,Pn.kids,hk2])
   rw [callA_eq rfl Tryz.func95 rfl rfl]
   simp only [hc,zero_cells,Pn.cells_eq a]
   have h7:¬ a.kind=7:=by omega
   have h8:¬ a.kind=8:=by omega
   simp [h7,h8]
 ·refine .no ?_ ?_
  ·rw [callA_eq rfl Tryz.func95 rfl rfl]
   simp only [zero_cells,Pn.cells_eq p]
   simp [hk]
  ·unfold rwP
   split
   ·unfold rwF; simp
   ·simp [hk]
theorem rule2 {ws:List Int} {p:Pn} {W:Int} (hp:Wd ws p W):RuleC 88 ws 2 p:=by
 by_cases hk:p.kind=2
 ·obtain ⟨e,a,rfl⟩:=Wd_two hp hk
  by_cases hk2:e.kind=8
  ·have hw:=(Ex.ok_wf (Wd_filt hp).2).1
   obtain ⟨x,y,hxy⟩:∃ x y,e.kids=[x,y]:=by
    rcases Ex.wf_shape hw with ⟨h,_⟩ | ⟨h,_⟩ | ⟨h,_⟩ | ⟨_,x,y,h,_⟩
    ·omega
    ·omega
    ·omega
    ·exact ⟨x,y,h⟩
   refine .yes (q:=filt y (filt x a)) ?_ (by rw [rwP_filt]; simp [rwF,hk2,Ex.kid0,Ex.kid1,hxy])
   have h2:=filterPlan_eq x a
   have h3:=filterPlan_eq y (filt x a)
   rw [callA_eq rfl Tryz.func88 rfl rfl]
   simp only [filt_cells,Ex.cells_eq e,hxy,Ex.cellsL,Ex.cells_eq x,Ex.cells_eq y,Pn.cells_eq a] at h2 h3 ⊢
   simp [hk2,h2,h3]
  ·refine .no ?_ (by rw [rwP_filt]; simp [rwF,hk2])
   rw [callA_eq rfl Tryz.func88 rfl rfl]
   simp only [filt_cells,zero_cells,Ex.cells_eq e]
   simp [hk2]
 ·refine .no ?_ (by simp [rwP,hk])
  rw [callA_eq rfl Tryz.func88 rfl rfl]
  simp only [zero_cells,Pn.cells_eq p]
  simp [hk]
end Go.Proofs.YtjcjpbjpbbdnlaaGreat.P

namespace Go.Av
theorem filt8 {ws:List Int} {e:Ex} {a:Pn} (h:(filt e a).wd ws 8≠0):a.wd ws 8≠0∧e.ok (a.wd ws 8)=true∧(filt e a).wd ws 8=a.wd ws 8:=by
 have h1:=h
 rw [wd_filt] at h1
 obtain ⟨h2,h3⟩:=ite_ne h1
 have hm:=Pn.wd_more a 7 8 h3 (by omega)
 rw [hm]
 exact ⟨h3,h2.2,by rw [wd_filt,if_pos h2]⟩
theorem pair8 {ws:List Int} {kd:Int} {e:Ex} {a b:Pn} (hk:kd=4∨kd=5) (h:(pairP kd e a b).wd ws 8≠0):a.wd ws 8≠0∧b.wd ws 8≠0∧a.wd ws 8 + b.wd ws 8≤6∧e.ok (a.wd ws 8 + b.wd ws 8)=true∧(pairP kd e a b).wd ws 8=a.wd ws 8 + b.wd ws 8:=by
 have h1:=h
 rw [wd_pair hk] at h1
 obtain ⟨h2,h3⟩:=ite_ne h1
 rw [Pn.wd_more a 7 8 h2.1 (by omega),Pn.wd_more b 7 8 h2.2.1 (by omega)]
 exact ⟨h2.1,h2.2.1,h2.2.2.1,h2.2.2.2,by rw [wd_pair hk,if_pos h2]⟩
theorem proj8 {ws:List Int} {es:List Ex} {a:Pn} (h:(proj es a).wd ws 8≠0):a.wd ws 8≠0∧okWidth es.length=true∧es.all (Ex.ok (a.wd ws 8))=true∧(proj es a).wd ws 8=es.length:=by
 have h1:=h
 rw [wd_proj] at h1
 obtain ⟨h2,h3⟩:=ite_ne h1
 rw [Pn.wd_more a 7 8 h2.1 (by omega)]
 exact ⟨h2.1,h2.2.1,h2.2.2,by rw [wd_proj,if_pos h2]⟩
theorem bits_hi' {e:Ex} {n:Nat} (h:e.allC (fun c=>decide (0≤c))=true):(e.bits / 2 ^ n=0)=(e.cin 0 n=true):=by
 rw [eq_iff_iff,bits_hi h n]
 unfold Ex.cin
 constructor
 ·intro h1; exact Ex.allC_mono (by simp) e (Ex.allC_and e h h1)
 ·intro h1; exact Ex.allC_mono (fun c hc=>by simp at hc ⊢; exact hc.2) e h1
theorem bits_lo' {e:Ex} {n W:Nat} (h:e.allC (fun c=>decide (0≤c∧c < (W:Int)))=true):(e.bits &&& (2 ^ n - 1)=0)=(e.cin n W=true):=by
 have h0:e.allC (fun c=>decide (0≤c))=true:=Ex.allC_mono (fun c hc=>by simp at hc ⊢; exact hc.1) e h
 rw [eq_iff_iff,bits_lo h0 n]
 unfold Ex.cin
 constructor
 ·intro h1; exact Ex.allC_mono (fun c hc=>by simp at hc ⊢; omega) e (Ex.allC_and e h h1)
 ·intro h1; exact Ex.allC_mono (fun c hc=>by simp at hc ⊢; exact hc.1) e h1
end Go.Av
namespace Go.Proofs.YtjcjpbjpbbdnlaaGreat.P
open Go Go.Av
set_option maxRecDepth 4000
set_option maxHeartbeats 4000000
theorem width8 {ws:List Int} (hw:okWs ws=true) (p:Pn):callA C0 17 [.i (.agg p.cells), .i (.isl (intsL ws))] []=some (.int (p.wd ws 8),[]):=by
 rw [planWidth_eq]; unfold Pn.width; rw [if_pos hw]
theorem wdNat {ws:List Int} (hw:okWs ws=true) {p:Pn} (h:p.wd ws 8≠0):∃ n:Nat,p.wd ws 8=n∧1≤n∧n≤6:=by
 have:=Pn.wd_range (okWs_range hw) p 8
 exact ⟨(p.wd ws 8).toNat,by omega,by omega,by omega⟩
theorem fdiv_nat (a b:Nat):Int.fdiv (a:Int) (b:Int)=((a / b:Nat):Int):=by
 rw [Int.fdiv_eq_ediv_of_nonneg _ (Int.natCast_nonneg b)]; rfl
theorem shl1 {n:Nat} (hn:n≤6):(IntKind.i64.wrap (IntKind.i64.wrap (2 ^ min n IntKind.i64.bits) - 1) % 18446744073709551616).toNat=2 ^ n - 1:=by
 have:n=0∨n=1∨n=2∨n=3∨n=4∨n=5∨n=6:=by omega
 rcases this with rfl | rfl | rfl | rfl | rfl | rfl | rfl<;>decide
theorem rule3_go {ws:List Int} (hw:okWs ws=true) {e e2:Ex} {x y:Pn} {kd:Int} (hkd:kd=4∨kd=5) (hp:(filt e (pairP kd e2 x y)).wd ws 8≠0):RuleC 89 ws 3 (filt e (pairP kd e2 x y)):=by
 obtain ⟨h1,h2,h3⟩:=filt8 hp
 obtain ⟨g1,g2,g3,g4,g5⟩:=pair8 hkd h1
 rw [g5] at h2
 obtain ⟨n,hn,n1,n2⟩:=wdNat hw g1
 have hwf:=Ex.ok_wf6 h2
 have hcol:=Ex.wf6_cols hwf
 have hb:=Ex.bits_lt e hcol
 have c1:=columns_eq e (by have:=Ex.ok_size h2; omega) hcol
 have c2:=width8 hw x
 have c3:=filterPlan_eq e x
 have c4:=pairPlan_eq kd e2 (filt e x) y
 have q:=bits_hi' (n:=n) (Ex.wf_cols0 hwf)
 rw [hn] at c2
 have o1:callA C0 125 [.i (.iref (filt e (pairP kd e2 x y)).cells), .int kd] []=_:=filterOver_yes (e:=e) (k:=pairP kd e2 x y) (kd:=kd) rfl
 have o2:kd=5→callA C0 125 [.i (.iref (filt e (pairP kd e2 x y)).cells), .int 4] []=_:=fun h=>filterOver_not (e:=e) (k:=pairP kd e2 x y) (kd:=4) (by simp [h])
 have hsh:shI .shr .i64 (e.bits:Int) (n:Int)=some (.lit (.int .i64 ((e.bits / 2 ^ n:Nat):Int))):=by
  have h1:min (n:Int).toNat IntKind.i64.bits=n:=by simp [IntKind.bits]; omega
  have h2:(0:Int)≤n:=by omega
  simp only [shI,h1,h2,decide_true,tst]
  rw [show (2:Int) ^ n=((2 ^ n:Nat):Int) by simp,fdiv_nat]
 have hr:rwP ws 3 (filt e (pairP kd e2 x y))=if e.cin 0 n=true then some (pairP kd e2 (filt e x) y) else none:=by
  rw [rwP_filt]
  simp [rwF,pairP,Pn.ex0,Pn.kid0,Pn.kid1,Pn.kind,Pn.exprs,Pn.kids,hkd,hn]
 generalize hd:e.bits / 2 ^ n=d at *
 by_cases hc:e.cin 0 n=true
 ·rw [if_pos hc] at hr
  have hd0:d=0:=by rw [q]; exact hc
  subst hd0
  refine .yes ?_ hr
  rw [callA_eq rfl Tryz.func89 rfl rfl]
  rcases hkd with rfl | rfl
  ·simp only [filt_cells,pair_cells,Ex.cells_eq e,Ex.cells_eq e2,Pn.cells_eq x,Pn.cells_eq y] at o1 c1 c2 c3 c4 ⊢
   simp [o1,c1,c2,c3,c4,hsh]
  ·have o2:=o2 rfl
   simp only [filt_cells,pair_cells,Ex.cells_eq e,Ex.cells_eq e2,Pn.cells_eq x,Pn.cells_eq y] at o1 o2 c1 c2 c3 c4 ⊢
   simp [o1,o2,c1,c2,c3,c4,hsh]
 ·rw [if_neg hc] at hr
  have hd0:¬ d=0:=by rw [q]; exact hc
  refine .no ?_ hr
  rw [callA_eq rfl Tryz.func89 rfl rfl]
  rcases hkd with rfl | rfl
  ·simp only [filt_cells,pair_cells,zero_cells,Ex.cells_eq e,Ex.cells_eq e2,Pn.cells_eq x,Pn.cells_eq y] at o1 c1 c2 ⊢
   simp [o1,c1,c2,hsh,hd0]
  ·have o2:=o2 rfl
   simp only [filt_cells,pair_cells,zero_cells,Ex.cells_eq e,Ex.cells_eq e2,Pn.cells_eq x,Pn.cells_eq y] at o1 o2 c1 c2 ⊢
   simp [o1,o2,c1,c2,hsh,hd0]
theorem rule3 {ws:List Int} (hw:okWs ws=true) {p:Pn} (hp:p.wd ws 8≠0):RuleC 89 ws 3 p:=by
 by_cases hk:p.kind=2
 ·obtain ⟨e,a,rfl⟩:=Wd_two (Wd_of hp) hk
  by_cases hk2:a.kind=4∨a.kind=5
  ·obtain ⟨e2,x,y,hx⟩:=Wd_four (Wd_filt (Wd_of hp)).1 hk2
   generalize a.kind=kd at *
   subst hx
   exact rule3_go hw hk2 hp
  ·have h1:=filterOver_not (e:=e) (k:=a) (kd:=4) (by omega)
   have h2:=filterOver_not (e:=e) (k:=a) (kd:=5) (by omega)
   refine .no ?_ (by rw [rwP_filt]; simp [rwF,hk2])
   rw [callA_eq rfl Tryz.func89 rfl rfl]
   simp only [filt_cells,zero_cells] at h1 h2 ⊢
   simp [h1,h2]
 ·have h1:=filterOver_no (p:=p) (kd:=4) hk
  have h2:=filterOver_no (p:=p) (kd:=5) hk
  refine .no ?_ (by simp [rwP,hk])
  rw [callA_eq rfl Tryz.func89 rfl rfl]
  simp only [zero_cells,Pn.cells_eq p] at h1 h2 ⊢
  simp [h1,h2]
theorem and_wrap {b n:Nat} (hb:b < 64):IntKind.i64.wrap ((b:Int) % 18446744073709551616 % 2 ^ n)=((b &&& (2 ^ n - 1):Nat):Int):=by
 rw [Nat.and_two_pow_sub_one_eq_mod]
 have h1:(b:Int) % 18446744073709551616=b:=by omega
 have h2:(b:Int) % 2 ^ n=((b % 2 ^ n:Nat):Int):=by simp
 rw [h1,h2]
 have:=Nat.mod_le b (2 ^ n)
 exact wrap64 (by omega) (by omega)
theorem rule4_go {ws:List Int} (hw:okWs ws=true) {e e2:Ex} {x y:Pn} (hp:(filt e (pairP 4 e2 x y)).wd ws 8≠0):RuleC 90 ws 4 (filt e (pairP 4 e2 x y)):=by
 obtain ⟨h1,h2,h3⟩:=filt8 hp
 obtain ⟨g1,g2,g3,g4,g5⟩:=pair8 (.inl rfl) h1
 rw [g5] at h2
 obtain ⟨n,hn,n1,n2⟩:=wdNat hw g1
 obtain ⟨m,hm,m1,m2⟩:=wdNat hw g2
 have hwf:=Ex.ok_wf6 h2
 have hcol:=Ex.wf6_cols hwf
 have hcolW:=Ex.wf_allC e (Ex.ok_wf h2).1
 have hb:=Ex.bits_lt e hcol
 have hsz:e.size < 1000000000:=by have:=Ex.ok_size h2; omega
 have c1:=columns_eq e hsz hcol
 have c2:=width8 hw x
 have c5:=renumberedR (w:=n) (by omega) e hwf hsz
 have c3:=filterPlan_eq (e.mapC (· - n)) y
 have c4:=pairPlan_eq 4 e2 x (filt (e.mapC (· - n)) y)
 rw [hn,hm,← Int.natCast_add] at hcolW
 have q:=bits_lo' (n:=n) hcolW
 rw [hn] at c2
 have o1:=filterOver_yes (e:=e) (k:=pairP 4 e2 x y) (kd:=4) rfl
 have hr:rwP ws 4 (filt e (pairP 4 e2 x y))=if e.cin n (n + m:Nat)=true then some (pairP 4 e2 x (filt (e.mapC (· - n)) y)) else none:=by
  rw [rwP_filt]
  have:∀ k:Pn,(Pn.mk 4 0 [e2] [] [x,y]).wd ws 8=((n + m:Nat):Int):=fun _=>by
   have:=g5; unfold pairP at this; rw [this,hn,hm]; simp
  simp [rwF,pairP,Pn.ex0,Pn.kid0,Pn.kid1,Pn.kind,Pn.exprs,Pn.kids,hn,this x]
 have haw:=and_wrap (b:=e.bits) (n:=n) (by omega)
 by_cases hc:e.cin n (n + m:Nat)=true
 ·rw [if_pos hc] at hr
  have hd0:e.bits &&& (2 ^ n - 1)=0:=by rw [q]; exact hc
  rw [hd0] at haw
  refine .yes ?_ hr
  generalize e.mapC (· - (n:Int))=z at *
  rw [callA_eq rfl Tryz.func90 rfl rfl]
  simp only [filt_cells,pair_cells,Ex.cells_eq e,Ex.cells_eq e2,Ex.cells_eq z,Pn.cells_eq x,Pn.cells_eq y] at o1 c1 c2 c3 c4 c5 ⊢
  simp [o1,c1,c2,c3,c4,c5,shl1 n2,haw]
 ·rw [if_neg hc] at hr
  have hd0:¬ (e.bits &&& (2 ^ n - 1)=0):=by rw [q]; exact hc
  refine .no ?_ hr
  generalize e.bits &&& (2 ^ n - 1)=d at *
  rw [callA_eq rfl Tryz.func90 rfl rfl]
  simp only [filt_cells,pair_cells,zero_cells,Ex.cells_eq e,Ex.cells_eq e2,Pn.cells_eq x,Pn.cells_eq y] at o1 c1 c2 ⊢
  simp [o1,c1,c2,hd0,shl1 n2,haw]
theorem rule4 {ws:List Int} (hw:okWs ws=true) {p:Pn} (hp:p.wd ws 8≠0):RuleC 90 ws 4 p:=by
 by_cases hk:p.kind=2
 ·obtain ⟨e,a,rfl⟩:=Wd_two (Wd_of hp) hk
  by_cases hk2:a.kind=4
  ·obtain ⟨e2,x,y,hx⟩:=Wd_four (Wd_filt (Wd_of hp)).1 (.inl hk2)
   rw [hk2] at hx
   subst hx
   exact rule4_go hw hp
  ·have h1:=filterOver_not (e:=e) (k:=a) (kd:=4) hk2
   refine .no ?_ (by rw [rwP_filt]; simp [rwF,hk2])
   rw [callA_eq rfl Tryz.func90 rfl rfl]
   simp only [filt_cells,zero_cells] at h1 ⊢
   simp [h1]
 ·have h1:=filterOver_no (p:=p) (kd:=4) hk
  refine .no ?_ (by simp [rwP,hk])
  rw [callA_eq rfl Tryz.func90 rfl rfl]
  simp only [zero_cells,Pn.cells_eq p] at h1 ⊢
  simp [h1]
theorem rule10_go {ws : List Int} (hw : okWs ws = true) {e : Ex} {es : List Ex} {x : Pn} (hp : (filt e (proj es x)).wd ws 8 ≠ 0) : RuleC 96 ws 10 (filt e (proj es x)) := by
  obtain ⟨h1, h2, h3⟩ := filt8 hp
  obtain ⟨g1, g2, g3, g4⟩ := proj8 h1
  rw [g4] at h2
  have c2 := width8 hw x
  have c5 := isub_eq e es (x.wd ws 8)
  have o1 := filterOver_yes (e := e) (k := proj es x) (kd := 3) rfl
  have hr : rwP ws 10 (filt e (proj es x)) = some (proj es (filt (e.sub es) x)) := by
    rw [rwP_filt]
    simp [rwF, proj, Pn.ex0, Pn.kid0, Pn.kid1, Pn.kind, Pn.exprs, Pn.kids]
  have c3 := filterPlan_eq (getE (e.subst es (x.wd ws 8))) x
  refine ⟨proj es (filt (getE (e.subst es (x.wd ws 8))) x), (e.subst es (x.wd ws 8)).isSome, ?_, ?_, ?_⟩
  · generalize (e.subst es (x.wd ws 8)).isSome = b at *
    generalize getE (e.subst es (x.wd ws 8)) = z at *
    rw [callA_eq rfl Tryz.func96 rfl rfl]
    simp only [filt_cells, proj_cells, Ex.cells_eq e, Ex.cells_eq z, Pn.cells_eq x] at o1 c2 c3 c5 ⊢
    simp [o1, c2, c3, c5]
  · intro hb
    rw [hr]
    unfold Ex.subst at hb ⊢
    split at hb
    · rename_i hcc; rw [if_pos hcc]; rfl
    · simp at hb
  · intro hb q' hq lv
    rw [hr] at hq
    injection hq with hq
    subst hq
    cases lv with
    | zero => rw [Pn.wd_no]; simp [proj, Pn.kids]
    | succ lv =>
      rw [wd_proj]
      refine if_neg fun hc => ?_
      have hc1 := hc.1
      cases lv with
      | zero => exact hc1 (by rw [Pn.wd_no]; simp [filt, Pn.kids])
      | succ lv =>
        rw [wd_filt] at hc1
        obtain ⟨⟨hx, hok⟩, _⟩ := ite_ne hc1
        have e8 := Wd_at (Wd_of g1) hx
        rw [e8] at hok
        unfold Ex.subst at hb
        rw [if_pos (by simp only [Bool.and_eq_true]; exact ⟨h2, g3, hok⟩)] at hb
        simp at hb
theorem rule10 {ws:List Int} (hw:okWs ws=true) {p:Pn} (hp:p.wd ws 8≠0):RuleC 96 ws 10 p:=by
 by_cases hk:p.kind=2
 ·obtain ⟨e,a,rfl⟩:=Wd_two (Wd_of hp) hk
  by_cases hk2:a.kind=3
  ·obtain ⟨es,x,rfl⟩:=Wd_three (Wd_filt (Wd_of hp)).1 hk2
   exact rule10_go hw hp
  ·have h1:=filterOver_not (e:=e) (k:=a) (kd:=3) hk2
   refine .no ?_ (by rw [rwP_filt]; simp [rwF,hk2])
   rw [callA_eq rfl Tryz.func96 rfl rfl]
   simp only [filt_cells,zero_cells] at h1 ⊢
   simp [h1]
 ·have h1:=filterOver_no (p:=p) (kd:=3) hk
  refine .no ?_ (by simp [rwP,hk])
  rw [callA_eq rfl Tryz.func96 rfl rfl]
  simp only [zero_cells,Pn.cells_eq p] at h1 ⊢
  simp [h1]
end Go.Proofs.YtjcjpbjpbbdnlaaGreat.P

namespace Go.Proofs.YtjcjpbjpbbdnlaaGreat.P
open Go Go.Av
set_option maxRecDepth 4000
set_option maxHeartbeats 4000000
def OIX (e e2:Ex) (x y:Pn) (ws:List Int) (n m i:Nat):AS :=
 {env:=[(0, .i (.iref [.int 2, .int 0, .isl [[.int e.kind, .int e.col, .bool e.val.null, .int e.val.n, .isl (Ex.cellsL e.kids)]], .isl [], .isl [[.int 5, .int 0, .isl [[.int e2.kind, .int e2.col, .bool e2.val.null, .int e2.val.n, .isl (Ex.cellsL e2.kids)]], .isl [], .isl [[.int x.kind, .int x.table, .isl (Ex.cellsL x.exprs), .isl (intsL x.cols), .isl (Pn.cellsL x.kids)],[.int y.kind, .int y.table, .isl (Ex.cellsL y.exprs), .isl (intsL y.cols), .isl (Pn.cellsL y.kids)]]]]])),(1, .i (.isl (intsL ws))),(4, .own 0 0),(5, .bool false),(6, .i (.iref [.int e.kind, .int e.col, .bool e.val.null, .int e.val.n, .isl (Ex.cellsL e.kids)])),
   (7, .i (.iref [.int 5, .int 0, .isl [[.int e2.kind, .int e2.col, .bool e2.val.null, .int e2.val.n, .isl (Ex.cellsL e2.kids)]], .isl [], .isl [[.int x.kind, .int x.table, .isl (Ex.cellsL x.exprs), .isl (intsL x.cols), .isl (Pn.cellsL x.kids)],[.int y.kind, .int y.table, .isl (Ex.cellsL y.exprs), .isl (intsL y.cols), .isl (Pn.cellsL y.kids)]]])),(8, .bool true),(9, .int ((n:Int) + m)),(10,gro 1 1 i),(11, .int ((n:Int) + i)),(19, .bool false),(36,jk i (.bool true)),(49, .junk)],
  st:=some (.box [.int 0, .int 0, .nils, .nils, .nils]) :: groB 1 (intsL (colsI n i)) i }
theorem rule7_go {ws:List Int} (hw:okWs ws=true) {e e2:Ex} {x y:Pn} (hp:(filt e (pairP 5 e2 x y)).wd ws 8≠0):RuleC 93 ws 7 (filt e (pairP 5 e2 x y)):=by
 obtain ⟨h1,h2,h3⟩:=filt8 hp
 obtain ⟨g1,g2,g3,g4,g5⟩:=pair8 (.inr rfl) h1
 have c1:=width8 hw (pairP 5 e2 x y)
 rw [g5] at h2 c1
 obtain ⟨n,hn,n1,n2⟩:=wdNat hw g1
 obtain ⟨m,hm,m1,m2⟩:=wdNat hw g2
 have c2:=width8 hw x
 rw [hn,hm,← Int.natCast_add] at h2 c1
 rw [hn] at c2
 have c3:=pairPlan_eq 4 e2 x y
 have c4:=filterPlan_eq e (pairP 4 e2 x y)
 have c5:=irejects_eq e (n:=n + m) (p:=n) (m:=m) rfl h2
 have o1:=filterOver_yes (e:=e) (k:=pairP 5 e2 x y) (kd:=5) rfl
 have hr:rwP ws 7 (filt e (pairP 5 e2 x y))=if rejP e (n + m:Nat) n=true then some (filt e (pairP 4 e2 x y)) else none:=by
  rw [rwP_filt]
  have:(Pn.mk 5 0 [e2] [] [x,y]).wd ws 8=((n + m:Nat):Int):=by
   have:=g5; unfold pairP at this; rw [this,hn,hm]; simp
  simp [rwF,pairP,Pn.ex0,Pn.kid0,Pn.kid1,Pn.kind,Pn.exprs,Pn.kids,hn,this]
 generalize rejP e (n + m:Nat) n=b at *
 have key:callA C0 93 [.i (.iref (filt e (pairP 5 e2 x y)).cells), .i (.isl (intsL ws))] []=some (.tup [.i (.agg (if b=true then filt e (pairP 4 e2 x y) else Pn.zero).cells), .bool b],[]):=by
  rw [callA_eq rfl Tryz.func93 rfl rfl]
  simp only [filt_cells,pair_cells,zero_cells,Ex.cells_eq e,Ex.cells_eq e2,Pn.cells_eq x,Pn.cells_eq y] at o1 c1 c2 c3 c4 c5 ⊢
  have ht:∀ k,(colsI n k).take k=colsI n k:=fun k=>List.take_of_length_le (by simp)
  simp only [Int.natCast_add] at c5
  simp [o1,c1,c2]
  rw [loop_to (OIX e e2 x y ws n m) m (by simp [OIX])]
  ·rw [execA_loop]
   simp [OIX,gro_pos (show m≠0 by omega),groB_pos (show m≠0 by omega),jk_pos (show m≠0 by omega)]
   cases b with
   | true=>simp [c3,c4,c5,ht,filt_cells,pair_cells,Ex.cells_eq e,Ex.cells_eq e2,Pn.cells_eq x,Pn.cells_eq y]
   | false=>simp [c5,ht,zero_cells]
  ·intro i hi
   have w2:IntKind.i64.wrap ((n:Int) + i + 1)=n + (i + 1):=by rw [wrap64 (by omega) (by omega)]; omega
   have hs:=colsI_succ n i
   have hlt:(n:Int) + i < n + m:=by omega
   by_cases h0:i=0
   ·subst h0
    have hlt0:(n:Int) < n + m:=by omega
    have w3:IntKind.i64.wrap ((n:Int) + 1)=n + 1:=by rw [wrap64 (by omega) (by omega)]
    simp [OIX,w3,hlt0,hs,intsL_append,intsL,colsI]
   ·have hl1:(i + 1) * 8≤140737488355328:=by omega
    simp [OIX,w2,hlt,hs,gro_pos h0,groB_pos h0,jk_pos h0,intsL_append,intsL,hl1,ht]
 cases b with
 | true=>exact .yes key (by rw [hr]; rfl)
 | false=>exact .no key (by rw [hr]; rfl)
theorem rule7 {ws:List Int} (hw:okWs ws=true) {p:Pn} (hp:p.wd ws 8≠0):RuleC 93 ws 7 p:=by
 by_cases hk:p.kind=2
 ·obtain ⟨e,a,rfl⟩:=Wd_two (Wd_of hp) hk
  by_cases hk2:a.kind=5
  ·obtain ⟨e2,x,y,hx⟩:=Wd_four (Wd_filt (Wd_of hp)).1 (.inr hk2)
   rw [hk2] at hx
   subst hx
   exact rule7_go hw hp
  ·have h1:=filterOver_not (e:=e) (k:=a) (kd:=5) hk2
   refine .no ?_ (by rw [rwP_filt]; simp [rwF,hk2])
   rw [callA_eq rfl Tryz.func93 rfl rfl]
   simp only [filt_cells,zero_cells] at h1 ⊢
   simp [h1]
 ·have h1:=filterOver_no (p:=p) (kd:=5) hk
  refine .no ?_ (by simp [rwP,hk])
  rw [callA_eq rfl Tryz.func93 rfl rfl]
  simp only [zero_cells,Pn.cells_eq p] at h1 ⊢
  simp [h1]
theorem comm_nth {n m i:Nat} (h:i < n + m):(colsFrom (m:Int) n ++ colsFrom 0 m)[i]?=some (colX (swapC n m i)):=by
 by_cases hi:i < n
 ·rw [List.getElem?_append_left (by simpa using hi),colsFrom_nth hi]
  unfold swapC; rw [if_pos (by omega),Int.add_comm]
 ·rw [List.getElem?_append_right (by simp; omega),colsFrom_length,colsFrom_nth (by omega)]
  unfold swapC; rw [if_neg (by omega)]; congr 2; omega
def MPX (fs es:List Ex) (x:Pn) (ws:List Int) (W:Int) (zs:List Ex) (i:Nat):AS :=
 {env:=[(0, .i (.iref [.int 3, .int 0, .isl (Ex.cellsL fs), .isl [], .isl [[.int 3, .int 0, .isl (Ex.cellsL es), .isl [], .isl [[.int x.kind, .int x.table, .isl (Ex.cellsL x.exprs), .isl (intsL x.cols), .isl (Pn.cellsL x.kids)]]]]])),(1, .i (.isl (intsL ws))),(4, .own 0 0),(5, .bool false),(6, .i (.iref [.int 3, .int 0, .isl (Ex.cellsL es), .isl [], .isl [[.int x.kind, .int x.table, .isl (Ex.cellsL x.exprs), .isl (intsL x.cols), .isl (Pn.cellsL x.kids)]]])),(7, .int W),(8, .own 1 0),(9,jk i (.int (i - 1))),(10,if i=0 then .junk else .own 3 0),(11,jk i (.bool true)),(26, .bool false),(50, .int fs.length),(51, .int i),(52,jk i (.bool true)),(71,jk i (.bool false))],
  st:=some (.box [.int 0, .int 0, .nils, .nils, .nils]) :: some (.box [.int 3, .int 0,gro 2 5 i, .nils, .i (.isl [[.int x.kind, .int x.table, .isl (Ex.cellsL x.exprs), .isl (intsL x.cols), .isl (Pn.cellsL x.kids)]])]) :: (if i=0 then [] else [some (.arr 5 (Ex.cellsL (zs.take i))),some (.box (impI ((zs[i - 1]?).getD Ex.zero).cells))]) }
def CJX (e:Ex) (x y:Pn) (ws:List Int) (n m i:Nat):AS :=
 {env:=[(0, .i (.iref [.int 4, .int 0, .isl [[.int e.kind, .int e.col, .bool e.val.null, .int e.val.n, .isl (Ex.cellsL e.kids)]], .isl [], .isl [[.int x.kind, .int x.table, .isl (Ex.cellsL x.exprs), .isl (intsL x.cols), .isl (Pn.cellsL x.kids)],[.int y.kind, .int y.table, .isl (Ex.cellsL y.exprs), .isl (intsL y.cols), .isl (Pn.cellsL y.kids)]]])),(1, .i (.isl (intsL ws))),(4, .own 0 0),(5, .bool false),(6, .own 1 0),(7, .own 2 0),(8, .fn (.func 132) [.own 1 0, .own 2 0]),(9, .own 3 0),(10,jk i (.int (i - 1))),(15, .bool false),(37, .int ((n:Int) + m)),(38, .int i),(39,jk i (.bool true))],
  st:=some (.box [.int 0, .int 0, .nils, .nils, .nils]) :: some (.box [.int n]) :: some (.box [.int m]) :: some (.box [.int 3, .int 0,gro 4 5 i, .nils, .nils]) :: groB 5 (Ex.cellsL ((colsFrom (m:Int) n ++ colsFrom 0 m).take i)) i }
theorem rule6_go {ws:List Int} (hw:okWs ws=true) {e:Ex} {x y:Pn} (hp:(pairP 4 e x y).wd ws 8≠0):RuleC 92 ws 6 (pairP 4 e x y):=by
 obtain ⟨g1,g2,g3,g4,g5⟩:=pair8 (.inl rfl) hp
 obtain ⟨n,hn,n1,n2⟩:=wdNat hw g1
 obtain ⟨m,hm,m1,m2⟩:=wdNat hw g2
 have c1:=width8 hw x
 have c2:=width8 hw y
 have hwf:=Ex.ok_wf6 g4
 have hsz:e.size < 1000000000:=by have:=Ex.ok_size g4; omega
 have c5:=renumberedS (a:=n) (b:=m) (by omega) (by omega) e hwf hsz
 have c4:=pairPlan_eq 4 (e.mapC (swapC n m)) y x
 have hr:rwP ws 6 (pairP 4 e x y)=some (proj (colsFrom m n ++ colsFrom 0 m) (pairP 4 (e.mapC (swapC n m)) y x)):=by
  simp [rwP,pairP,Pn.ex0,Pn.kid0,Pn.kid1,Pn.kind,Pn.exprs,Pn.kids,hn,hm]
 rw [hn] at c1
 rw [hm] at c2
 refine .yes ?_ hr
 generalize e.mapC (swapC n m)=z at *
 rw [callA_eq rfl Tryz.func92 rfl rfl]
 simp only [proj_cells,pair_cells,zero_cells,Ex.cells_eq e,Ex.cells_eq z,Pn.cells_eq x,Pn.cells_eq y] at c1 c2 c4 c5 ⊢
 have w0:IntKind.i64.wrap ((n:Int) + m)=n + m:=wrap64 (by omega) (by omega)
 have hlen:(colsFrom (m:Int) n ++ colsFrom 0 m).length=n + m:=by simp
 simp [c1,c2,w0]
 rw [loop_to (CJX e x y ws n m) (n + m) (by simp [CJX])]
 ·rw [execA_loop]
  have htk:(colsFrom (m:Int) n ++ colsFrom 0 m).take (n + m)=colsFrom (m:Int) n ++ colsFrom 0 m:=List.take_of_length_le (by omega)
  simp [CJX,gro_pos (show n + m≠0 by omega),groB_pos (show n + m≠0 by omega),jk_pos (show n + m≠0 by omega),htk,c4,c5]
 ·intro i hi
  have hnth:=comm_nth hi
  have htk:=take_snoc hnth
  have hpl:=place_swap i n m (by omega) (by omega) (by omega)
  have hco:=icolumn_eq (swapC n m i)
  generalize swapC n m i=c at *
  rw [colX_cells] at hco
  have hlt:(i:Int) < n + m:=by omega
  have w2:IntKind.i64.wrap ((i:Int) + 1)=i + 1:=wrap64 (by omega) (by omega)
  by_cases h0:i=0
  ·subst h0
   have hlt0:(0:Int) < n + m:=by omega
   simp at hpl
   simp [CJX,hlt0,hpl,hco,wrap_1,htk,Ex.cellsL,colX_cells]
  ·have hl1:(i + 1) * 56≤140737488355328:=by omega
   have hl2:i≤min i (n + m):=by omega
   simp [CJX,w2,hlt,hpl,hco,gro_pos h0,groB_pos h0,jk_pos h0,htk,Ex.cellsL_snoc,colX_cells,hl1,hl2,List.take_take]
theorem rule11_go {ws : List Int} (hw : okWs ws = true) {fs es : List Ex} {x : Pn} (hp : (proj fs (proj es x)).wd ws 8 ≠ 0) : RuleC 97 ws 11 (proj fs (proj es x)) := by
  obtain ⟨h1, h2, h3, h4⟩ := proj8 hp
  obtain ⟨g1, g2, g3, g4⟩ := proj8 h1
  rw [g4] at h3
  have c2 := width8 hw x
  have c5 := fun e => isub_eq e es (x.wd ws 8)
  have hr : rwP ws 11 (proj fs (proj es x)) = some (proj (fs.map (Ex.sub es)) x) := by
    simp [rwP, proj, Pn.ex0, Pn.kid0, Pn.kid1, Pn.kind, Pn.exprs, Pn.kids]
  generalize hW : x.wd ws 8 = W at *
  have hin : ∀ (i : Nat) (a : Ex), fs[i]? = some a → (a.subst es W).isSome = true → (fs.map (Ex.sub es))[i]? = some (a.sub es) ∧ a.subst es W = some (a.sub es) := by
    intro i a ha hs
    refine ⟨by simp [ha], ?_⟩
    unfold Ex.subst at hs ⊢
    split at hs
    · rename_i hc; rw [if_pos hc]
    · simp at hs
  have hlen : fs.length ≤ 6 := by unfold okWidth at h2; simp at h2; omega
  obtain ⟨j, k1, k2⟩ := upto_bad (fun e => (e.subst es W).isSome) fs
  have hround : ∀ i, i < j → i < fs.length ∧ ∃ f z, fs[i]? = some f ∧ nthE (Ex.cellsL fs) i = some f.cells ∧ (fs.map (Ex.sub es))[i]? = some z ∧ f.subst es W = some z := by
    intro i hi
    obtain ⟨f, q1, q2, q3⟩ := k1 i hi
    obtain ⟨q4, q5⟩ := hin i f q1 q3
    exact ⟨(List.getElem?_eq_some_iff.1 q1).1, f, _, q1, Ex.cellsL_nth q1, q4, q5⟩
  have hfl : fs.length ≠ 0 := by intro h; rw [h] at h2; simp [okWidth] at h2
  have hzl : (fs.map (Ex.sub es)).length = fs.length := by simp
  have hq : ∀ lv, (proj (fs.map (Ex.sub es)) x).wd ws lv ≠ 0 → ∀ f ∈ fs, (f.sub es).ok W = true := by
    intro lv hne f hf
    cases lv with
    | zero => exact absurd (by rw [Pn.wd_no]; simp [proj, Pn.kids]) hne
    | succ lv =>
      rw [wd_proj] at hne
      obtain ⟨⟨q1, q2, q3⟩, _⟩ := ite_ne hne
      have e8 := Wd_at (Wd_of (p := x) (lv := 8) (by rw [hW]; exact g1)) q1
      rw [e8, hW] at q3
      exact List.all_eq_true.1 q3 _ (List.mem_map_of_mem hf)
  generalize fs.map (Ex.sub es) = zs at *
  have main : ∀ r, callA C0 97 [.i (.iref (proj fs (proj es x)).cells), .i (.isl (intsL ws))] [] = r → r = if j = fs.length then some (.tup [.i (.agg (proj zs x).cells), .bool true], []) else some (.tup [.i (.agg Pn.zero.cells), .bool false], []) := by
    intro r hr'
    subst hr'
    rw [callA_eq rfl Tryz.func97 rfl rfl]
    simp only [proj_cells, Pn.cells_eq x] at c2 ⊢
    simp [c2]
    rw [loop_to (MPX fs es x ws W zs) j (by simp [MPX])]
    · rw [execA_loop]
      rcases k2 with ⟨hj, ha⟩ | ⟨f, q1, q2, q3, ha⟩
      · have htk : zs.take fs.length = zs := List.take_of_length_le (by omega)
        simp [MPX, hj, hfl, gro_pos hfl, htk, hzl]
      · have hj : j < fs.length := (List.getElem?_eq_some_iff.1 q1).1
        have hne : ¬ j = fs.length := by omega
        have r1 := Ex.cellsL_nth q1
        have hn : f.subst es W = none := by cases h : f.subst es W with | none => rfl | some _ => rw [h] at q3; simp at q3
        have c6 := c5 f
        rw [hn] at c6
        simp only [getE, Option.getD, Option.isSome, Ex.cells_eq f, zero_cells] at c6 r1
        by_cases h0 : j = 0
        · subst h0
          simp [MPX, hj, hne, r1, c6, zero_cells]
        · simp [MPX, hj, hne, r1, c6, h0, gro_pos h0, jk_pos h0, zero_cells]
    · intro i hi
      obtain ⟨hil, f, z, q1, r1, q4, q5⟩ := hround i hi
      have c6 := c5 f
      rw [q5] at c6
      have htk := take_snoc q4
      have w2 : IntKind.i64.wrap ((i : Int) + 1) = i + 1 := wrap64 (by omega) (by omega)
      simp only [getE, Option.getD, Option.isSome, Ex.cells_eq f, Ex.cells_eq z] at c6 r1
      by_cases h0 : i = 0
      · subst h0
        simp [MPX, hil, r1, c6, wrap_1, htk, q4, Ex.cellsL, Ex.cells_eq z]
      · have hl1 : (i + 1) * 56 ≤ 140737488355328 := by omega
        have hl2 : i ≤ min i zs.length := by omega
        simp [MPX, hil, r1, c6, w2, htk, q4, h0, gro_pos h0, jk_pos h0, Ex.cellsL_snoc, Ex.cells_eq z, hl1, hl2, List.take_take]
  have hm := main _ rfl
  rcases k2 with ⟨hj, ha⟩ | ⟨f, q1, q2, q3, ha⟩
  · rw [if_pos hj] at hm
    exact .yes hm hr
  · have hj : j < fs.length := (List.getElem?_eq_some_iff.1 q1).1
    rw [if_neg (by omega)] at hm
    refine ⟨.zero, false, hm, by simp, fun _ q' hq' lv => ?_⟩
    rw [hr] at hq'
    injection hq' with hq'
    subst hq'
    by_cases hne : (proj zs x).wd ws lv = 0
    · exact hne
    · have hok := hq lv hne f q2
      unfold Ex.subst at q3
      rw [if_pos (by simp only [Bool.and_eq_true]; exact ⟨List.all_eq_true.1 h3 f q2, g3, hok⟩)] at q3
      simp at q3
theorem rule6 {ws:List Int} (hw:okWs ws=true) {p:Pn} (hp:p.wd ws 8≠0):RuleC 92 ws 6 p:=by
 by_cases hk:p.kind=4
 ·obtain ⟨e,x,y,hx⟩:=Wd_four (Wd_of hp) (.inl hk)
  rw [hk] at hx
  subst hx
  exact rule6_go hw hp
 ·refine .no ?_ ?_
  ·rw [callA_eq rfl Tryz.func92 rfl rfl]
   simp only [zero_cells,Pn.cells_eq p]
   simp [hk]
  ·unfold rwP
   split
   ·unfold rwF; simp
   ·simp [hk]
theorem rule11 {ws:List Int} (hw:okWs ws=true) {p:Pn} (hp:p.wd ws 8≠0):RuleC 97 ws 11 p:=by
 by_cases hk:p.kind=3
 ·obtain ⟨fs,a,rfl⟩:=Wd_three (Wd_of hp) hk
  by_cases hk2:a.kind=3
  ·obtain ⟨V,hV,_⟩:=Wd_proj (Wd_of hp)
   obtain ⟨es,x,rfl⟩:=Wd_three hV hk2
   exact rule11_go hw hp
  ·refine .no ?_ (by simp [rwP,Pn.kid0,proj,hk2])
   rw [callA_eq rfl Tryz.func97 rfl rfl]
   simp only [proj_cells,zero_cells,Pn.cells_eq a]
   simp [hk2]
 ·refine .no ?_ ?_
  ·rw [callA_eq rfl Tryz.func97 rfl rfl]
   simp only [zero_cells,Pn.cells_eq p]
   simp [hk]
  ·unfold rwP
   split
   ·unfold rwF; simp
   ·simp [hk]
end Go.Proofs.YtjcjpbjpbbdnlaaGreat.P

namespace Go.Av
theorem rwL_none {ws:List Int} {r:Int} {lv:Nat} {p:Pn} (h:∀ q',rwP ws r p=some q'→∀ lv,q'.wd ws lv=0):rwL ws r lv p=none:=by
 unfold rwL
 cases hq:rwP ws r p with
 | none=>rfl
 | some q=>simp [h q hq lv]
theorem rwL_some {ws:List Int} {r:Int} {lv:Nat} {p q:Pn} (h:rwP ws r p=some q):rwL ws r lv p=if q.wd ws lv=0 then none else some q:=by
 unfold rwL
 rw [h]
 by_cases hq:q.wd ws lv=0<;>simp [hq]
def getP (o:Option Pn):Pn:=o.getD Pn.zero
end Go.Av
namespace Go.Proofs.YtjcjpbjpbbdnlaaGreat.P
open Go Go.Av
set_option maxRecDepth 4000
set_option maxHeartbeats 4000000
theorem rewritten_out {ws:List Int} {p:Pn} {r:Int} {lv:Nat} (h:r < 1∨11 < r):callA C0 54 [.i (.iref p.cells), .i (.isl (intsL ws)), .int r, .int lv] []=some (.tup [.i (.agg Pn.zero.cells), .bool false],[]):=by
 rw [callA_eq rfl Tryz.func54 rfl rfl,zero_cells]
 rcases h with h | h
 ·simp [h]
 ·simp [show ¬ r < 1 by omega,show 12≤r by omega]
theorem rewritten_eq {ws : List Int} (hw : okWs ws = true) {p : Pn} (hp : p.wd ws 8 ≠ 0) (r : Int) {lv : Nat} (hl : lv ≤ 8) : callA C0 54 [.i (.iref p.cells), .i (.isl (intsL ws)), .int r, .int lv] [] = some (.tup [.i (.agg (getP (rwL ws r lv p)).cells), .bool (rwL ws r lv p).isSome], []) := by
  have hr : (r < 1 ∨ 11 < r) ∨ (r = 1 ∧ RuleC 87 ws 1 p) ∨ (r = 2 ∧ RuleC 88 ws 2 p) ∨ (r = 3 ∧ RuleC 89 ws 3 p) ∨ (r = 4 ∧ RuleC 90 ws 4 p) ∨ (r = 5 ∧ RuleC 91 ws 5 p) ∨ (r = 6 ∧ RuleC 92 ws 6 p) ∨ (r = 7 ∧ RuleC 93 ws 7 p) ∨ (r = 8 ∧ RuleC 94 ws 8 p) ∨ (r = 9 ∧ RuleC 95 ws 9 p) ∨ (r = 10 ∧ RuleC 96 ws 10 p) ∨ (r = 11 ∧ RuleC 97 ws 11 p) := by
    by_cases h : r < 1 ∨ 11 < r
    · exact .inl h
    · refine .inr ?_
      have : r = 1 ∨ r = 2 ∨ r = 3 ∨ r = 4 ∨ r = 5 ∨ r = 6 ∨ r = 7 ∨ r = 8 ∨ r = 9 ∨ r = 10 ∨ r = 11 := by omega
      rcases this with rfl | rfl | rfl | rfl | rfl | rfl | rfl | rfl | rfl | rfl | rfl
      · exact (.inl ⟨rfl, rule1 (Wd_of hp)⟩)
      · exact (.inr (.inl ⟨rfl, rule2 (Wd_of hp)⟩))
      · exact (.inr (.inr (.inl ⟨rfl, rule3 hw hp⟩)))
      · exact (.inr (.inr (.inr (.inl ⟨rfl, rule4 hw hp⟩))))
      · exact (.inr (.inr (.inr (.inr (.inl ⟨rfl, rule5 (Wd_of hp)⟩)))))
      · exact (.inr (.inr (.inr (.inr (.inr (.inl ⟨rfl, rule6 hw hp⟩))))))
      · exact (.inr (.inr (.inr (.inr (.inr (.inr (.inl ⟨rfl, rule7 hw hp⟩)))))))
      · exact (.inr (.inr (.inr (.inr (.inr (.inr (.inr (.inl ⟨rfl, rule8 (Wd_of hp)⟩))))))))
      · exact (.inr (.inr (.inr (.inr (.inr (.inr (.inr (.inr (.inl ⟨rfl, rule9 (Wd_of hp)⟩)))))))))
      · exact (.inr (.inr (.inr (.inr (.inr (.inr (.inr (.inr (.inr (.inl ⟨rfl, rule10 hw hp⟩))))))))))
      · exact (.inr (.inr (.inr (.inr (.inr (.inr (.inr (.inr (.inr (.inr (⟨rfl, rule11 hw hp⟩)))))))))))
  rcases hr with h | ⟨rfl, q, b, h1, h2, h3⟩ | ⟨rfl, q, b, h1, h2, h3⟩ | ⟨rfl, q, b, h1, h2, h3⟩ | ⟨rfl, q, b, h1, h2, h3⟩ | ⟨rfl, q, b, h1, h2, h3⟩ | ⟨rfl, q, b, h1, h2, h3⟩ | ⟨rfl, q, b, h1, h2, h3⟩ | ⟨rfl, q, b, h1, h2, h3⟩ | ⟨rfl, q, b, h1, h2, h3⟩ | ⟨rfl, q, b, h1, h2, h3⟩ | ⟨rfl, q, b, h1, h2, h3⟩
  · rw [rewritten_out h]
    have : rwL ws r lv p = none := rwL_none fun q' hq => by
      have := rwP_rule hq
      simp [rules] at this
      omega
    rw [this]; rfl
  all_goals
    have h4 := widthBelow_eq (okWs_range hw) q lv hl
    rw [callA_eq rfl Tryz.func54 rfl rfl]
    cases b with
    | false =>
      rw [rwL_none (h3 rfl)]
      simp only [getP, Option.getD, Option.isSome, zero_cells, Pn.cells_eq p, Pn.cells_eq q] at h1 h4 ⊢
      simp [h1]
    | true =>
      rw [rwL_some (h2 rfl)]
      by_cases hq : q.wd ws lv = 0
      · rw [hq] at h4
        rw [if_pos hq]
        simp only [getP, Option.getD, Option.isSome, zero_cells, Pn.cells_eq p, Pn.cells_eq q] at h1 h4 ⊢
        simp [h1, h4]
      · rw [if_neg hq]
        simp only [getP, Option.getD, Option.isSome, Pn.cells_eq p, Pn.cells_eq q] at h1 h4 ⊢
        simp [h1, h4, hq]
end Go.Proofs.YtjcjpbjpbbdnlaaGreat.P

namespace Go.Av
theorem wd_kids {ws:List Int} {p:Pn} {lv:Nat} (h:p.wd ws lv≠0) (hk:p.kids≠[]):p.kids.length≤2∧lv≠0∧∀ a∈p.kids,a.wd ws (lv - 1)≠0:=by
 rw [Pn.wd_eq] at h
 obtain ⟨h1,h2⟩:=ite_ne h
 refine ⟨Pn.headOk_kids h1.1,h1.2.resolve_left hk,?_⟩
 split at h2
 ·rename_i hk1
  exact absurd (Pn.headOk_leaf h1.1 hk1) hk
 ·obtain ⟨h3,_⟩:=ite_ne h2
  exact fun a ha=>by simpa using List.all_eq_true.1 h3 a ha
def stpC (s:Stp):List IV:=[.int s.1, .isl (intsL s.2)]
def stpsL (l:List Stp):List (List IV):=l.map stpC
@[simp] theorem stpsL_length (l:List Stp):(stpsL l).length=l.length:=by simp [stpsL]
@[simp] theorem stpsL_widths:∀ l:List Stp,widths 2 (stpsL l)=true
 | []=>rfl
 | s :: l=>by have:=stpsL_widths l; simp only [stpsL] at this; simp [stpsL,stpC,this]
theorem stpsL_append (a b:List Stp):stpsL (a ++ b)=stpsL a ++ stpsL b:=by simp [stpsL]
@[simp] theorem stpsL_take (n:Nat) (l:List Stp):(stpsL l).take n=stpsL (l.take n):=by simp [stpsL,List.map_take]
theorem stpsL_nil:stpsL []=[]:=rfl
theorem stpsL_nth {l:List Stp} {i:Nat} {s:Stp} (h:l[i]?=some s):nthE (stpsL l) i=some (stpC s):=by
 rw [nthE_eq]; simp [stpsL,h]
theorem stIL_append (ws:List Int) (path:List Int):∀ (l m:List Pn) (i:Nat),stIL ws path i (l ++ m)=stIL ws path i l ++ stIL ws path (i + l.length) m
 | [],m,i=>by simp [stIL]
 | a :: l,m,i=>by simp only [List.cons_append,stIL,stIL_append ws path l m (i + 1),List.append_assoc,List.length_cons]; congr 3; omega
theorem stIL_snoc (ws:List Int) (path:List Int) {l:List Pn} {i:Nat} {a:Pn} (h:l[i]?=some a):stIL ws path 0 (l.take (i + 1))=stIL ws path 0 (l.take i) ++ stI ws (path ++ [(i:Int)]) a:=by
 have hl:(l.take i).length=i:=by have:=(List.getElem?_eq_some_iff.1 h).1; simp; omega
 rw [take_snoc h,stIL_append,hl]
 simp [stIL]
theorem stI_len (ws : List Int) : ∀ (p : Pn) (path : List Int), (stI ws path p).length ≤ 11 * p.size := by
  intro p
  induction p using Pn.ind with
  | h k t es cs ks ih =>
    intro path
    have hL : ∀ (l : List Pn) (i : Nat), (∀ a ∈ l, a ∈ ks) → (stIL ws path i l).length ≤ 11 * Pn.sizeL l := by
      intro l
      induction l with
      | nil => intro i _; simp [stIL, Pn.sizeL]
      | cons a l ihl =>
        intro i hm
        have h1 := ih a (hm a (by simp)) (path ++ [(i : Int)])
        have h2 := ihl (i + 1) fun x hx => hm x (by simp [hx])
        simp only [stIL, Pn.sizeL, List.length_append]; omega
    have h1 := hL ks 0 fun a h => h
    have h2 : ∀ f : Int → Bool, (rules.filter f).length ≤ 11 := fun f => by have := List.length_filter_le f rules; simpa [rules] using this
    simp only [stI, Pn.size, List.length_append, List.length_map]
    have := h2 fun r => (rwL ws r (8 - path.length) (.mk k t es cs ks)).isSome
    omega
def accR (ws path:List Int) (p:Pn) (i:Nat):List Stp:=((rules.take i).filter fun r=>(rwL ws r (8 - path.length) p).isSome).map fun r=>(r,path)
theorem accR_succ {ws path:List Int} {p:Pn} {i:Nat} (h:i < 11):accR ws path p (i + 1)=accR ws path p i ++ if (rwL ws ((i:Int) + 1) (8 - path.length) p).isSome=true then [((i:Int) + 1,path)] else []:=by
 have h1:rules[i]?=some ((i:Int) + 1):=by
  have:i=0∨i=1∨i=2∨i=3∨i=4∨i=5∨i=6∨i=7∨i=8∨i=9∨i=10:=by omega
  rcases this with rfl | rfl | rfl | rfl | rfl | rfl | rfl | rfl | rfl | rfl | rfl<;>rfl
 unfold accR
 rw [take_snoc h1,List.filter_append,List.map_append]
 congr 1
 simp only [List.filter]
 split<;>rename_i h2<;>simp [h2]
theorem stI_acc (ws path:List Int) (p:Pn):stI ws path p=accR ws path p 11 ++ stIL ws path 0 p.kids:=by
 rw [stI_eq]; rfl
end Go.Av
namespace Go.Proofs.YtjcjpbjpbbdnlaaGreat.P
open Go Go.Av
set_option maxRecDepth 4000
set_option maxHeartbeats 4000000
structure Yl (R:Rng) (cs:List AV):Prop where
 ids:cs=[.own 1 0, .junk, .junk]
 y00:∀ r:Int,callA C0 yldF [.fn (.yield 0) [.own 0 0], .agg [.int r, .nils]] [some (.loop R cs .ready),some (.box [.nils])]=some (.bool true,[some (.loop R cs .ready),some (.box [.osl 2 2 0 1]),some (.arr 2 [[.int r, .isl []]])])
 y01:∀ (r:Int) (path:List Int),path≠[]→callA C0 yldF [.fn (.yield 0) [.own 0 0], .agg [.int r, .osl 2 1 0 path.length]] [some (.loop R cs .ready),some (.box [.nils]),some (.arr 1 (intsL path))]=some (.bool true,[some (.loop R cs .ready),some (.box [.osl 3 2 0 1]),some (.frz 1 (intsL path)),some (.arr 2 [[.int r, .isl (intsL path)]])])
 y10:∀ (r:Int) (n:Nat) (l:List Stp),l.length=n→n≠0→n < 1000000→callA C0 yldF [.fn (.yield 0) [.own 0 0], .agg [.int r, .nils]] [some (.loop R cs .ready),some (.box [.osl 2 2 0 n]),some (.arr 2 (stpsL l))]=some (.bool true,[some (.loop R cs .ready),some (.box [.osl 3 2 0 (n + 1)]),none,some (.arr 2 (stpsL l ++ [[.int r, .isl []]]))])
 y11:∀ (r:Int) (n:Nat) (l:List Stp) (path:List Int),path≠[]→l.length=n→n≠0→n < 1000000→callA C0 yldF [.fn (.yield 0) [.own 0 0], .agg [.int r, .osl 3 1 0 path.length]] [some (.loop R cs .ready),some (.box [.osl 2 2 0 n]),some (.arr 2 (stpsL l)),some (.arr 1 (intsL path))]=some (.bool true,[some (.loop R cs .ready),some (.box [.osl 4 2 0 (n + 1)]),none,some (.frz 1 (intsL path)),some (.arr 2 (stpsL l ++ [[.int r, .isl (intsL path)]]))])
theorem steps_eq (p:Pn) (ws:List Int):callA C0 117 [.i (.iref p.cells), .i (.isl (intsL ws))] []=some (.fn (.func 148) [.own 0 0, .own 1 0],[some (.box [.i (.iref p.cells)]),some (.box [.i (.isl (intsL ws))])]):=by
 rw [callA_eq rfl Tryz.func117 rfl rfl]
 simp
end Go.Proofs.YtjcjpbjpbbdnlaaGreat.P

namespace Go.Proofs.YtjcjpbjpbbdnlaaGreat.P
open Go Go.Av
set_option maxRecDepth 4000
set_option maxHeartbeats 8000000
theorem copiedPath (path:List Int):path=[]∨path≠[]:=by cases path<;>simp
end Go.Proofs.YtjcjpbjpbbdnlaaGreat.P

namespace Go.Av
theorem width_okWs {p:Pn} {ws:List Int} (h:p.width ws≠0):okWs ws=true∧p.wd ws 8≠0∧p.width ws=p.wd ws 8:=by
 unfold Pn.width at h ⊢
 split at h
 ·rename_i hw; exact ⟨hw,h,if_pos hw⟩
 ·exact absurd rfl h
def stepsP (p:Pn) (ws:List Int):List Stp:=if p.width ws=0 then [] else stI ws [] p
theorem accR_mem {ws path:List Int} {p:Pn} {i:Nat} {s:Stp} (h:s∈accR ws path p i):s.2=path:=by
 unfold accR at h
 obtain ⟨r,_,rfl⟩:=List.mem_map.1 h
 rfl
mutual
theorem stI_pre (ws : List Int) : ∀ (p : Pn) (path : List Int), ∀ s ∈ stI ws path p, ∃ r, s.2 = path ++ r
  | .mk k t es cs ks, path, s, h => by
    rw [stI_acc] at h
    rcases List.mem_append.1 h with h | h
    · exact ⟨[], by rw [accR_mem h]; simp⟩
    · obtain ⟨j, r, _, hr⟩ := stIL_pre ws ks path 0 s h
      exact ⟨_, hr⟩
theorem stIL_pre (ws : List Int) : ∀ (l : List Pn) (path : List Int) (i : Nat), ∀ s ∈ stIL ws path i l, ∃ (j : Nat) (r : List Int), i ≤ j ∧ s.2 = path ++ ((j : Int) :: r)
  | [], _, _, s, h => by simp [stIL] at h
  | a :: l, path, i, s, h => by
    simp only [stIL, List.mem_append] at h
    rcases h with h | h
    · obtain ⟨r, hr⟩ := stI_pre ws a (path ++ [(i : Int)]) s h
      exact ⟨i, r, Nat.le_refl _, by rw [hr]; simp⟩
    · obtain ⟨j, r, hj, hr⟩ := stIL_pre ws l path (i + 1) s h
      exact ⟨j, r, by omega, hr⟩
end
end Go.Av
namespace Go.Proofs.YtjcjpbjpbbdnlaaGreat.P
open Go Go.Av
set_option maxRecDepth 4000
set_option maxHeartbeats 8000000
end Go.Proofs.YtjcjpbjpbbdnlaaGreat.P

namespace Go.Av
theorem wd_thin {ws : List Int} : ∀ (p : Pn) (lv : Nat), p.wd ws lv ≠ 0 → p.thin := by
  intro p
  induction p using Pn.ind with
  | h k t es cs ks ih =>
    intro lv h
    have hk : ∀ a ∈ ks, a.thin := fun a ha => by
      have h2 := (wd_kids (p := .mk k t es cs ks) h (by intro e; simp only [Pn.kids] at e; rw [e] at ha; simp at ha)).2.2 a ha
      exact ih a ha _ h2
    have hs := wd_shape h
    rw [Pn.thin_iff]
    generalize hp : Pn.mk k t es cs ks = p at *
    have hks : ks = p.kids := by rw [← hp]; rfl
    subst hks
    have ok1 : ∀ {w : Int} {e : Ex}, e.ok w = true → e.thin := fun h => Ex.thin_of_size _ (by have := Ex.ok_size h; omega)
    cases hs with
    | scan => simp [Pn.scan, Pn.exprs, Pn.cols, Pn.kids]
    | filt m e a _ _ he => exact ⟨by simp [filt, Pn.exprs], fun x hx => by simp [filt, Pn.exprs] at hx; subst hx; exact ok1 he, by simp [filt, Pn.cols], by simp [filt, Pn.kids], hk⟩
    | proj m es a _ _ hl he => exact ⟨by simp [proj, Pn.exprs]; unfold okWidth at hl; simp at hl; omega, fun x hx => ok1 (he x hx), by simp [proj, Pn.cols], by simp [proj, Pn.kids], hk⟩
    | pair m kd e a b _ _ _ _ _ he => exact ⟨by simp [pairP, Pn.exprs], fun x hx => by simp [pairP, Pn.exprs] at hx; subst hx; exact ok1 he, by simp [pairP, Pn.cols], by simp [pairP, Pn.kids], hk⟩
    | union m a b => exact ⟨by simp [unionP, Pn.exprs], by simp [unionP, Pn.exprs], by simp [unionP, Pn.cols], by simp [unionP, Pn.kids], hk⟩
    | dist m a => exact ⟨by simp [Pn.exprs], by simp [Pn.exprs], by simp [Pn.cols], by simp [Pn.kids], hk⟩
    | group m cs a _ _ hc => exact ⟨by simp [Pn.exprs], by simp [Pn.exprs], by simp only [Pn.cols]; omega, by simp [Pn.kids], hk⟩
theorem colX_thin (c:Int):(colX c).thin:=by simp [colX,Ex.thin,Ex.thinL]
theorem colsFrom_thin (a:Int) (n:Nat):∀ b∈colsFrom a n,b.thin:=by
 intro b hb
 simp only [colsFrom,List.mem_map] at hb
 obtain ⟨i,_,rfl⟩:=hb
 exact colX_thin _
theorem wd_lt8 {ws:List Int} {p:Pn} (h:p.wd ws 8≠0) (hk:p.kids≠[]):∀ a∈p.kids,a.wd ws 8≠0:=fun a ha=>by
 have h2:=(wd_kids h hk).2.2 a ha
 rw [Pn.wd_more a 7 8 h2 (by omega)]; exact h2
end Go.Av
namespace Go.Proofs.YtjcjpbjpbbdnlaaGreat.P
open Go Go.Av
set_option maxRecDepth 4000
set_option maxHeartbeats 4000000
theorem spw8 {ws:List Int} (hw:okWs ws=true) {p:Pn} (hp:p.thin):callA C0 103 [.i (.agg p.cells), .i (.isl (intsL ws)), .int 8] []=some (.int (p.wd ws 8),[]):=by
 refine splanWidth_eq (okWs_range hw) ?_ p (Pn.thin_lim p hp) 8 (by omega)
 unfold okWs at hw; simp at hw; omega
theorem sfilterOf_eq (e:Ex) (p:Pn):callA C0 151 [.i (.agg e.cells), .i (.agg p.cells)] []=some (.i (.agg (filt e p).cells),[]):=by
 rw [callA_eq rfl Tryz.func151 rfl rfl,filt_cells,Ex.cells_eq,Pn.cells_eq]
 simp
def CFX (a:Int) (n i:Nat):AS :=
 {env:=[(0, .int a),(1, .int n),(4, .nils),(5, .osl 0 5 0 i),(6, .int i),(10,jk i (.bool true))],st:=[some (.arr 5 (Ex.cellsL (colsFrom a i)))] }
theorem scolsFrom_eq (a:Int) (ha:0≤a∧a≤100) (n:Nat) (hn:n < 1000):callA C0 142 [.int a, .int n] []=some (.osl 0 5 0 n,[some (.arr 5 (Ex.cellsL (colsFrom a n)))]):=by
 rw [callA_eq rfl Tryz.func142 rfl rfl]
 simp
 rw [loop_to (CFX a n) n (by simp [CFX,colsFrom,Ex.cellsL])]
 ·rw [execA_loop]
  have h8:(colsFrom a n).take n=colsFrom a n:=List.take_of_length_le (by simp)
  simp [CFX,h8]
 ·intro i hi
  have w2:IntKind.i64.wrap ((i:Int) + 1)=i + 1:=wrap64 (by omega) (by omega)
  have w3:IntKind.i64.wrap (a + (i:Int))=a + i:=wrap64 (by omega) (by omega)
  have h8:(colsFrom a i).take i=colsFrom a i:=List.take_of_length_le (by simp)
  simp [CFX,hi,w2,w3,h8,colsFrom_succ,Ex.cellsL_snoc,colX_cells,show (i + 1) * 56≤140737488355328 by omega]
def SRule (ws:List Int) (r:Int) (e:Ex) (k:Pn):Prop:=callA C0 141 [.i (.agg (filt e k).cells), .int r, .i (.isl (intsL ws))] []=some (.tup [.i (.agg ((rwF ws r e k).getD (filt e k)).cells), .bool (rwF ws r e k).isSome],[])
theorem srule_other {ws : List Int} (hw : okWs ws = true) {e : Ex} {k : Pn} (hp : (filt e k).wd ws 8 ≠ 0) {r : Int} (hr : r ≠ 1 ∧ r ≠ 2 ∧ r ≠ 3 ∧ r ≠ 4 ∧ r ≠ 5 ∧ r ≠ 7 ∧ r ≠ 8 ∧ r ≠ 10) : SRule ws r e k := by
  obtain ⟨h1, h2, h3⟩ := filt8 hp
  have c1 := spw8 hw (wd_thin k 8 h1)
  unfold SRule
  obtain ⟨r1, r2, r3, r4, r5, r7, r8, r10⟩ := hr
  have hn : rwF ws r e k = none := by simp [rwF, r1, r2, r3, r4, r5, r7, r8, r10]
  rw [hn, callA_eq rfl Tryz.func141 rfl rfl]
  cases hk : k.kids with
  | nil =>
    simp only [Option.getD, filt_cells, Ex.cells_eq e, Pn.cells_eq k, hk, Pn.cellsL] at c1 ⊢
    simp [c1, r1, r2, r3, r4, r5, r7, r8, r10]
  | cons x xs =>
    have c2 := spw8 hw (wd_thin x 8 (wd_lt8 h1 (by simp [hk]) x (by simp [hk])))
    simp only [Option.getD, filt_cells, Ex.cells_eq e, Pn.cells_eq k, hk, Pn.cellsL, Pn.cells_eq x] at c1 c2 ⊢
    simp [c1, c2, r1, r2, r3, r4, r5, r7, r8, r10]
end Go.Proofs.YtjcjpbjpbbdnlaaGreat.P

/- Part 6 of what the proof rests on: the executor and what it is worth, and the program's functions as it runs them. No condition. -/
import Derived.Test.YtjcjpbjpbbdnlaaGreatT5
set_option linter.unusedVariables false
set_option linter.unusedSimpArgs false
namespace Go.Proofs.YtjcjpbjpbbdnlaaGreat.P
open Go Go.Av
set_option maxRecDepth 4000
set_option maxHeartbeats 4000000
theorem srule_no {ws : List Int} (hw : okWs ws = true) {e : Ex} {k : Pn} (hp : (filt e k).wd ws 8 ≠ 0) {r : Int} (hr : (r = 1 ∧ k.kind ≠ 2) ∨ (r = 2 ∧ e.kind ≠ 8) ∨ (r = 3 ∧ ¬ (k.kind = 4 ∨ k.kind = 5)) ∨ (r = 4 ∧ k.kind ≠ 4) ∨ (r = 5 ∧ k.kind ≠ 4) ∨ (r = 7 ∧ k.kind ≠ 5) ∨ (r = 8 ∧ k.kind ≠ 6) ∨ (r = 10 ∧ k.kind ≠ 3)) : SRule ws r e k := by
  obtain ⟨h1, h2, h3⟩ := filt8 hp
  have c1 := spw8 hw (wd_thin k 8 h1)
  unfold SRule
  have hn : rwF ws r e k = none := by
    rcases hr with ⟨rfl, q⟩ | ⟨rfl, q⟩ | ⟨rfl, q⟩ | ⟨rfl, q⟩ | ⟨rfl, q⟩ | ⟨rfl, q⟩ | ⟨rfl, q⟩ | ⟨rfl, q⟩ <;> simp [rwF, q]
  have hr' : (r = 1 ∧ k.kind ≠ 2) ∨ (r = 2 ∧ e.kind ≠ 8) ∨ (r = 3 ∧ (k.kind ≠ 4 ∧ k.kind ≠ 5)) ∨ (r = 4 ∧ k.kind ≠ 4) ∨ (r = 5 ∧ k.kind ≠ 4) ∨ (r = 7 ∧ k.kind ≠ 5) ∨ (r = 8 ∧ k.kind ≠ 6) ∨ (r = 10 ∧ k.kind ≠ 3) := by omega
  rw [hn, callA_eq rfl Tryz.func141 rfl rfl]
  cases hk : k.kids with
  | nil =>
    simp only [Option.getD, filt_cells, Ex.cells_eq e, Pn.cells_eq k, hk, Pn.cellsL] at c1 ⊢
    rcases hr' with ⟨rfl, q⟩ | ⟨rfl, q⟩ | ⟨rfl, q⟩ | ⟨rfl, q⟩ | ⟨rfl, q⟩ | ⟨rfl, q⟩ | ⟨rfl, q⟩ | ⟨rfl, q⟩ <;> simp [c1, q]
  | cons x xs =>
    have c2 := spw8 hw (wd_thin x 8 (wd_lt8 h1 (by simp [hk]) x (by simp [hk])))
    simp only [Option.getD, filt_cells, Ex.cells_eq e, Pn.cells_eq k, hk, Pn.cellsL, Pn.cells_eq x] at c1 c2 ⊢
    rcases hr' with ⟨rfl, q⟩ | ⟨rfl, q⟩ | ⟨rfl, q⟩ | ⟨rfl, q⟩ | ⟨rfl, q⟩ | ⟨rfl, q⟩ | ⟨rfl, q⟩ | ⟨rfl, q⟩ <;> simp [c1, c2, q]
theorem srule1 {ws:List Int} (hw:okWs ws=true) {e e2:Ex} {a:Pn} (hp:(filt e (filt e2 a)).wd ws 8≠0):SRule ws 1 e (filt e2 a):=by
 obtain ⟨h1,h2,h3⟩:=filt8 hp
 have c1:=spw8 hw (wd_thin _ 8 h1)
 have c2:=spw8 hw (wd_thin _ 8 (filt8 h1).1)
 have c3:=sfilterOf_eq (andE e2 e) a
 have hr:rwF ws 1 e (filt e2 a)=some (filt (andE e2 e) a):=by simp [rwF,filt,Pn.ex0,Pn.kid0,Pn.kind,Pn.exprs,Pn.kids]
 unfold SRule
 rw [hr,callA_eq rfl Tryz.func141 rfl rfl]
 generalize (filt e2 a).wd ws 8=W at *
 generalize a.wd ws 8=V at *
 simp only [Option.getD,Option.isSome,filt_cells,andE_cells,Ex.cells_eq e,Ex.cells_eq e2,Pn.cells_eq a] at c1 c2 c3 ⊢
 simp [c1,c2,c3]
theorem srule2 {ws : List Int} (hw : okWs ws = true) {e x y : Ex} {k : Pn} (hp : (filt e k).wd ws 8 ≠ 0) (he : e.kind = 8) (hk2 : e.kids = [x, y]) : SRule ws 2 e k := by
  obtain ⟨h1, h2, h3⟩ := filt8 hp
  have c1 := spw8 hw (wd_thin k 8 h1)
  have c3 := sfilterOf_eq x k
  have c4 := sfilterOf_eq y (filt x k)
  have hr : rwF ws 2 e k = some (filt y (filt x k)) := by simp [rwF, he, Ex.kid0, Ex.kid1, hk2]
  unfold SRule
  rw [hr, callA_eq rfl Tryz.func141 rfl rfl]
  cases hk : k.kids with
  | nil =>
    simp only [Option.getD, Option.isSome, filt_cells, Ex.cells_eq e, hk2, Ex.cellsL, Ex.cells_eq x, Ex.cells_eq y, Pn.cells_eq k, hk, Pn.cellsL] at c1 c3 c4 ⊢
    simp [c1, c3, c4, he]
  | cons z zs =>
    have c2 := spw8 hw (wd_thin z 8 (wd_lt8 h1 (by simp [hk]) z (by simp [hk])))
    simp only [Option.getD, Option.isSome, filt_cells, Ex.cells_eq e, hk2, Ex.cellsL, Ex.cells_eq x, Ex.cells_eq y, Pn.cells_eq k, hk, Pn.cellsL, Pn.cells_eq z] at c1 c2 c3 c4 ⊢
    simp [c1, c2, c3, c4, he]
theorem srule3 {ws : List Int} (hw : okWs ws = true) {e e2 : Ex} {x y : Pn} {kd : Int} (hkd : kd = 4 ∨ kd = 5) (hp : (filt e (pairP kd e2 x y)).wd ws 8 ≠ 0) : SRule ws 3 e (pairP kd e2 x y) := by
  obtain ⟨h1, h2, h3⟩ := filt8 hp
  obtain ⟨g1, g2, g3, g4, g5⟩ := pair8 hkd h1
  have c1 := spw8 hw (wd_thin _ 8 h1)
  have c2 := spw8 hw (wd_thin _ 8 g1)
  obtain ⟨n, hn, n1, n2⟩ := wdNat hw g1
  rw [hn] at c2
  have c3 := sfilterOf_eq e x
  have c4 := within_eq e (Ex.ok_wf h2).1 (by have := Ex.ok_size h2; omega) 0 n (by omega)
  have w1 : IntKind.i64.wrap ((n : Int) - 1) = n - 1 := wrap64 (by omega) (by omega)
  have hr : rwF ws 3 e (pairP kd e2 x y) = if e.cin 0 n = true then some (pairP kd e2 (filt e x) y) else none := by
    simp [rwF, pairP, Pn.ex0, Pn.kid0, Pn.kid1, Pn.kind, Pn.exprs, Pn.kids, hkd, hn]
  unfold SRule
  rw [hr, callA_eq rfl Tryz.func141 rfl rfl]
  generalize (pairP kd e2 x y).wd ws 8 = W at *
  cases hb : e.cin 0 n with
  | true =>
    rw [hb] at c4
    simp only [if_true, Option.getD, Option.isSome, filt_cells, pair_cells, Ex.cells_eq e, Ex.cells_eq e2, Pn.cells_eq x, Pn.cells_eq y] at c1 c2 c3 c4 ⊢
    rcases hkd with rfl | rfl <;> simp [c1, c2, c3, c4, w1]
  | false =>
    rw [hb] at c4
    simp only [Bool.false_eq_true, if_false, Option.getD, Option.isSome, filt_cells, pair_cells, Ex.cells_eq e, Ex.cells_eq e2, Pn.cells_eq x, Pn.cells_eq y] at c1 c2 c3 c4 ⊢
    rcases hkd with rfl | rfl <;> simp [c1, c2, c4, w1]
theorem srule4 {ws : List Int} (hw : okWs ws = true) {e e2 : Ex} {x y : Pn} (hp : (filt e (pairP 4 e2 x y)).wd ws 8 ≠ 0) : SRule ws 4 e (pairP 4 e2 x y) := by
  obtain ⟨h1, h2, h3⟩ := filt8 hp
  obtain ⟨g1, g2, g3, g4, g5⟩ := pair8 (.inl rfl) h1
  have c1 := spw8 hw (wd_thin _ 8 h1)
  have c2 := spw8 hw (wd_thin _ 8 g1)
  obtain ⟨n, hn, n1, n2⟩ := wdNat hw g1
  obtain ⟨m, hm, m1, m2⟩ := wdNat hw g2
  have hwf := (Ex.ok_wf h2).1
  rw [g5, hn, hm, ← Int.natCast_add] at hwf
  have g5' := g5
  rw [hn, hm, ← Int.natCast_add] at g5'
  rw [g5'] at c1
  rw [hn] at c2
  have c4 := within_eq e hwf (by have := Ex.ok_size h2; omega) n (n + m : Nat) (by omega)
  have w1 : IntKind.i64.wrap ((n : Int) + m - 1) = n + m - 1 := wrap64 (by omega) (by omega)
  have w2 : IntKind.i64.wrap ((n : Int) + m - n) = m := by rw [wrap64 (by omega) (by omega)]; omega
  have hr : rwF ws 4 e (pairP 4 e2 x y) = if e.cin n (n + m : Nat) = true then some (pairP 4 e2 x (filt (e.mapC (· - n)) y)) else none := by
    have := g5'; unfold pairP at this
    simp [rwF, pairP, Pn.ex0, Pn.kid0, Pn.kid1, Pn.kind, Pn.exprs, Pn.kids, hn, this]
  have f1 := scolsFrom_eq 0 (by omega) n (by omega)
  have f2 := scolsFrom_eq 0 (by omega) m (by omega)
  have hlen : (colsFrom 0 n ++ colsFrom 0 m).length = n + m := by simp
  have f3 := substitute_eq (colsFrom 0 n ++ colsFrom 0 m) (fun b hb => by
    rcases List.mem_append.1 hb with h | h <;> exact colsFrom_thin _ _ b h) e (Ex.thin_of_size _ (by have := Ex.ok_size h2; omega)) (by rw [hlen]; exact Ex.wf_colsB e hwf)
  unfold SRule
  rw [hr, callA_eq rfl Tryz.func141 rfl rfl]
  cases hb : e.cin n (n + m : Nat) with
  | true =>
    have hsub : e.sub (colsFrom 0 n ++ colsFrom 0 m) = e.mapC (· - n) := Ex.sub_mapC (g := fun c => decide ((n : Int) ≤ c ∧ c < (n + m : Nat))) (fun c hc => by
      simp only [decide_eq_true_eq] at hc
      rw [List.getElem?_append_right (by simp; omega), colsFrom_length, colsFrom_nth (by omega)]
      congr 2; omega) e hb
    rw [hsub] at f3
    have c3 := sfilterOf_eq (e.mapC (· - n)) y
    generalize e.mapC (· - (n : Int)) = z at *
    rw [hb] at c4
    have ht : ∀ k : Nat, (colsFrom 0 k).take k = colsFrom 0 k := fun k => List.take_of_length_le (by simp)
    have ht2 : (Ex.cellsL (colsFrom 0 n) ++ Ex.cellsL (colsFrom 0 m)).take (n + m) = Ex.cellsL (colsFrom 0 n) ++ Ex.cellsL (colsFrom 0 m) := List.take_of_length_le (by simp)
    have hl1 : (n + m) * 56 ≤ 140737488355328 := by omega
    simp only [Int.natCast_add] at c1 c4
    simp only [if_true, Option.getD, Option.isSome, filt_cells, pair_cells, Ex.cells_eq e, Ex.cells_eq e2, Ex.cells_eq z, Pn.cells_eq x, Pn.cells_eq y, Ex.cellsL_append] at c1 c2 c3 c4 f3 ⊢
    simp [c1, c2, c3, c4, w1, w2, f1, f2, f3, ht, ht2, hl1]
  | false =>
    rw [hb] at c4
    simp only [Int.natCast_add] at c1 c4
    simp only [Bool.false_eq_true, if_false, Option.getD, Option.isSome, filt_cells, pair_cells, Ex.cells_eq e, Ex.cells_eq e2, Pn.cells_eq x, Pn.cells_eq y] at c1 c2 c4 ⊢
    simp [c1, c2, c4, w1]
theorem srule5 {ws:List Int} (hw:okWs ws=true) {e e2:Ex} {x y:Pn} (hp:(filt e (pairP 4 e2 x y)).wd ws 8≠0):SRule ws 5 e (pairP 4 e2 x y):=by
 obtain ⟨h1,h2,h3⟩:=filt8 hp
 obtain ⟨g1,g2,g3,g4,g5⟩:=pair8 (.inl rfl) h1
 have c1:=spw8 hw (wd_thin _ 8 h1)
 have c2:=spw8 hw (wd_thin _ 8 g1)
 have hr:rwF ws 5 e (pairP 4 e2 x y)=some (pairP 4 (andE e2 e) x y):=by
  simp [rwF,pairP,Pn.ex0,Pn.kid0,Pn.kid1,Pn.kind,Pn.exprs,Pn.kids]
 unfold SRule
 rw [hr,callA_eq rfl Tryz.func141 rfl rfl]
 generalize (pairP 4 e2 x y).wd ws 8=W at *
 generalize x.wd ws 8=V at *
 simp only [Option.getD,Option.isSome,filt_cells,pair_cells,andE_cells,Ex.cells_eq e,Ex.cells_eq e2,Pn.cells_eq x,Pn.cells_eq y] at c1 c2 ⊢
 simp [c1,c2]
theorem srule7 {ws : List Int} (hw : okWs ws = true) {e e2 : Ex} {x y : Pn} (hp : (filt e (pairP 5 e2 x y)).wd ws 8 ≠ 0) : SRule ws 7 e (pairP 5 e2 x y) := by
  obtain ⟨h1, h2, h3⟩ := filt8 hp
  obtain ⟨g1, g2, g3, g4, g5⟩ := pair8 (.inr rfl) h1
  have c1 := spw8 hw (wd_thin _ 8 h1)
  have c2 := spw8 hw (wd_thin _ 8 g1)
  obtain ⟨n, hn, n1, n2⟩ := wdNat hw g1
  obtain ⟨m, hm, m1, m2⟩ := wdNat hw g2
  have hwf := (Ex.ok_wf h2).1
  rw [g5, hn, hm, ← Int.natCast_add] at hwf
  have g5' := g5
  rw [hn, hm, ← Int.natCast_add] at g5'
  rw [g5'] at c1
  rw [hn] at c2
  have c3 := sfilterOf_eq e (pairP 4 e2 x y)
  have f1 := columnList_eq (n := n + m) (p := n) (m := m) rfl (by omega)
  have f2 := srejects_eq e (n := n + m) (p := n) (m := m) rfl (by omega) hwf
  have hr : rwF ws 7 e (pairP 5 e2 x y) = if rejP e (n + m : Nat) n = true then some (filt e (pairP 4 e2 x y)) else none := by
    have := g5'; unfold pairP at this
    simp [rwF, pairP, Pn.ex0, Pn.kid0, Pn.kid1, Pn.kind, Pn.exprs, Pn.kids, hn, this]
  unfold SRule
  rw [hr, callA_eq rfl Tryz.func141 rfl rfl]
  simp only [Int.natCast_add] at c1 f1 f2
  cases hb : rejP e (n + m : Nat) n with
  | true =>
    rw [show rejP e ((n : Int) + m) n = true by rw [← Int.natCast_add]; exact hb] at f2
    simp only [if_true, Option.getD, Option.isSome, filt_cells, pair_cells, Ex.cells_eq e, Ex.cells_eq e2, Pn.cells_eq x, Pn.cells_eq y] at c1 c2 c3 f2 ⊢
    simp [c1, c2, c3, f1, f2]
  | false =>
    rw [show rejP e ((n : Int) + m) n = false by rw [← Int.natCast_add]; exact hb] at f2
    simp only [Bool.false_eq_true, if_false, Option.getD, Option.isSome, filt_cells, pair_cells, Ex.cells_eq e, Ex.cells_eq e2, Pn.cells_eq x, Pn.cells_eq y] at c1 c2 f2 ⊢
    simp [c1, c2, f1, f2]
theorem srule8 {ws:List Int} (hw:okWs ws=true) {e:Ex} {x y:Pn} (hp:(filt e (unionP x y)).wd ws 8≠0):SRule ws 8 e (unionP x y):=by
 obtain ⟨h1,h2,h3⟩:=filt8 hp
 have c1:=spw8 hw (wd_thin _ 8 h1)
 have c2:=spw8 hw (wd_thin x 8 (wd_lt8 h1 (by simp [unionP,Pn.kids]) x (by simp [unionP,Pn.kids])))
 have c3:=sfilterOf_eq e x
 have c4:=sfilterOf_eq e y
 have hr:rwF ws 8 e (unionP x y)=some (unionP (filt e x) (filt e y)):=by
  simp [rwF,unionP,Pn.ex0,Pn.kid0,Pn.kid1,Pn.kind,Pn.exprs,Pn.kids]
 unfold SRule
 rw [hr,callA_eq rfl Tryz.func141 rfl rfl]
 generalize (unionP x y).wd ws 8=W at *
 generalize x.wd ws 8=V at *
 simp only [Option.getD,Option.isSome,filt_cells,union_cells,Ex.cells_eq e,Pn.cells_eq x,Pn.cells_eq y] at c1 c2 c3 c4 ⊢
 simp [c1,c2,c3,c4]
theorem srule10 {ws:List Int} (hw:okWs ws=true) {e:Ex} {es:List Ex} {x:Pn} (hp:(filt e (proj es x)).wd ws 8≠0):SRule ws 10 e (proj es x):=by
 obtain ⟨h1,h2,h3⟩:=filt8 hp
 obtain ⟨g1,g2,g3,g4⟩:=proj8 h1
 have c1:=spw8 hw (wd_thin _ 8 h1)
 have c2:=spw8 hw (wd_thin _ 8 g1)
 rw [g4] at h2
 have c3:=sfilterOf_eq (e.sub es) x
 have f3:=substitute_eq es (fun b hb=>Ex.thin_of_size _ (by have:=Ex.ok_size (List.all_eq_true.1 g3 b hb); omega)) e (Ex.thin_of_size _ (by have:=Ex.ok_size h2; omega)) (Ex.wf_colsB e (Ex.ok_wf h2).1)
 have hr:rwF ws 10 e (proj es x)=some (proj es (filt (e.sub es) x)):=by
  simp [rwF,proj,Pn.ex0,Pn.kid0,Pn.kid1,Pn.kind,Pn.exprs,Pn.kids]
 unfold SRule
 rw [hr,callA_eq rfl Tryz.func141 rfl rfl]
 generalize (proj es x).wd ws 8=W at *
 generalize x.wd ws 8=V at *
 generalize e.sub es=z at *
 simp only [Option.getD,Option.isSome,filt_cells,proj_cells,Ex.cells_eq e,Ex.cells_eq z,Pn.cells_eq x] at c1 c2 c3 f3 ⊢
 simp [c1,c2,c3,f3]
end Go.Proofs.YtjcjpbjpbbdnlaaGreat.P

namespace Go.Proofs.YtjcjpbjpbbdnlaaGreat.P
open Go Go.Av
set_option maxRecDepth 4000
set_option maxHeartbeats 4000000
theorem srule_eq {ws:List Int} (hw:okWs ws=true) {e:Ex} {k:Pn} (hp:(filt e k).wd ws 8≠0) (r:Int):SRule ws r e k:=by
 obtain ⟨h1,h2,h3⟩:=filt8 hp
 by_cases hr:r≠1∧r≠2∧r≠3∧r≠4∧r≠5∧r≠7∧r≠8∧r≠10
 ·exact srule_other hw hp hr
 have hk:=Wd_of h1
 have hr':r=1∨r=2∨r=3∨r=4∨r=5∨r=7∨r=8∨r=10:=by omega
 rcases hr' with rfl | rfl | rfl | rfl | rfl | rfl | rfl | rfl
 ·by_cases q:k.kind=2
  ·obtain ⟨e2,a,rfl⟩:=Wd_two hk q
   exact srule1 hw hp
  ·exact srule_no hw hp (.inl ⟨rfl,q⟩)
 ·by_cases q:e.kind=8
  ·rcases Ex.wf_shape (Ex.ok_wf h2).1 with ⟨h,_⟩ | ⟨h,_⟩ | ⟨h,_⟩ | ⟨_,x,y,h,_⟩
   ·omega
   ·omega
   ·omega
   ·exact srule2 hw hp q h
  ·exact srule_no hw hp (.inr (.inl ⟨rfl,q⟩))
 ·by_cases q:k.kind=4∨k.kind=5
  ·obtain ⟨e2,x,y,hx⟩:=Wd_four hk q
   generalize k.kind=kd at *
   subst hx
   exact srule3 hw q hp
  ·exact srule_no hw hp (.inr (.inr (.inl ⟨rfl,q⟩)))
 ·by_cases q:k.kind=4
  ·obtain ⟨e2,x,y,hx⟩:=Wd_four hk (.inl q)
   rw [q] at hx; subst hx
   exact srule4 hw hp
  ·exact srule_no hw hp (.inr (.inr (.inr (.inl ⟨rfl,q⟩))))
 ·by_cases q:k.kind=4
  ·obtain ⟨e2,x,y,hx⟩:=Wd_four hk (.inl q)
   rw [q] at hx; subst hx
   exact srule5 hw hp
  ·exact srule_no hw hp (.inr (.inr (.inr (.inr (.inl ⟨rfl,q⟩)))))
 ·by_cases q:k.kind=5
  ·obtain ⟨e2,x,y,hx⟩:=Wd_four hk (.inr q)
   rw [q] at hx; subst hx
   exact srule7 hw hp
  ·exact srule_no hw hp (.inr (.inr (.inr (.inr (.inr (.inl ⟨rfl,q⟩))))))
 ·by_cases q:k.kind=6
  ·obtain ⟨x,y,rfl⟩:=Wd_six hk q
   exact srule8 hw hp
  ·exact srule_no hw hp (.inr (.inr (.inr (.inr (.inr (.inr (.inl ⟨rfl,q⟩)))))))
 ·by_cases q:k.kind=3
  ·obtain ⟨es,x,rfl⟩:=Wd_three hk q
   exact srule10 hw hp
  ·exact srule_no hw hp (.inr (.inr (.inr (.inr (.inr (.inr (.inr ⟨rfl,q⟩)))))))
def SRw (ws:List Int) (r:Int) (p:Pn):Prop:=callA C0 105 [.i (.agg p.cells), .int r, .i (.isl (intsL ws))] []=some (.tup [.i (.agg ((rwP ws r p).getD p).cells), .bool (rwP ws r p).isSome],[])
theorem srw_filt {ws:List Int} (hw:okWs ws=true) {e:Ex} {k:Pn} (hp:(filt e k).wd ws 8≠0) (r:Int):SRw ws r (filt e k):=by
 have h:=srule_eq hw hp r
 unfold SRule at h
 unfold SRw
 rw [rwP_filt]
 generalize (rwF ws r e k).getD (filt e k)=q at *
 generalize (rwF ws r e k).isSome=b at *
 rw [callA_eq rfl Tryz.func105 rfl rfl]
 simp only [filt_cells,Pn.cells_eq q] at h ⊢
 simp [h]
theorem srw_no {ws:List Int} {p:Pn} {r:Int} (h2:p.kind≠2) (h4:¬ (r=6∧p.kind=4)) (h7:¬ (r=9∧p.kind=7)) (h3:¬ (r=11∧p.kind=3)):SRw ws r p:=by
 have hn:rwP ws r p=none:=by
  unfold rwP
  rw [if_neg h2,if_neg h4,if_neg (fun h=>h7 ⟨h.1,h.2.1⟩),if_neg (fun h=>h3 ⟨h.1,h.2.1⟩)]
 unfold SRw
 rw [hn,callA_eq rfl Tryz.func105 rfl rfl]
 simp only [Option.getD,Option.isSome,Pn.cells_eq p]
 by_cases r6:r=6
 ·have k4:¬ p.kind=4:=fun h=>h4 ⟨r6,h⟩
  simp [h2,r6,k4]
 ·by_cases r9:r=9
  ·have k7:¬ p.kind=7:=fun h=>h7 ⟨r9,h⟩
   simp [h2,r9,k7]
  ·by_cases r11:r=11
   ·have k3:¬ p.kind=3:=fun h=>h3 ⟨r11,h⟩
    simp [h2,r11,k3]
   ·simp [h2,r6,r9,r11]
theorem srw_six {ws:List Int} (hw:okWs ws=true) {e:Ex} {x y:Pn} (hp:(pairP 4 e x y).wd ws 8≠0):SRw ws 6 (pairP 4 e x y):=by
 obtain ⟨g1,g2,g3,g4,g5⟩:=pair8 (.inl rfl) hp
 have c1:=spw8 hw (wd_thin _ 8 g1)
 have c2:=spw8 hw (wd_thin _ 8 g2)
 obtain ⟨n,hn,n1,n2⟩:=wdNat hw g1
 obtain ⟨m,hm,m1,m2⟩:=wdNat hw g2
 have hwf:=(Ex.ok_wf g4).1
 rw [hn] at c1 hwf
 rw [hm] at c2 hwf
 have f1:=scolsFrom_eq m (by omega) n (by omega)
 have f2:=scolsFrom_eq 0 (by omega) m (by omega)
 have hlen:(colsFrom (m:Int) n ++ colsFrom 0 m).length=n + m:=by simp
 have f3:=substitute_eq (colsFrom (m:Int) n ++ colsFrom 0 m) (fun b hb=>by
  rcases List.mem_append.1 hb with h | h<;>exact colsFrom_thin _ _ b h) e (Ex.thin_of_size _ (by have:=Ex.ok_size g4; omega)) (by rw [hlen,Int.natCast_add]; exact Ex.wf_colsB e hwf)
 have hsub:e.sub (colsFrom (m:Int) n ++ colsFrom 0 m)=e.mapC (swapC n m):=Ex.sub_mapC (g:=fun c=>decide (0≤c∧c < (n:Int) + m)) (fun c hc=>by
   simp only [decide_eq_true_eq] at hc
   rw [comm_nth (by omega)]
   congr 3; omega) e (Ex.wf_allC e hwf)
 rw [hsub] at f3
 have hr:rwP ws 6 (pairP 4 e x y)=some (proj (colsFrom m n ++ colsFrom 0 m) (pairP 4 (e.mapC (swapC n m)) y x)):=by
  simp [rwP,pairP,Pn.ex0,Pn.kid0,Pn.kid1,Pn.kind,Pn.exprs,Pn.kids,hn,hm]
 unfold SRw
 rw [hr,callA_eq rfl Tryz.func105 rfl rfl]
 generalize e.mapC (swapC n m)=z at *
 have ht:∀ (a:Int) (k:Nat),(colsFrom a k).take k=colsFrom a k:=fun a k=>List.take_of_length_le (by simp)
 have ht2:(Ex.cellsL (colsFrom m n) ++ Ex.cellsL (colsFrom 0 m)).take (n + m)=Ex.cellsL (colsFrom m n) ++ Ex.cellsL (colsFrom 0 m):=List.take_of_length_le (by simp)
 have hl1:(n + m) * 56≤140737488355328:=by omega
 simp only [Option.getD,Option.isSome,proj_cells,pair_cells,Ex.cells_eq e,Ex.cells_eq z,Pn.cells_eq x,Pn.cells_eq y,Ex.cellsL_append] at c1 c2 f3 ⊢
 simp [c1,c2,f1,f2,f3,ht,ht2,hl1]
theorem srw_nine {ws:List Int} {a:Pn}:SRw ws 9 (.mk 7 0 [] [] [a]):=by
 have hc:(Pn.mk 7 0 [] [] [a]).cells=[.int 7, .int 0, .isl [], .isl [], .isl [a.cells]]:=by simp [Pn.cells,Ex.cellsL,intsL,Pn.cellsL]
 unfold SRw
 rw [callA_eq rfl Tryz.func105 rfl rfl]
 by_cases h:a.kind=7∨a.kind=8
 ·have hr:rwP ws 9 (.mk 7 0 [] [] [a])=some a:=by simp [rwP,Pn.kid0,Pn.kids,h]
  rw [hr]
  simp only [Option.getD,Option.isSome,hc,Pn.cells_eq a]
  rcases h with h | h<;>simp [h]
 ·have hr:rwP ws 9 (.mk 7 0 [] [] [a])=none:=by simp [rwP,Pn.kid0,Pn.kids,h]
  rw [hr]
  simp only [Option.getD,Option.isSome,hc,Pn.cells_eq a]
  have h7:¬ a.kind=7:=by omega
  have h8:¬ a.kind=8:=by omega
  simp [h7,h8]
theorem srw_eleven_no {ws:List Int} {fs:List Ex} {a:Pn} (h:a.kind≠3):SRw ws 11 (proj fs a):=by
 have hr:rwP ws 11 (proj fs a)=none:=by simp [rwP,Pn.kid0,Pn.kids,proj,h]
 unfold SRw
 rw [hr,callA_eq rfl Tryz.func105 rfl rfl]
 simp only [Option.getD,Option.isSome,proj_cells,Pn.cells_eq a]
 simp [h]
def SRX (fs es:List Ex) (x:Pn) (ws:List Int) (zs:List Ex) (i:Nat):AS :=
 {env:=[(0, .i (.agg [.int 3, .int 0, .isl (Ex.cellsL fs), .isl [], .isl [[.int 3, .int 0, .isl (Ex.cellsL es), .isl [], .isl [[.int x.kind, .int x.table, .isl (Ex.cellsL x.exprs), .isl (intsL x.cols), .isl (Pn.cellsL x.kids)]]]]])),(1, .int 11),(2, .i (.isl (intsL ws))),(3, .own 0 0),(6, .own 1 0),(7, .bool false),(8, .junk),(9, .junk),(10, .junk),(11, .junk),(12, .osl 2 5 0 i),(13, .int i),(14, .bool false),(24, .bool false),(71, .bool false),(99, .bool true),(120,jk i (.bool true))],
  st:=[some (.box [.i (.int 3), .i (.int 0), .i (.isl (Ex.cellsL fs)), .i (.isl []), .i (.isl [[.int 3, .int 0, .isl (Ex.cellsL es), .isl [], .isl [[.int x.kind, .int x.table, .isl (Ex.cellsL x.exprs), .isl (intsL x.cols), .isl (Pn.cellsL x.kids)]]]])]),some (.box [.int 0, .int 0, .nils, .nils, .nils]),some (.arr 5 (Ex.cellsL (zs.take i)))] }
theorem srw_eleven {ws:List Int} {fs es:List Ex} {x:Pn} (hp:(proj fs (proj es x)).wd ws 8≠0):SRw ws 11 (proj fs (proj es x)):=by
 obtain ⟨h1,h2,h3,h4⟩:=proj8 hp
 obtain ⟨g1,g2,g3,g4⟩:=proj8 h1
 rw [g4] at h3
 have f3:=fun f (hf:f∈fs)=>substitute_eq es (fun b hb=>Ex.thin_of_size _ (by have:=Ex.ok_size (List.all_eq_true.1 g3 b hb); omega)) f (Ex.thin_of_size _ (by have:=Ex.ok_size (List.all_eq_true.1 h3 f hf); omega)) (Ex.wf_colsB f (Ex.ok_wf (List.all_eq_true.1 h3 f hf)).1)
 have hr:rwP ws 11 (proj fs (proj es x))=some (proj (fs.map (Ex.sub es)) x):=by
  simp [rwP,proj,Pn.ex0,Pn.kid0,Pn.kid1,Pn.kind,Pn.exprs,Pn.kids]
 unfold SRw
 rw [hr,callA_eq rfl Tryz.func105 rfl rfl]
 have hlen:fs.length≤6:=by unfold okWidth at h2; simp at h2; omega
 have hz:∀ (i:Nat) (f:Ex),fs[i]?=some f→(fs.map (Ex.sub es))[i]?=some (f.sub es):=fun i f h=>by simp [h]
 have hzl:(fs.map (Ex.sub es)).length=fs.length:=by simp
 generalize fs.map (Ex.sub es)=zs at *
 simp only [Option.getD,Option.isSome,proj_cells,Pn.cells_eq x]
 simp
 rw [loop_to (SRX fs es x ws zs) fs.length (by simp [SRX,Ex.cellsL])]
 ·rw [execA_loop]
  have ht:zs.take fs.length=zs:=List.take_of_length_le (by omega)
  simp [SRX,ht,hzl]
 ·intro i hi
  have q1:=List.getElem?_eq_getElem hi
  have hm:=List.mem_of_getElem? q1
  have r1:=Ex.cellsL_nth q1
  generalize fs[i]=f at q1 hm r1
  have q2:=hz i f q1
  have c5:=f3 f hm
  generalize f.sub es=z at q2 c5
  have htk:=take_snoc q2
  have w2:IntKind.i64.wrap ((i:Int) + 1)=i + 1:=wrap64 (by omega) (by omega)
  have hl1:(i + 1) * 56≤140737488355328:=by omega
  have hl2:i≤min i zs.length:=by omega
  simp only [Ex.cells_eq f,Ex.cells_eq z] at c5 r1
  simp [SRX,hi,r1,c5,w2,htk,Ex.cellsL_snoc,Ex.cells_eq z,hl1,hl2,List.take_take]
theorem srw_eq {ws:List Int} (hw:okWs ws=true) {p:Pn} (hp:p.wd ws 8≠0) (r:Int):SRw ws r p:=by
 have hk:=Wd_of hp
 by_cases k2:p.kind=2
 ·obtain ⟨e,a,rfl⟩:=Wd_two hk k2
  exact srw_filt hw hp r
 by_cases k4:r=6∧p.kind=4
 ·obtain ⟨rfl,k4⟩:=k4
  obtain ⟨e,x,y,hx⟩:=Wd_four hk (.inl k4)
  rw [k4] at hx; subst hx
  exact srw_six hw hp
 by_cases k7:r=9∧p.kind=7
 ·obtain ⟨rfl,k7⟩:=k7
  obtain ⟨a,rfl⟩:=Wd_sev hk k7
  exact srw_nine
 by_cases k3:r=11∧p.kind=3
 ·obtain ⟨rfl,k3⟩:=k3
  obtain ⟨fs,a,rfl⟩:=Wd_three hk k3
  by_cases k33:a.kind=3
  ·obtain ⟨V,hV,_⟩:=Wd_proj hk
   obtain ⟨es,x,rfl⟩:=Wd_three hV k33
   exact srw_eleven hp
  ·exact srw_eleven_no k33
 exact srw_no k2 k4 k7 k3
end Go.Proofs.YtjcjpbjpbbdnlaaGreat.P

namespace Go.Av
theorem at_snoc {path:List Int} {p a:Pn} {x:Int} (h:Pn.at path p=some a):Pn.at (path ++ [x]) p=if 0≤x then a.kids[x.toNat]? else none:=by
 rw [at_append path p a [x] h]
 unfold Pn.at
 split
 ·cases a.kids[x.toNat]?<;>simp [Pn.at]
 ·rfl
theorem at_none {path r : List Int} {p : Pn} (h : Pn.at path p = none) : Pn.at (path ++ r) p = none := by
  induction path generalizing p with
  | nil => simp [Pn.at] at h
  | cons i path ih =>
    simp only [List.cons_append, Pn.at] at h ⊢
    split
    · rename_i h0
      rw [if_pos h0] at h
      cases hk : p.kids[i.toNat]? with
      | none => rfl
      | some b => rw [hk] at h; exact ih h
    · rfl
theorem at_upto (path : List Int) (p : Pn) : ∃ j : Nat, (∀ i, i < j → ∃ (x : Int) (a b : Pn), path[i]? = some x ∧ Pn.at (path.take i) p = some a ∧ 0 ≤ x ∧ a.kids[x.toNat]? = some b ∧ Pn.at (path.take (i + 1)) p = some b) ∧ ((∃ a, j = path.length ∧ Pn.at path p = some a) ∨ (∃ (x : Int) (a : Pn), path[j]? = some x ∧ Pn.at (path.take j) p = some a ∧ (0 ≤ x → a.kids[x.toNat]? = none) ∧ Pn.at path p = none)) := by
  generalize hn : path.length = n
  induction n generalizing path with
  | zero =>
    obtain rfl := List.length_eq_zero_iff.1 hn
    exact ⟨0, fun i hi => by omega, .inl ⟨p, rfl, rfl⟩⟩
  | succ n ih =>
    obtain ⟨l, x, rfl⟩ : ∃ l x, path = l ++ [x] := by
      rcases List.eq_nil_or_concat path with h | ⟨l, x, h⟩
      · rw [h] at hn; simp at hn
      · exact ⟨l, x, by simpa using h⟩
    have hln : l.length = n := by simpa using hn
    subst hln
    obtain ⟨j, h1, h2⟩ := ih l rfl
    have hlt : ∀ i, i < j → i < l.length := fun i hi => by
      obtain ⟨y, _, _, h, _⟩ := h1 i hi
      exact (List.getElem?_eq_some_iff.1 h).1
    have h1' : ∀ i, i < j → ∃ (x' : Int) (a b : Pn), (l ++ [x])[i]? = some x' ∧ Pn.at ((l ++ [x]).take i) p = some a ∧ 0 ≤ x' ∧ a.kids[x'.toNat]? = some b ∧ Pn.at ((l ++ [x]).take (i + 1)) p = some b := fun i hi => by
      obtain ⟨y, a, b, q1, q2, q3, q4, q5⟩ := h1 i hi
      have hl := hlt i hi
      refine ⟨y, a, b, by rw [List.getElem?_append_left hl]; exact q1, by rw [List.take_append_of_le_length (by omega)]; exact q2, q3, q4, by rw [List.take_append_of_le_length (by omega)]; exact q5⟩
    rcases h2 with ⟨a, rfl, ha⟩ | ⟨y, a, q1, q2, q3, q4⟩
    · have hs := at_snoc (x := x) ha
      by_cases hx : 0 ≤ x
      · rw [if_pos hx] at hs
        cases hk : a.kids[x.toNat]? with
        | none => exact ⟨l.length, h1', .inr ⟨x, a, by simp, by simpa using ha, fun _ => hk, by rw [hs, hk]⟩⟩
        | some b =>
          refine ⟨l.length + 1, fun i hi => ?_, .inl ⟨b, by simp, by rw [hs, hk]⟩⟩
          by_cases hi' : i < l.length
          · exact h1' i hi'
          · obtain rfl : i = l.length := by omega
            exact ⟨x, a, b, by simp, by simpa using ha, hx, hk, by rw [List.take_of_length_le (by simp), hs, hk]⟩
      · rw [if_neg hx] at hs
        exact ⟨l.length, h1', .inr ⟨x, a, by simp, by simpa using ha, fun h => absurd h hx, hs⟩⟩
    · have hl := (List.getElem?_eq_some_iff.1 q1).1
      exact ⟨j, h1', .inr ⟨y, a, by rw [List.getElem?_append_left hl]; exact q1, by rw [List.take_append_of_le_length (by omega)]; exact q2, q3, at_none q4⟩⟩
theorem at_thin : ∀ (path : List Int) (p a : Pn), p.thin → Pn.at path p = some a → a.thin
  | [], p, a, h, e => by simp [Pn.at] at e; subst e; exact h
  | i :: r, p, a, h, e => by
    obtain ⟨n, rfl, b, hb, hr⟩ := Pn.at_cons e
    exact at_thin r b a (((Pn.thin_iff p).1 h).2.2.2.2 b (List.mem_of_getElem? hb)) hr
theorem Pn.cellsL_set (l : List Pn) (n : Nat) (x : Pn) : (Pn.cellsL l).set n x.cells = Pn.cellsL (l.set n x) := by
  induction l generalizing n with
  | nil => simp [Pn.cellsL]
  | cons a l ih => cases n with
    | zero => simp [Pn.cellsL]
    | succ n => simp [Pn.cellsL, ih n]
end Go.Av
namespace Go.Proofs.YtjcjpbjpbbdnlaaGreat.P
open Go Go.Av
set_option maxRecDepth 4000
set_option maxHeartbeats 4000000
def boxP (a:Pn):Option Blk:=some (.box [.i (.int a.kind), .i (.int a.table), .i (.isl (Ex.cellsL a.exprs)), .i (.isl (intsL a.cols)), .i (.isl (Pn.cellsL a.kids))])
def PAX (p:Pn) (path:List Int) (a:Pn) (i:Nat):AS :=
 {env:=[(0, .i (.agg [.int p.kind, .int p.table, .isl (Ex.cellsL p.exprs), .isl (intsL p.cols), .isl (Pn.cellsL p.kids)])),(1, .i (.isl (intsL path))),(2, .own 0 0),(4, .own 1 0),(5, .bool false),(6, .int i),(10,jk i (.bool true)),(22,jk i (.bool false))],
  st:=[boxP a,some (.box [.int 0, .int 0, .nils, .nils, .nils])] }
theorem planAt_eq {p:Pn} (hp:p.thin) {path:List Int} (hl:path.length < 1000000):callA C0 104 [.i (.agg p.cells), .i (.isl (intsL path))] []=some (.tup [.i (.agg ((Pn.at path p).getD Pn.zero).cells), .bool (Pn.at path p).isSome],[]):=by
 obtain ⟨j,h1,h2⟩:=at_upto path p
 rw [callA_eq rfl Tryz.func104 rfl rfl]
 simp only [Pn.cells_eq p]
 simp
 rw [loop_to (fun i=>PAX p path ((Pn.at (path.take i) p).getD Pn.zero) i) j (by simp [PAX,Pn.at,boxP])]
 ·rw [execA_loop]
  rcases h2 with ⟨a,rfl,ha⟩ | ⟨x,a,q1,q2,q3,q4⟩
  ·simp [PAX,boxP,ha,Pn.cells_eq a]
  ·have r1:=intsL_nth q1
   have hj:=(List.getElem?_eq_some_iff.1 q1).1
   have ha:=at_thin _ _ _ hp q2
   have hka:=((Pn.thin_iff a).1 ha).2.2.2.1
   have w1:IntKind.i64.wrap ((a.kids.length:Int) - 1)=a.kids.length - 1:=wrap64 (by omega) (by omega)
   have hin:(decide (0≤x∧x≤(a.kids.length:Int) - 1))=false:=by
    rw [decide_eq_false_iff_not]
    rintro ⟨g1,g2⟩
    have:=List.getElem?_eq_none_iff.1 (q3 g1)
    omega
   have hir:=inRange_eq x 0 ((a.kids.length:Int) - 1)
   rw [hin] at hir
   simp [PAX,boxP,q2,q4,hj,r1,w1,hir,zero_cells]
 ·intro i hi
  obtain ⟨x,a,b,q1,q2,q3,q4,q5⟩:=h1 i hi
  have r1:=intsL_nth q1
  have hj:=(List.getElem?_eq_some_iff.1 q1).1
  have ha:=at_thin _ _ _ hp q2
  have hka:=((Pn.thin_iff a).1 ha).2.2.2.1
  have hxl:=(List.getElem?_eq_some_iff.1 q4).1
  have r4:=Pn.cellsL_nth q4
  have w1:IntKind.i64.wrap ((a.kids.length:Int) - 1)=a.kids.length - 1:=wrap64 (by omega) (by omega)
  have w2:IntKind.i64.wrap ((i:Int) + 1)=i + 1:=wrap64 (by omega) (by omega)
  have hin:(decide (0≤x∧x≤(a.kids.length:Int) - 1))=true:=by rw [decide_eq_true_eq]; omega
  have hir:=inRange_eq x 0 ((a.kids.length:Int) - 1)
  rw [hin] at hir
  rw [Pn.cells_eq b] at r4
  simp [PAX,boxP,q2,q5,hj,r1,w1,w2,hir,q3,show x < a.kids.length by omega,r4]
end Go.Proofs.YtjcjpbjpbbdnlaaGreat.P

namespace Go.Av
theorem filt_thin {e:Ex} {a:Pn} (he:e.thin) (ha:a.thin):(filt e a).thin:=by simp [filt,Pn.thin,Pn.thinL,he,ha]
theorem proj_thin {es:List Ex} {a:Pn} (hl:es.length < 1000000000) (he:∀ e∈es,e.thin) (ha:a.thin):(proj es a).thin:=by simp [proj,Pn.thin,Pn.thinL,hl,ha]; exact he
theorem pair_thin {kd:Int} {e:Ex} {a b:Pn} (he:e.thin) (ha:a.thin) (hb:b.thin):(pairP kd e a b).thin:=by simp [pairP,Pn.thin,Pn.thinL,he,ha,hb]
theorem union_thin {a b:Pn} (ha:a.thin) (hb:b.thin):(unionP a b).thin:=by simp [unionP,Pn.thin,Pn.thinL,ha,hb]
theorem andE_thin {a b:Ex} (ha:a.thin) (hb:b.thin):(andE a b).thin:=by simp [andE,Ex.thin,Ex.thinL,ha,hb]
theorem exzero_thin:Ex.zero.thin:=by simp [Ex.zero,Ex.thin,Ex.thinL]
theorem Pn.kid0_thin {p:Pn} (h:p.thin):p.kid0.thin:=by
 unfold Pn.kid0
 cases hk:p.kids[0]? with
 | none=>exact Pn.zero_thin
 | some a=>exact ((Pn.thin_iff p).1 h).2.2.2.2 a (List.mem_of_getElem? hk)
theorem Pn.kid1_thin {p:Pn} (h:p.thin):p.kid1.thin:=by
 unfold Pn.kid1
 cases hk:p.kids[1]? with
 | none=>exact Pn.zero_thin
 | some a=>exact ((Pn.thin_iff p).1 h).2.2.2.2 a (List.mem_of_getElem? hk)
theorem Pn.ex0_thin {p:Pn} (h:p.thin):p.ex0.thin:=by
 unfold Pn.ex0
 cases hk:p.exprs[0]? with
 | none=>exact exzero_thin
 | some a=>exact ((Pn.thin_iff p).1 h).2.1 a (List.mem_of_getElem? hk)
theorem Ex.kid0_thin {e:Ex} (h:e.thin):e.kid0.thin:=by
 unfold Ex.kid0
 cases hk:e.kids[0]? with
 | none=>exact exzero_thin
 | some a=>exact ((Ex.thin_iff e).1 h).2 a (List.mem_of_getElem? hk)
theorem Ex.kid1_thin {e:Ex} (h:e.thin):e.kid1.thin:=by
 unfold Ex.kid1
 cases hk:e.kids[1]? with
 | none=>exact exzero_thin
 | some a=>exact ((Ex.thin_iff e).1 h).2 a (List.mem_of_getElem? hk)
theorem Ex.sub_thin {l : List Ex} (hl : ∀ b ∈ l, b.thin) : ∀ e : Ex, e.thin → (e.sub l).thin := by
  intro e
  induction e using Ex.ind with
  | h k c v ks ih =>
    intro ht
    have h := (Ex.thin_iff _).1 ht
    by_cases hk : k = 1
    · unfold Ex.sub
      rw [if_pos hk]
      cases hx : l[c.toNat]? with
      | none => exact exzero_thin
      | some b => exact hl b (List.mem_of_getElem? hx)
    · rw [Ex.sub_not l (e := .mk k c v ks) hk, Ex.thin_iff]
      refine ⟨by simpa [Ex.kids] using h.1, fun x hx => ?_⟩
      simp only [Ex.kids, List.mem_map] at hx
      obtain ⟨y, hy, rfl⟩ := hx
      exact ih y hy (h.2 y hy)
theorem Ex.mapC_thin {f : Int → Int} : ∀ e : Ex, e.thin → (e.mapC f).thin := by
  intro e
  induction e using Ex.ind with
  | h k c v ks ih =>
    intro ht
    have h := (Ex.thin_iff _).1 ht
    by_cases hk : k = 1
    · rw [Ex.mapC_col f (e := .mk k c v ks) hk]; exact colX_thin _
    · rw [Ex.mapC_not f (e := .mk k c v ks) hk, Ex.thin_iff]
      refine ⟨by simpa [Ex.kids] using h.1, fun x hx => ?_⟩
      simp only [Ex.kids, List.mem_map] at hx
      obtain ⟨y, hy, rfl⟩ := hx
      exact ih y hy (h.2 y hy)
theorem rwF_thin {ws : List Int} {r : Int} {e : Ex} {k q : Pn} (he : e.thin) (hk : k.thin) (h : rwF ws r e k = some q) : q.thin := by
  have k0 := Pn.kid0_thin hk
  have k1 := Pn.kid1_thin hk
  have x0 := Pn.ex0_thin hk
  have hx := ((Pn.thin_iff k).1 hk).2.1
  have hl := ((Pn.thin_iff k).1 hk).1
  unfold rwF at h
  repeat' split at h
  all_goals first
    | (cases h; done)
    | (injection h with h; subst h
       first
        | exact filt_thin (andE_thin x0 he) k0
        | exact filt_thin (Ex.kid1_thin he) (filt_thin (Ex.kid0_thin he) hk)
        | exact pair_thin x0 (filt_thin he k0) k1
        | exact pair_thin x0 k0 (filt_thin (Ex.mapC_thin _ he) k1)
        | exact pair_thin (andE_thin x0 he) k0 k1
        | exact filt_thin he (pair_thin x0 k0 k1)
        | exact union_thin (filt_thin he k0) (filt_thin he k1)
        | exact proj_thin hl hx (filt_thin (Ex.sub_thin hx _ he) k0))
theorem rwP_thin {ws:List Int} (hw:∀ w∈ws,0≤w∧w≤6) {r:Int} {p q:Pn} (hp:p.thin) (h:rwP ws r p=some q):q.thin:=by
 have k0:=Pn.kid0_thin hp
 have k1:=Pn.kid1_thin hp
 have x0:=Pn.ex0_thin hp
 have hx:=((Pn.thin_iff p).1 hp).2.1
 have hl:=((Pn.thin_iff p).1 hp).1
 have hx0:=((Pn.thin_iff _).1 k0).2.1
 have r0:=Pn.wd_range hw p.kid0 8
 have r1:=Pn.wd_range hw p.kid1 8
 unfold rwP at h
 split at h
 ·exact rwF_thin x0 k0 h
 split at h
 ·injection h with h; subst h
  refine proj_thin (by simp; omega) (fun e he=>?_) (pair_thin (Ex.mapC_thin _ x0) k1 k0)
  rcases List.mem_append.1 he with h | h<;>exact colsFrom_thin _ _ e h
 split at h
 ·injection h with h; subst h; exact k0
 split at h
 ·injection h with h; subst h
  refine proj_thin (by simpa using hl) (fun e he=>?_) (Pn.kid0_thin k0)
  obtain ⟨y,hy,rfl⟩:=List.mem_map.1 he
  exact Ex.sub_thin hx0 y (hx y hy)
 ·cases h
theorem put_thin {q : Pn} (hq : q.thin) : ∀ (path : List Int) (p a : Pn), p.thin → Pn.at path p = some a → (Pn.put path p q).thin
  | [], p, a, _, _ => by simpa [Pn.put] using hq
  | x :: r, p, a, hp, ha => by
    obtain ⟨n, rfl, b, hb, hr⟩ := Pn.at_cons ha
    have h := (Pn.thin_iff p).1 hp
    have ih := put_thin hq r b a (h.2.2.2.2 b (List.mem_of_getElem? hb)) hr
    rw [Pn.put_cons q hb, Pn.thin_iff]
    refine ⟨h.1, h.2.1, h.2.2.1, by simpa [Pn.kids] using h.2.2.2.1, fun c hc => ?_⟩
    simp only [Pn.kids] at hc
    rcases List.mem_or_eq_of_mem_set hc with h1 | h1
    · exact h.2.2.2.2 c h1
    · rw [h1]; exact ih
end Go.Av
namespace Go.Proofs.YtjcjpbjpbbdnlaaGreat.P
open Go Go.Av
set_option maxRecDepth 4000
set_option maxHeartbeats 4000000
theorem replaceAt_nil {p q:Pn} (hq:q.thin):callA C0 106 [.i (.agg p.cells), .i (.isl []), .i (.agg q.cells)] []=some (.i (.agg q.cells),[]):=by
 have h:=copyPlan_eq q hq
 rw [callA_eq rfl Tryz.func106 rfl rfl]
 rw [Pn.cells_eq p,Pn.cells_eq q] at *
 by_cases he:q.exprs=[]
 ·by_cases hk:q.kids=[]
  ·simp [pcX,pcS,hk,he,Pn.cellsL,Ex.cellsL] at h
   simp [h,hk,he,Pn.cellsL,Ex.cellsL]
  ·have hkl:q.kids.length≠0:=fun h=>hk (List.length_eq_zero_iff.1 h)
   simp [pcX,pcS,hk,he,gro_pos hkl,groB_pos hkl,Ex.cellsL] at h
   simp [h,he,Ex.cellsL]
 ·have hel:q.exprs.length≠0:=fun h=>he (List.length_eq_zero_iff.1 h)
  by_cases hk:q.kids=[]
  ·simp [pcX,pcS,hk,he,gro_pos hel,groB_pos hel,Pn.cellsL] at h
   simp [h,hk,Pn.cellsL]
  ·have hkl:q.kids.length≠0:=fun h=>hk (List.length_eq_zero_iff.1 h)
   simp [pcX,pcS,hk,he,gro_pos hel,groB_pos hel,gro_pos hkl,groB_pos hkl] at h
   simp [h]
theorem replaceAt_eq {q : Pn} (hq : q.thin) : ∀ (path : List Int) (p a : Pn), p.thin → path.length < 1000000 → Pn.at path p = some a → callA C0 106 [.i (.agg p.cells), .i (.isl (intsL path)), .i (.agg q.cells)] [] = some (.i (.agg (Pn.put path p q).cells), [])
  | [], p, a, hp, hl, ha => by simpa [intsL, Pn.put] using replaceAt_nil (p := p) hq
  | x :: r, p, a, hp, hl, ha => by
    obtain ⟨n, rfl, b, hb, hr⟩ := Pn.at_cons ha
    have hrl : r.length < 1000000 := by simp at hl; omega
    have ih := replaceAt_eq hq r b a (((Pn.thin_iff p).1 hp).2.2.2.2 b (List.mem_of_getElem? hb)) hrl hr
    have h := copyPlan_eq p hp
    have hk : p.kids ≠ [] := fun h => by rw [h] at hb; simp at hb
    have hkl : p.kids.length ≠ 0 := fun h => hk (List.length_eq_zero_iff.1 h)
    have hn := (List.getElem?_eq_some_iff.1 hb).1
    have r4 := Pn.cellsL_nth hb
    rw [Pn.put_cons q hb, callA_eq rfl Tryz.func106 rfl rfl]
    generalize Pn.put r b q = z at *
    have hs := Pn.cellsL_set p.kids n z
    have hsl : (p.kids.set n z).length = p.kids.length := by simp
    have hsn : p.kids.set n z ≠ [] := fun h => by rw [h] at hsl; simp at hsl; exact hkl hsl.symm
    have ht : (Pn.cellsL (p.kids.set n z)).take p.kids.length = Pn.cellsL (p.kids.set n z) := List.take_of_length_le (by simp)
    have hlen1 : (r.length : Int) + 1 ≠ 0 := by omega
    have hone : (1 : Int) ≤ (r.length : Int) + 1 := by omega
    rw [Pn.cells_eq p, Pn.cells_eq q] at *
    rw [Pn.cells_eq b, Pn.cells_eq z] at *
    have htr : List.take r.length (intsL r) = intsL r := List.take_of_length_le (by simp)
    by_cases he : p.exprs = []
    · simp [pcX, pcS, hk, he, gro_pos hkl, groB_pos hkl, Ex.cellsL] at h
      simp [h, he, Ex.cellsL, intsL, Pn.cells, hn, hlen1, hone, r4, ih, hs, ht, htr]
    · have hel : p.exprs.length ≠ 0 := fun h => he (List.length_eq_zero_iff.1 h)
      simp [pcX, pcS, hk, he, gro_pos hel, groB_pos hel, gro_pos hkl, groB_pos hkl] at h
      simp [h, intsL, Pn.cells, hn, hlen1, hone, r4, ih, hs, ht, htr]
theorem applyStep_eq {ws : List Int} (hw : okWs ws = true) {p : Pn} (hp : p.wd ws 8 ≠ 0) (r : Int) {path : List Int} (hl : path.length < 1000000) : callA C0 57 [.i (.agg p.cells), .i (.isl (intsL ws)), .i (.agg [.int r, .isl (intsL path)])] [] = some (.tup [.i (.agg (getP (apS ws r path p)).cells), .bool (apS ws r path p).isSome], []) := by
  have ht := wd_thin p 8 hp
  have c1 := planAt_eq ht hl
  unfold apS
  cases ha : Pn.at path p with
  | none =>
    rw [ha] at c1
    rw [callA_eq rfl Tryz.func57 rfl rfl]
    simp only [Option.getD, Option.isSome, Option.bind, getP, zero_cells, Pn.cells_eq p] at c1 ⊢
    simp [c1]
  | some a =>
    rw [ha] at c1
    have ha8 : a.wd ws 8 ≠ 0 := by
      obtain ⟨h1, h2⟩ := at_wd path p 8 a hp ha
      rw [Pn.wd_more a _ 8 h2 (by omega)]; exact h2
    have hat := wd_thin a 8 ha8
    have c2 := srw_eq hw ha8 r
    unfold SRw at c2
    cases hq : rwP ws r a with
    | none =>
      rw [hq] at c2
      rw [callA_eq rfl Tryz.func57 rfl rfl]
      simp only [hq, Option.getD, Option.isSome, Option.bind, getP, zero_cells, Pn.cells_eq p, Pn.cells_eq a] at c1 c2 ⊢
      simp [c1, c2]
    | some q =>
      rw [hq] at c2
      have hqt := rwP_thin (okWs_range hw) hat hq
      have c3 := replaceAt_eq hqt path p a ht hl ha
      have hzt := put_thin hqt path p a ht ha
      have c4 := spw8 hw hzt
      have hv : ((some a).bind fun a => (rwP ws r a).bind fun q => if (Pn.put path p q).wd ws 8 ≠ 0 then some (Pn.put path p q) else none) = if (Pn.put path p q).wd ws 8 ≠ 0 then some (Pn.put path p q) else none := by simp [hq]
      rw [hv]
      generalize Pn.put path p q = z at *
      rw [callA_eq rfl Tryz.func57 rfl rfl]
      by_cases hz : z.wd ws 8 = 0
      · rw [hz] at c4
        simp only [hq, hz, ne_eq, not_true_eq_false, if_false, Option.getD, Option.isSome, Option.bind, getP, zero_cells, Pn.cells_eq p, Pn.cells_eq a, Pn.cells_eq q, Pn.cells_eq z] at c1 c2 c3 c4 ⊢
        simp [c1, c2, c3, c4]
      · simp only [hq, hz, ne_eq, not_false_eq_true, if_true, Option.getD, Option.isSome, Option.bind, getP, Pn.cells_eq p, Pn.cells_eq a, Pn.cells_eq q, Pn.cells_eq z] at c1 c2 c3 c4 ⊢
        simp [c1, c2, c3, c4, hz]
end Go.Proofs.YtjcjpbjpbbdnlaaGreat.P

namespace Go.Av
def atV:Option Pn→AV
 | some a=>.i (.iref a.cells)
 | none=>.i (.lit (.pointer none))
def atI (path:List Int) (p:Pn):Option Pn:=if path.length≤8 then Pn.at path p else none
end Go.Av
namespace Go.Proofs.YtjcjpbjpbbdnlaaGreat.P
open Go Go.Av
set_option maxRecDepth 4000
set_option maxHeartbeats 4000000
def AIX (p:Pn) (path:List Int) (i:Nat):AS :=
 {env:=[(0, .i (.iref ((Pn.at (path.take i) p).getD Pn.zero).cells)),(1, .i (.isl (intsL path))),(4, .i (.lit (.pointer none))),(6,jk i (.int ((path[i - 1]?).getD 0))),(9, .bool false),(10, .i (.isl (intsL path))),(11, .int path.length),(12, .int i),(13,jk i (.bool true)),(26,jk i (.bool false))],st:=[] }
theorem iat_eq (p:Pn) (path:List Int):callA C0 53 [.i (.iref p.cells), .i (.isl (intsL path))] []=some (atV (atI path p),[]):=by
 rw [callA_eq rfl Tryz.func53 rfl rfl]
 by_cases hl:path.length≤8
 ·have hl':¬ (8:Int) < path.length:=by omega
  obtain ⟨j,h1,h2⟩:=at_upto path p
  simp [hl',atI,hl]
  rw [loop_to (AIX p path) j (by simp [AIX,Pn.at])]
  ·rw [execA_loop]
   rcases h2 with ⟨a,rfl,ha⟩ | ⟨x,a,q1,q2,q3,q4⟩
   ·simp [AIX,ha,atV]
   ·have hj:=(List.getElem?_eq_some_iff.1 q1).1
    have r1:=intsL_nth q1
    have hx:x < 0∨(0≤x∧(a.kids.length:Int)≤x):=by
     by_cases h:x < 0
     ·exact .inl h
     ·have:=q3 (by omega)
      simp at this; exact .inr ⟨by omega,by omega⟩
    simp only [AIX,q2,Option.getD_some,q4,atV]
    rw [Pn.cells_eq a]
    rcases hx with h | ⟨h,h'⟩
    ·simp [hj,r1,h]
    ·have hn:¬ x < 0:=by omega
     simp [hj,r1,hn,h']
  ·intro i hi
   obtain ⟨x,a,b,q1,q2,q3,q4,q5⟩:=h1 i hi
   obtain ⟨hj,qx⟩:=List.getElem?_eq_some_iff.1 q1
   have r1:=intsL_nth q1
   have hk:=(List.getElem?_eq_some_iff.1 q4).1
   have r2:=Pn.cellsL_nth q4
   obtain ⟨n,rfl⟩:=Int.eq_ofNat_of_zero_le q3
   simp only [Int.ofNat_eq_natCast,Int.toNat_natCast] at *
   have w2:IntKind.i64.wrap ((i:Int) + 1)=i + 1:=wrap64 (by omega) (by omega)
   have n1:¬ (n:Int) < 0:=by omega
   have n2:¬ a.kids.length≤n:=by omega
   simp only [AIX,q2,q5,Option.getD_some]
   rw [Pn.cells_eq a,Pn.cells_eq b] at *
   simp [hj,r1,n1,n2,hk,r2,w2,q1,qx]
 ·have hl':(8:Int) < path.length:=by omega
  simp [hl',atI,hl,atV]
theorem apply_none {p : Pn} {ws : List Int} {r : Int} {path : List Int} (h : p.width ws = 0 ∨ apI ws r path p = none) : callA C0 14 [.i (.agg p.cells), .i (.isl (intsL ws)), .i (.agg [.int r, .isl (intsL path)])] [] = some (.tup [.i (.agg Pn.zero.cells), .bool false], []) := by
  have c1 := planWidth_eq p ws
  have c2 := iat_eq p path
  rw [callA_eq rfl Tryz.func14 rfl rfl]
  by_cases h0 : p.width ws = 0
  · rw [Pn.cells_eq p] at c1 ⊢
    simp [c1, h0, Pn.zero, Pn.cells, Ex.cellsL, intsL, Pn.cellsL]
  · obtain ⟨hw, hp8, hv⟩ := width_okWs h0
    have hn := h.resolve_left h0
    unfold apI at hn
    cases ha : atI path p with
    | none =>
      rw [ha] at c2
      rw [Pn.cells_eq p] at c1 c2 ⊢
      simp [atV] at c2
      simp [c1, h0, c2, Pn.zero, Pn.cells, Ex.cellsL, intsL, Pn.cellsL]
    | some a =>
      rw [ha] at c2
      unfold atI at ha
      split at ha
      · rename_i hl
        rw [if_pos hl, ha] at hn
        simp only [Option.bind_some] at hn
        obtain ⟨-, hav⟩ := at_wd path p 8 a hp8 ha
        have ha8 : a.wd ws 8 ≠ 0 := by rw [Pn.wd_more a _ 8 hav (by omega)]; exact hav
        have c3 := rewritten_eq hw ha8 r (lv := 8 - path.length) (by omega)
        have hr : rwL ws r (8 - path.length) a = none := by
          cases hq : rwL ws r (8 - path.length) a with
          | none => rfl
          | some q => rw [hq] at hn; cases hn
        rw [hr] at c3
        have w1 : IntKind.i64.wrap (8 - (path.length : Int)) = ((8 - path.length : Nat) : Int) := by rw [wrap64 (by omega) (by omega)]; omega
        simp only [atV] at c2
        rw [Pn.cells_eq p] at c1 c2 ⊢
        rw [Pn.cells_eq a] at c2 c3
        simp [getP, Pn.zero, Pn.cells, Ex.cellsL, intsL, Pn.cellsL] at c3
        simp [c1, h0, c2, w1, c3, Pn.zero, Pn.cells, Ex.cellsL, intsL, Pn.cellsL]
      · cases ha
end Go.Proofs.YtjcjpbjpbbdnlaaGreat.P

namespace Go.Proofs.YtjcjpbjpbbdnlaaGreat
open Go Go.Av
theorem prim_only {g:FuncId} {q:List AV→StL→Option (AV×StL)} (h:C0.prim g=some q):(g=99∧q=copyE)∨(g=55∧q=copyP):=by
 have h:primF g=some q:=h
 unfold primF at h
 split at h
 ·injection h with h; exact .inl ⟨rfl,h.symm⟩
 ·injection h with h; exact .inr ⟨rfl,h.symm⟩
 ·cases h
theorem prim0 : PrimOk C0 := by
  constructor
  · intro g args st p h
    unfold primCall at h
    cases hq : C0.prim g with
    | none => rw [hq] at h; cases h
    | some q =>
      rcases prim_only hq with ⟨rfl, rfl⟩ | ⟨rfl, rfl⟩
      · exact ⟨Tryz.f99, Tryz.func99, by decide, rfl⟩
      · exact ⟨Tryz.f55, Tryz.func55, by decide, rfl⟩
  · intro g args stl r stl' h w m φ vs hi hr h0
    unfold primCall at h
    cases hq : C0.prim g with
    | none => rw [hq] at h; cases h
    | some q =>
      rcases prim_only hq with ⟨rfl, rfl⟩ | ⟨rfl, rfl⟩
      · rw [hq] at h
        obtain ⟨e, he, hres, hor⟩ := copyE_some h
        injection hres with h1 h2
        subst h1; subst h2
        rcases hor with ⟨rfl, rfl⟩ | ⟨j, es, rfl, rfl, hes⟩
        · exact copied_calls he hi hr h0
        · exact copied_row he hes hi hr h0
      · rw [hq] at h
        obtain ⟨p, ⟨k1, k2, k3⟩, rfl, rfl, hres⟩ := copyP_some h
        injection hres with h1 h2
        subst h1; subst h2
        exact G.copiedP_calls k1 k2 k3 hi hr h0
theorem sound0:SoundOk C0:=sound_ok (C:=C0) ft nt eqS mo prim0
end Go.Proofs.YtjcjpbjpbbdnlaaGreat

namespace Go.Av
section
variable {wi:World} {mi:Mem} {nt:Nat}
theorem GR.gotCopy {ok:Nat→Prop} {env:Nat→AV} {st:Store} {a:Act} {w:World} {d:Nat} {m1:Mem} {φ:Pl} {p:Pn} (hd:d < nt) (hi:Inv w m1 φ st) (henv:∀ t,Rep m1 φ (env t) (a.tmps.getD t undef)) (hadv:Adv wi mi (fun _=>none) w m1 φ) (hok:∀ id,φ id≠none→ok id) (hsz:nt≤a.tmps.size) (hdf:a.defers=[])
  {e:Ending} {w':World} (h:RawPost w m1 p e w'):∃ y,e=.returned y∧∃ v0 v1 v2 v3 v4 F,GR wi mi nt ok (CPY w p F v0 v1 v2 v3 v4) (upd env d (.i (.agg [.lit v0, .lit v1, .lit v2, .lit v3, .lit v4]))) st (a.put (some d) y) w':=by
 obtain ⟨v0,v1,v2,v3,v4,F,m2,rfl,hone,hm2,ha,hc⟩:=h
 obtain ⟨i2,a2⟩:=hi.growN ha hm2
 refine ⟨_,rfl,v0,v1,v2,v3,v4,F,⟨m2,φ,i2,putA_rep (dst:=some d) (fun t=>(henv t).mono a2.mle a2.ple) hsz (by simpa [dstOk] using hd) (.i (.agg ?_)),hadv.trans a2,hok,?_⟩,by rw [put_size]; exact hsz,by rw [put_defers']; exact hdf⟩
 ·exact .cons (.lit _) (hone _ (by simp)) (.cons (.lit _) (hone _ (by simp)) (.cons (.lit _) (hone _ (by simp)) (.cons (.lit _) (hone _ (by simp)) (.cons (.lit _) (hone _ (by simp)) .nil))))
 ·refine ⟨hc.th,hc.cells,hc.nd,fun f hf=>?_⟩
  obtain ⟨k1,k2,k3,k4,k5⟩:=hc.all f hf
  refine ⟨k1,k2,fun id b n e ho=>?_,k4,k5⟩
  have:=hi.low id b n f e ho
  omega
theorem GR.gotPlace {ok:Nat→Prop} {env:Nat→AV} {st:Store} {a:Act} {w:World} {d:Nat} {m:Mem} {φ:Pl} {p y:Pn} {root:Nat} {F:List Nat} {path:List Int} (hd:d < nt) (hi:Inv w m φ st) (henv:∀ t,Rep m φ (env t) (a.tmps.getD t undef)) (hadv:Adv wi mi (fun _=>none) w m φ) (hok:∀ id,φ id≠none→ok id) (hsz:nt≤a.tmps.size) (hdf:a.defers=[]) (hr:RAW wi root p F [] w m φ)
  {e:Ending} {w':World} (h:∃ bq oq Fa Fy Fz m',e=.returned (.pointer (some ⟨bq,oq,none⟩))∧AtP w m p root 0 F path y bq oq Fa Fy Fz∧MemOk w' m'∧Adv w (memOf w) (fun _=>none) w' m' (fun _=>none)) :
  ∃ v,e=.returned v∧∃ bq oq Fa Fy Fz,GR wi mi nt ok (RAT wi root p F path y bq oq Fa Fy Fz) (upd env d (.i (.lit (.pointer (some ⟨bq,oq,none⟩))))) st (a.put (some d) v) w':=by
 obtain ⟨bq,oq,Fa,Fy,Fz,m',rfl,hat,hm,ha⟩:=h
 have hsame:∀ f,f < w.heap.size→w'.heap[f]?=w.heap[f]?:=fun f hf=>ha.block f hf fun id b n e=>by cases e
 have i2:=hi.later ha.size hsame
 have a2:Adv w m φ w' m φ:=⟨ha.size,ha.os,ha.tape,ha.output,fun b hb' _=>hsame b hb', .refl _,fun _ _ _ _=>rfl, .refl _,fun _ _ _ _ e ho=>.inr (Free.not e ho)⟩
 exact ⟨_,rfl,bq,oq,Fa,Fy,Fz,⟨m,φ,i2,putA_rep (dst:=some d) henv hsz (by simpa [dstOk] using hd) (.i (.lit _)),hadv.trans a2,hok,RAT.stab _ _ _ _ _ _ _ _ _ _ _ _ _ _ _ _ _ a2 ⟨hr,hat⟩⟩,by rw [put_size]; exact hsz,by rw [put_defers']; exact hdf⟩
end
end Go.Av
namespace Go.Proofs.YtjcjpbjpbbdnlaaGreat.P
open Go Go.Av G
theorem hn50:Tryz.f55.name≠ "runtime.NumGoroutine":=by decide
theorem hb50:Tryz.f55.body.isSome=true:=rfl
theorem hb48:Tryz.f53.body.isSome=true:=rfl
theorem hn48:Tryz.f53.name≠ "runtime.NumGoroutine":=by decide
set_option maxRecDepth 4000
set_option maxHeartbeats 8000000
theorem updS {α:Type} (f:Nat→α) (a:Nat) (x y:α):upd (upd f a x) a y=upd f a y:=by funext i; simp only [upd]; split<;>rfl
def TEV (p:Pn) (ws:List Int) (r:Int) (path:List Int) (v3 v5 v6 v7 v8 v9 v10 v11 v15 v21 v36:AV):List (Nat×AV):=[(0, .i (.agg p.cells)),(1, .i (.isl (intsL ws))),(2, .i (.agg [.int r, .isl (intsL path)])),(3,v3),(5,v5),(6,v6),(7,v7),(8,v8),(9,v9),(10,v10),(11,v11),(15,v15),(21,v21),(36,v36)]
def bxP (p:Pn):Option Blk:=some (.box (impI p.cells))
def bxS (r:Int) (path:List Int):Option Blk:=some (.box [.i (.int r), .i (.isl (intsL path))])
theorem apply_some {p : Pn} {ws : List Int} {r : Int} {path : List Int} {q : Pn} (h0 : p.width ws ≠ 0) (hq : apI ws r path p = some q) {wi : World} {mi : Mem} {vs : List Value} (hi : Inv wi mi (fun _ => none) (stOf [])) (hr : RepL mi (fun _ => none) [.i (.agg p.cells), .i (.isl (intsL ws)), .i (.agg [.int r, .isl (intsL path)])] vs) :
    Calls Tryz.prog 14 vs.toArray wi (CallPost wi mi (fun _ => none) (.tup [.i (.agg q.cells), .bool true]) []) := by
  obtain ⟨hw, hp8, hv⟩ := width_okWs h0
  have hws := okWs_range hw
  unfold apI at hq
  split at hq
  rotate_left
  · cases hq
  rename_i hl
  cases ha : Pn.at path p with
  | none => rw [ha] at hq; cases hq
  | some a =>
  rw [ha] at hq
  simp only [Option.bind_some] at hq
  obtain ⟨-, hav⟩ := at_wd path p 8 a hp8 ha
  have ha8 : a.wd ws 8 ≠ 0 := by rw [Pn.wd_more a _ 8 hav (by omega)]; exact hav
  cases hx : rwL ws r (8 - path.length) a with
  | none => rw [hx] at hq; cases hq
  | some x =>
  rw [hx] at hq
  simp only [Option.map_some, Option.some.injEq] at hq
  subst hq
  have hxw : x.wd ws (8 - path.length) ≠ 0 := by
    unfold rwL at hx
    cases hy : rwP ws r a with
    | none => rw [hy] at hx; cases hx
    | some y =>
      rw [hy] at hx
      simp only [Option.bind_some] at hx
      split at hx
      · injection hx with hx; subst hx; assumption
      · cases hx
  have hx8 : x.wd ws 8 ≠ 0 := by rw [Pn.wd_more x _ 8 hxw (by omega)]; exact hxw
  have hxs : x.small := ⟨by have := (Pn.wd_fit x 8 hx8).2; omega, wd_thin x 8 hx8, (Pn.wd_fit x 8 hx8).1⟩
  have hps : p.small := ⟨by have := (Pn.wd_fit p 8 hp8).2; omega, wd_thin p 8 hp8, (Pn.wd_fit p 8 hp8).1⟩
  have c1 := planWidth_eq p ws
  have c2 := iat_eq p path
  simp only [atI, hl, if_true, ha, atV] at c2
  have c3 := rewritten_eq hw ha8 r (lv := 8 - path.length) (by omega)
  rw [hx] at c3
  simp only [getP, Option.getD_some, Option.isSome_some] at c3
  have c4 : callA C0 55 [.i (.iref x.cells)] [] = some (.i (.agg x.cells), []) := by
    rw [callA_prim (p := copyP) rfl]; exact copyP_eq hxs
  have w1 : IntKind.i64.wrap (8 - (path.length : Int)) = ((8 - path.length : Nat) : Int) := by rw [wrap64 (by omega) (by omega)]; omega
  refine calls_of_wp (fn := Tryz.f14) Tryz.func14 rfl ?_
  have hv1 : vs.length = 3 := by simpa using hr.length.symm
  have g0 : GR wi mi 45 (fun id => id < ({ env := [(0, .i (.agg p.cells)), (1, .i (.isl (intsL ws))), (2, .i (.agg [.int r, .isl (intsL path)]))], st := [] } : AS).st.length) (fun _ _ _ => True) (envOf [(0, .i (.agg p.cells)), (1, .i (.isl (intsL ws))), (2, .i (.agg [.int r, .isl (intsL path)]))]) (stOf []) { tmps := vs.toArray ++ Array.replicate (45 - vs.toArray.size) undef, defers := [] } wi := by
    refine ⟨⟨mi, fun _ => none, hi, ?_, .refl _ _ _, fun id h => absurd rfl h, trivial⟩, by simp; omega, rfl⟩
    intro t
    have := enter_rep (m := mi) (φ := fun _ => none) (45 - vs.toArray.size) hr t
    rcases t with _ | _ | _ | t
    · simpa [envOf, argAt] using this
    · simpa [envOf, argAt] using this
    · simpa [envOf, argAt] using this
    · simp only [envOf]; simp; exact .junk _
  refine wp_seq (wp_mono (GR.codeA sound0 (G := GS 14) (S := { env := [(0, .i (.agg p.cells)), (1, .i (.isl (intsL ws))), (2, .i (.agg [.int r, .isl (intsL path)]))], st := [] }) (e := .normal) (S' := { env := TEV p ws r path (.own 0 0) (.own 1 0) (.own 2 0) (.bool false) .junk .junk .junk .junk .junk .junk .junk, st := [bxP p, bxS r path, some (.box zp)] }) stTrue (by kernel_rfl) (by
    rw [Pn.cells_eq p] at *
    simp [TEV, bxP, bxS, zp, Pn.cells_eq p]) g0) ?_)
  rintro _ a1 w1' ⟨rfl, g1⟩
  refine wp_seq (wp_mono (GR.codeA sound0 (G := GS 14) (S := { env := TEV p ws r path (.own 0 0) (.own 1 0) (.own 2 0) (.bool false) .junk .junk .junk .junk .junk .junk .junk, st := [bxP p, bxS r path, some (.box zp)] }) (e := .normal) (S' := { env := TEV p ws r path (.own 0 0) (.own 1 0) (.own 2 0) (.bool false) .junk .junk .junk .junk (.bool false) .junk .junk, st := [bxP p, bxS r path, some (.box zp)] }) stTrue (by kernel_rfl) (by
    simp only [TEV, bxP, bxS]
    rw [Pn.cells_eq p] at *
    simp [zp, c1, h0]) g1) ?_)
  rintro _ a2 w2' ⟨rfl, g2⟩
  refine wp_seq (wp_mono (GR.codeA sound0 (G := GS 14) (S := { env := TEV p ws r path (.own 0 0) (.own 1 0) (.own 2 0) (.bool false) .junk .junk .junk .junk (.bool false) .junk .junk, st := [bxP p, bxS r path, some (.box zp)] }) (e := .normal) (S' := { env := TEV p ws r path (.own 0 0) (.own 1 0) (.own 2 0) (.bool false) (.i (.iref a.cells)) .junk .junk .junk (.bool false) .junk .junk, st := [some (.fbox p.cells), bxS r path, some (.box zp)] }) stTrue (by kernel_rfl) (by
    simp only [TEV, bxP, bxS]
    rw [Pn.cells_eq p, Pn.cells_eq a] at *
    simp [zp, c2]) g2) ?_)
  rintro _ a3 w3' ⟨rfl, g3⟩
  refine wp_seq (wp_mono (GR.codeA sound0 (G := GS 14) (S := { env := TEV p ws r path (.own 0 0) (.own 1 0) (.own 2 0) (.bool false) (.i (.iref a.cells)) .junk .junk .junk (.bool false) .junk .junk, st := [some (.fbox p.cells), bxS r path, some (.box zp)] }) (e := .normal) (S' := { env := TEV p ws r path (.own 0 0) (.own 1 0) (.own 2 0) (.bool false) (.i (.iref a.cells)) .junk .junk .junk (.bool false) (.bool false) .junk, st := [some (.fbox p.cells), bxS r path, some (.box zp)] }) stTrue (by kernel_rfl) (by
    simp only [TEV, bxP, bxS]
    simp [zp]) g3) ?_)
  rintro _ a4 w4' ⟨rfl, g4⟩
  refine wp_seq (wp_mono (GR.codeA sound0 (G := GS 14) (S := { env := TEV p ws r path (.own 0 0) (.own 1 0) (.own 2 0) (.bool false) (.i (.iref a.cells)) .junk .junk .junk (.bool false) (.bool false) .junk, st := [some (.fbox p.cells), bxS r path, some (.box zp)] }) (e := .normal) (S' := { env := TEV p ws r path (.own 0 0) (.own 1 0) (.own 2 0) (.bool false) (.i (.iref a.cells)) (.own 3 0) (.bool true) .junk (.bool false) (.bool false) .junk, st := [some (.fbox p.cells), bxS r path, some (.box zp), bxP x] }) stTrue (by kernel_rfl) (by
    simp only [TEV, bxP, bxS]
    rw [Pn.cells_eq a, Pn.cells_eq x] at *
    simp [zp, w1, c3]) g4) ?_)
  rintro _ a5 w5' ⟨rfl, g5⟩
  refine wp_seq (wp_mono (GR.codeA sound0 (G := GS 14) (S := { env := TEV p ws r path (.own 0 0) (.own 1 0) (.own 2 0) (.bool false) (.i (.iref a.cells)) (.own 3 0) (.bool true) .junk (.bool false) (.bool false) .junk, st := [some (.fbox p.cells), bxS r path, some (.box zp), bxP x] }) (e := .normal) (S' := { env := TEV p ws r path (.own 0 0) (.own 1 0) (.own 2 0) (.bool false) (.i (.iref a.cells)) (.own 3 0) (.bool true) .junk (.bool false) (.bool false) (.bool false), st := [some (.fbox p.cells), bxS r path, some (.box zp), bxP x] }) stTrue (by kernel_rfl) (by
    simp only [TEV, bxP, bxS]
    simp [zp, Pn.cells_eq x]) g5) ?_)
  rintro _ a6 w6 ⟨rfl, g6⟩
  clear g0 g1 g2 g3 g4 g5
  have hst6 : (6 : Nat) < 45 := by omega
  refine wp_seq (wp_regionW ?_)
  show wpOpsIn (FR none) 0 Tryz.prog _ _ (List.range 3) a6 w6
  rw [show List.range 3 = 0 :: (List.range' 1 2 ++ []) from rfl, wpOpsIn_cons]
  obtain ⟨⟨m6, φ6, i6, henv6, adv6, ok6, -⟩, sz6, df6⟩ := g6
  obtain ⟨m7, rp7, i7, adv7⟩ := argVal_sound i6 (henv6 3) (show argVal (stOf [some (.fbox p.cells), bxS r path, some (.box zp), bxP x]) (.own 0 0) = some (.i (.iref p.cells), stOf [some (.fbox p.cells), bxS r path, some (.box zp), bxP x]) by simp [argVal, frzV, frz, fuelF, frzP, stOf, bnd, tst, frzIds])
  have rp7' : RepL m7 (fun _ => none) [.i (.iref p.cells)] [a6.tmps.getD 3 undef] := .cons (by cases rp7 with | i k => exact .i k) .nil
  have i7' : Inv w6 m7 (fun _ => none) (stOf []) := ⟨i7.mem, fun id blk e => by simp [stOf] at e, fun _ _ _ _ _ _ _ _ _ e => by simp [stOf] at e, fun _ _ _ _ e => by cases e⟩
  refine wpOp_callX (P := Tryz.prog) (fn := Tryz.f55) (d := 38) (g := 55) (args := #[.tmp 3]) rfl rfl rfl rfl Tryz.func55 hn50 hb50 (vs := [a6.tmps.getD 3 undef]) rfl ((copiedRaw_calls hps.1 hps.2.1 hps.2.2 i7' rp7').mono fun e w7 hraw => ?_)
  obtain ⟨y, rfl, v0, v1, v2, v3, v4, F, g7⟩ := GR.gotCopy (nt := 45) (d := 38) (by omega) i7 (fun t => (henv6 t).mono adv7.mle adv7.ple) (adv6.trans adv7) ok6 sz6 df6 hraw
  refine ⟨y, rfl, ?_⟩
  have hsz6 : wi.heap.size ≤ w6.heap.size := adv6.size
  generalize hE8 : TEV p ws r path (.own 0 0) (.own 1 0) (.own 2 0) (.bool false) (.i (.iref a.cells)) (.own 3 0) (.bool true) .junk (.bool false) (.bool false) (.bool false) = E8 at g7
  refine GR.opsK sound0 (CPY.stab _ _ _ _ _ _ _ _) 1 2 rfl ?_ (base := 4) (R0 := { env := upd (envOf E8) 38 (.i (.agg [.lit v0, .lit v1, .lit v2, .lit v3, .lit v4])), st := stOf [some (.fbox p.cells), bxS r path, some (.box zp), bxP x], log := [] }) (R1 := { env := upd (upd (envOf E8) 38 (.i (.agg [.lit v0, .lit v1, .lit v2, .lit v3, .lit v4]))) 11 (.own 12 0), st := upd (stOf [some (.fbox p.cells), bxS r path, some (.box zp), bxP x]) 12 (some (.box (litVs [v0, v1, v2, v3, v4]))), log := [] }) ?_ (g7.ok' fun id h => .inl (by simpa using h)) fun a8 w8 g8 => ?_
  · kernel_rfl
  · simp [litVs, zp, updS]
  obtain ⟨b3, g9⟩ := g8.pubC (u := 11) (id := 12) (st' := stOf [some (.fbox p.cells), bxS r path, some (.box zp), bxP x]) hsz6 rfl rfl (by
    intro i blk h
    rcases i with _ | _ | _ | _ | i
    · simp [stOf] at h; subst h; simp [upd, stOf, TreeBlk]
    · simp [stOf, bxS] at h; subst h; simp [upd, stOf, TreeBlk, bxS]
    · simp [stOf] at h; subst h; simp [upd, stOf, TreeBlk, zp]
    · simp [stOf, bxP] at h; subst h; simp [upd, stOf, TreeBlk, bxP, Pn.cells_eq x, impI]
    · simp [stOf] at h)
  have g9 := (g9 (envOf [(5, .own 1 0), (6, .own 2 0), (9, .own 3 0), (11, .i (.lit (.pointer (some ⟨b3, 0, none⟩))))]) (by
    subst hE8
    intro t
    simp only [envOf]
    by_cases h5 : t = 5
    · subst h5; exact .inr (.inr ⟨by simp [upd, TEV, envOf], by simp [upd, TEV, envOf, StaysT, stOf, bxS]⟩)
    by_cases h6 : t = 6
    · subst h6; exact .inr (.inr ⟨by simp [upd, TEV, envOf], by simp [upd, TEV, envOf, StaysT, stOf]⟩)
    by_cases h9 : t = 9
    · subst h9; exact .inr (.inr ⟨by simp [upd, TEV, envOf], by simp [upd, TEV, envOf, StaysT, stOf, bxP]⟩)
    by_cases h11 : t = 11
    · subst h11; exact .inr (.inl ⟨rfl, rfl⟩)
    simp [h5, h6, h9, h11])).ok' (ok' := fun id => okIn 4 (fun j => j < 0) id) (by
    intro i h
    refine .inl ?_
    rcases i with _ | _ | _ | _ | i
    all_goals first | omega | (simp [stOf] at h))
  clear g7 g8
  refine wp_seq (wp_regionW ?_)
  show wpOpsIn (FR none) 0 Tryz.prog _ _ (List.range 6) a8 w8
  rw [show List.range 6 = List.range' 0 2 ++ (2 :: (List.range' 3 2 ++ (List.range' 5 1 ++ []))) from rfl]
  generalize hE9 : envOf [(5, .own 1 0), (6, .own 2 0), (9, .own 3 0), (11, .i (.lit (.pointer (some ⟨b3, 0, none⟩))))] = E9 at g9
  refine GR.opsK sound0 (RAW.stab _ _ _ _ _) 0 2 rfl ?_ (base := 4) (R0 := { env := E9, st := stOf [some (.fbox p.cells), bxS r path, some (.box zp), bxP x], log := [] }) (R1 := { env := upd (upd E9 39 (.own 1 1)) 40 (.i (.isl (intsL path))), st := stOf [some (.fbox p.cells), bxS r path, some (.box zp), bxP x], log := [] }) ?_ g9 fun a9 w9 g10 => ?_
  · kernel_rfl
  · subst hE9; simp [zp, bxS, updS]
  clear g9
  rw [wpOpsIn_cons]
  obtain ⟨⟨m10, φ10, i10, henv10, adv10, ok10, r10⟩, sz10, df10⟩ := g10
  have hv11 := henv10 11
  have hv40 := henv10 40
  simp only [show upd (upd E9 39 (.own 1 1)) 40 (.i (.isl (intsL path))) 11 = .i (.lit (.pointer (some ⟨b3, 0, none⟩))) from by subst hE9; rfl] at hv11
  simp only [show upd (upd E9 39 (.own 1 1)) 40 (.i (.isl (intsL path))) 40 = .i (.isl (intsL path)) from rfl] at hv40
  have hmm : MLe m10 (memOf w9) := i10.mem
  refine wpOp_callX (P := Tryz.prog) (fn := Tryz.f53) (d := 41) (g := 53) (args := #[.tmp 11, .tmp 40]) rfl rfl rfl rfl Tryz.func53 hn48 hb48 (vs := [a9.tmps.getD 11 undef, a9.tmps.getD 40 undef]) rfl ((at_calls r10.th r10.nr r10.nd ha hl (vs := [a9.tmps.getD 11 undef, a9.tmps.getD 40 undef]) (.cons (by cases hv11 with | i k => exact .i (k.mono hmm)) (.cons (by cases hv40 with | i k => exact .i (k.mono hmm)) .nil))).mono fun e w10 hplace => ?_)
  obtain ⟨y2, rfl, bq, oq, Fa, Fy, Fz, g11⟩ := GR.gotPlace (nt := 45) (d := 41) (by omega) i10 henv10 adv10 ok10 sz10 df10 r10 hplace
  refine ⟨y2, rfl, ?_⟩
  refine GR.opsK sound0 (RAT.stab _ _ _ _ _ _ _ _ _ _ _) 3 2 rfl ?_ (base := 4) (R0 := { env := upd (upd (upd E9 39 (.own 1 1)) 40 (.i (.isl (intsL path)))) 41 (.i (.lit (.pointer (some ⟨bq, oq, none⟩)))), st := stOf [some (.fbox p.cells), bxS r path, some (.box zp), bxP x], log := [] }) (R1 := { env := upd (upd (upd (upd (upd E9 39 (.own 1 1)) 40 (.i (.isl (intsL path)))) 41 (.i (.lit (.pointer (some ⟨bq, oq, none⟩))))) 42 (.i (.agg x.cells))) 43 (.i (.lit (.pointer (some ⟨bq, oq, none⟩)))), st := upd (stOf [some (.fbox p.cells), bxS r path, some (.box zp), bxP x]) 3 (some (.fbox x.cells)), log := [] }) ?_ (g11.ok' fun id h => okIn_mono (fun j hj => by omega) h) fun a10 w11 g12 => ?_
  · kernel_rfl
  · subst hE9
    rw [Pn.cells_eq x] at c4
    simp [zp, bxS, bxP, Pn.cells_eq x, c4, updS]
  clear g11
  obtain ⟨pre, row, post, ma, hrl, hpl, g13⟩ := g12.adoptP (u := 43) (k := 1) (st' := upd (fun _ => none) 2 (some (.box zp))) rfl (by
    intro i blk h
    by_cases h2 : i = 2
    · subst h2; simp [upd] at h; subst h; simp [upd, stOf, TreeBlk, zp]
    · simp [upd, h2] at h) (by simp [upd])
  have g13 := (g13 (envOf [(6, .own 2 0), (11, .i (.lit (.pointer (some ⟨b3, 0, none⟩)))), (42, .i (.agg x.cells)), (43, .own 1 oq)]) (by
    subst hE9
    intro t
    simp only [envOf]
    by_cases h6 : t = 6
    · subst h6; exact .inr (.inr ⟨by simp [upd, envOf], by simp [upd, envOf, StaysT]⟩)
    by_cases h11 : t = 11
    · subst h11; exact .inr (.inr ⟨by simp [upd, envOf], by simp [upd, envOf, StaysT]⟩)
    by_cases h42 : t = 42
    · subst h42; exact .inr (.inr ⟨by simp [upd, envOf], by simp [upd, envOf, StaysT]⟩)
    by_cases h43 : t = 43
    · subst h43; exact .inr (.inl ⟨rfl, rfl⟩)
    simp [h6, h11, h42, h43])).ok' (ok' := fun id => okIn 4 (fun j => j < 5) id) (by
    intro i h
    refine .inl ?_
    rcases h with h | h
    · by_cases h2 : i = 2
      · omega
      · simp [upd, h2] at h
    · omega)
  clear g12
  refine GR.opsK sound0 (fun w m φ w' m' φ' ha h => ⟨ADK.stab _ _ _ _ _ _ _ _ _ _ _ _ _ _ _ _ _ _ _ _ ha h.1, h.2⟩) 5 1 rfl ?_ (base := 4) (R0 := { env := envOf [(6, .own 2 0), (11, .i (.lit (.pointer (some ⟨b3, 0, none⟩)))), (42, .i (.agg x.cells)), (43, .own 1 oq)], st := upd (upd (fun _ => none) 2 (some (.box zp))) 1 (some (.box (boxL pre (litVs row) post))), log := [] }) (R1 := { env := envOf [(6, .own 2 0), (11, .i (.lit (.pointer (some ⟨b3, 0, none⟩)))), (42, .i (.agg x.cells)), (43, .own 1 oq)], st := upd (upd (upd (fun _ => none) 2 (some (.box zp))) 1 (some (.box (boxL pre (litVs row) post)))) 1 (some (.box (boxL pre (impI x.cells) post))), log := [] }) ?_ g13 fun a11 w12 g14 => ?_
  · kernel_rfl
  · subst hpl
    have hsp : splice (boxL pre (litVs row) post) pre.length (impI x.cells) = some (boxL pre (impI x.cells) post) := by
      have := splice_boxL pre post (litVs row) 0 (impI x.cells)
      rw [Nat.add_zero] at this
      rw [this]
      match row, hrl with
      | [r0, r1, r2, r3, r4], _ => rw [Pn.cells_eq]; simp [litVs, impI, boxL, splice, bnd]
    rw [Pn.cells_eq x] at *
    simp at hsp
    simp [hsp, updS]
  clear g13
  have g15 := g14.giveP (q := x) hrl hpl rfl (st' := upd (fun _ => none) 2 (some (.box zp))) (env' := envOf [(6, .own 2 0), (11, .i (.lit (.pointer (some ⟨b3, 0, none⟩))))]) (by
    intro i blk h
    by_cases h2 : i = 2
    · subst h2; simp [upd] at h; subst h; simp [upd, TreeBlk, zp]
    · simp [upd, h2] at h) (by
    intro t
    simp only [envOf]
    by_cases h6 : t = 6
    · subst h6; exact .inr ⟨by simp, by simp [StaysT, upd]⟩
    by_cases h11 : t = 11
    · subst h11; exact .inr ⟨by simp, by simp [StaysT]⟩
    simp [h6, h11])
  clear g14
  have g16 := g15.fin2 (u := 11) rfl (env' := envOf [(6, .own 2 0), (11, .i (.iref (Pn.put path p x).cells))]) (by
    intro t
    simp only [envOf]
    by_cases h6 : t = 6
    · subst h6; exact .inr (.inr (by simp))
    by_cases h11 : t = 11
    · subst h11; exact .inr (.inl ⟨rfl, by simp⟩)
    simp [h6, h11])
  clear g15
  generalize Pn.put path p x = q at *
  have g17 := g16.settle (fun _ _ _ _ h => h) [6, 11]
  have hset : Av.settle [6, 11] 0 (envOf [(6, .own 2 0), (11, .i (.iref q.cells))]) (upd (fun _ => none) 2 (some (.box zp))) = { env := [(6, .own 0 0), (11, .i (.iref q.cells))], st := [some (.box zp)] } := by simp [zp, upd]
  rw [hset] at g17
  clear g16
  refine wp_mono (GR.codeA sound0 (G := GS 14) (S := { env := [(6, .own 0 0), (11, .i (.iref q.cells))], st := [some (.box zp)] }) (e := .ret) (S' := { env := [(0, .junk), (1, .junk), (2, .junk), (3, .junk), (5, .junk), (6, .own 0 0), (7, .bool true), (8, .junk), (9, .junk), (10, .junk), (11, .i (.iref q.cells)), (15, .junk), (21, .junk), (36, .junk)], st := [bxP q] }) stTrue (by kernel_rfl) (by
    simp only [bxP]
    rw [Pn.cells_eq q]
    simp [zp]) g17) ?_
  rintro _ a12 w13 ⟨rfl, g18⟩
  obtain ⟨⟨m, φ, q1, q2, q3, q4, q5⟩, q6, q7⟩ := g18
  obtain ⟨v, k1, k2⟩ := finish_sound (C := C0) (fn := Tryz.f14) (keep := false) (na := 0) (S := { env := [(0, .junk), (1, .junk), (2, .junk), (3, .junk), (5, .junk), (6, .own 0 0), (7, .bool true), (8, .junk), (9, .junk), (10, .junk), (11, .i (.iref q.cells)), (15, .junk), (21, .junk), (36, .junk)], st := [bxP q] }) (r := .tup [.i (.agg q.cells), .bool true]) (stl' := []) (fun id h => absurd rfl h) ⟨⟨⟨m, φ, q1, q2, q3, q4, .nil _ _ _⟩, q6, q7⟩, Nat.zero_le _⟩ (by
    show finish C0 false [ResultVar.cell 6 27, ResultVar.tmp 7] 0 _ = _
    simp only [bxP]
    rw [Pn.cells_eq q]
    simp)
  exact ⟨q7, v, k1, k2⟩
end Go.Proofs.YtjcjpbjpbbdnlaaGreat.P

namespace Go.Proofs.YtjcjpbjpbbdnlaaGreat.P
open Go Go.Av
set_option maxRecDepth 4000
set_option maxHeartbeats 4000000
end Go.Proofs.YtjcjpbjpbbdnlaaGreat.P

namespace Go.Proofs.YtjcjpbjpbbdnlaaGreat.P
open Go Go.Av
set_option maxRecDepth 4000
set_option maxHeartbeats 4000000
end Go.Proofs.YtjcjpbjpbbdnlaaGreat.P

namespace Go.Proofs.YtjcjpbjpbbdnlaaGreat
open Go Go.Av
set_option maxRecDepth 4000
noncomputable def primP:FuncId→Option (List AV→StL→Option (AV×StL))
 | 1000000007=>none
 | 150=>none
 | 123=>none
 | 103=>some (lookC (callA C0) 103)
 | 111=>some (frz1 (callA C0) 111)
 | 63=>some (frzO (callA C0) 63)
 | g=>some (callA C0 g)
def ownP:FuncId→Bool
 | 103=>true
 | g=>ownA g
@[simp] theorem ownP_eq (g:FuncId):ownP g=if g=103 then true else ownA g:=by
 unfold ownP; split
 ·rfl
 ·rename_i h; rw [if_neg h]
noncomputable def CP:Ctx:={ P:=Tryz.prog,G:=GS,ownArgs:=ownP,keepRes:=keepR,eqT:=eqTy,prim:=primP }
@[simp] theorem CP_P:CP.P=Tryz.prog:=(rfl)
@[simp] theorem CP_G (f):CP.G f=GS f:=(rfl)
@[simp] theorem CP_o (f):CP.ownArgs f=ownP f:=(rfl)
@[simp] theorem CP_k (f):CP.keepRes f=keepR f:=(rfl)
@[simp] theorem CP_e (f):CP.eqT f=eqTy f:=(rfl)
@[simp] theorem CP_t:CP.tree=false:=(rfl)
theorem primP0 : PrimOk CP := by
  have h0 := callA_sound sound0
  have key : ∀ g q, CP.prim g = some q → g ≠ yldF ∧ (q = callA C0 g ∨ q = lookC (callA C0) g ∨ q = frz1 (callA C0) g ∨ q = frzO (callA C0) g) := by
    intro g q h
    have h : primP g = some q := h
    unfold primP at h
    split at h
    all_goals first
      | (cases h; done)
      | (injection h with h; subst h; exact ⟨by decide, .inr (.inl rfl)⟩)
      | (injection h with h; subst h; exact ⟨by decide, .inr (.inr (.inl rfl))⟩)
      | (injection h with h; subst h; exact ⟨by decide, .inr (.inr (.inr rfl))⟩)
      | (injection h with h; subst h; exact ⟨by assumption, .inl rfl⟩)
  constructor
  · intro g args st p h
    unfold primCall at h
    cases hq : CP.prim g with
    | none => rw [hq] at h; cases h
    | some q =>
      rw [hq] at h
      obtain ⟨hy, hor⟩ := key g q hq
      rcases hor with rfl | rfl | rfl | rfl
      · exact h0.name _ _ _ _ hy h
      · exact (look_sound h0 (r := p.1) (stl' := p.2) h hy).1
      · exact (frz1_sound h0 (r := p.1) (stl' := p.2) h hy).1
      · exact (frzO_sound h0 (r := p.1) (stl' := p.2) h hy).1
  · intro g args st r st' h w m φ vs hi hr hb
    unfold primCall at h
    cases hq : CP.prim g with
    | none => rw [hq] at h; cases h
    | some q =>
      rw [hq] at h
      obtain ⟨hy, hor⟩ := key g q hq
      rcases hor with rfl | rfl | rfl | rfl
      · exact h0.calls _ _ _ _ _ hy h w m φ vs hi hr hb
      · exact (look_sound h0 h hy).2 w m φ vs hi hr hb
      · exact (frz1_sound h0 h hy).2 w m φ vs hi hr hb
      · exact (frzO_sound h0 h hy).2 w m φ vs hi hr hb
theorem soundP:SoundOk CP:=sound_ok (C:=CP) ft nt eqS mo primP0
end Go.Proofs.YtjcjpbjpbbdnlaaGreat

namespace Go.Av
end Go.Av
namespace Go.Proofs.YtjcjpbjpbbdnlaaGreat.P
open Go Go.Av
set_option maxRecDepth 4000
set_option maxHeartbeats 4000000
end Go.Proofs.YtjcjpbjpbbdnlaaGreat.P

namespace Go.Proofs.YtjcjpbjpbbdnlaaGreat.P
open Go Go.Av
set_option maxRecDepth 4000
set_option maxHeartbeats 4000000
end Go.Proofs.YtjcjpbjpbbdnlaaGreat.P

namespace Go.Proofs.YtjcjpbjpbbdnlaaGreat.P
open Go Go.Av
set_option maxRecDepth 4000
set_option maxHeartbeats 4000000
@[simp] theorem cp_pick (a:List AV) (st:StL):callA CP 76 a st=callA C0 76 a st:=by rw [callA_prim (p:=callA C0 76) rfl]
@[simp] theorem cp_one (a:List AV) (st:StL):callA CP 84 a st=callA C0 84 a st:=by rw [callA_prim (p:=callA C0 84) rfl]
@[simp] theorem cp_cond (a:List AV) (st:StL):callA CP 152 a st=callA C0 152 a st:=by rw [callA_prim (p:=callA C0 152) rfl]
@[simp] theorem cp_expr (a:List AV) (st:StL):callA CP 153 a st=callA C0 153 a st:=by rw [callA_prim (p:=callA C0 153) rfl]
@[simp] theorem cp_filterOf (a:List AV) (st:StL):callA CP 151 a st=callA C0 151 a st:=by rw [callA_prim (p:=callA C0 151) rfl]
theorem cp_copyPlan (p:Pn) (hp:p.thin):callA CP 63 [.i (.agg p.cells)] []=some (.i (.agg p.cells),[]):=by
 have h:=copyPlan_eq p hp
 rw [callA_prim (p:=frzO (callA C0) 63) rfl]
 unfold frzO
 by_cases he:p.exprs=[]
 ·by_cases hk:p.kids=[]
  ·simp [pcX,pcS,hk,he,Pn.cellsL,Ex.cellsL] at h
   simp [h]
   rw [Pn.cells_eq]; simp [hk,he,Pn.cellsL,Ex.cellsL]
  ·have hkl:p.kids.length≠0:=fun h=>hk (List.length_eq_zero_iff.1 h)
   simp [pcX,pcS,hk,he,gro_pos hkl,groB_pos hkl,Ex.cellsL] at h
   simp [h]
   rw [Pn.cells_eq]; simp [hk,he,Ex.cellsL]
 ·have hel:p.exprs.length≠0:=fun h=>he (List.length_eq_zero_iff.1 h)
  by_cases hk:p.kids=[]
  ·simp [pcX,pcS,hk,he,gro_pos hel,groB_pos hel,Pn.cellsL] at h
   simp [h]
   rw [Pn.cells_eq]; simp [hk,he,Pn.cellsL]
  ·have hkl:p.kids.length≠0:=fun h=>hk (List.length_eq_zero_iff.1 h)
   simp [pcX,pcS,hk,he,gro_pos hel,groB_pos hel,gro_pos hkl,groB_pos hkl] at h
   simp [h]
   rw [Pn.cells_eq]
theorem splanWidth_own {ws:List Int} (hw:∀ w∈ws,0≤w∧w≤6) (hwl:ws.length < 1000000) {k:Nat} (hk0:0 < k) (hk:k≤ws.length) (p:Pn) (hp:p.thin):callA CP 103 [.i (.agg p.cells), .osl 0 1 0 k, .int 8] [some (.arr 1 (intsL ws))]=some (.int (p.wd (ws.take k) 8),[some (.arr 1 (intsL ws))]):=by
 have h:=splanWidth_eq (ws:=ws.take k) (fun w hm=>hw w (List.mem_of_mem_take hm)) (by simp; omega) p (Pn.thin_lim p hp) 8 (by omega)
 rw [callA_prim (p:=lookC (callA C0) 103) rfl]
 unfold lookC
 simp at h
 simp [viewWs,viewW,h,hk,hk0,bareC]
def filtP (e:Ex) (p:Pn):Pn:=.mk 2 0 [e] [] [p]
theorem filtP_cells (e:Ex) (p:Pn):(filtP e p).cells=[.int 2, .int 0, .isl [e.cells], .isl [], .isl [p.cells]]:=by simp [filtP,Pn.cells,Ex.cellsL,intsL,Pn.cellsL]
theorem filterOf_eq (e:Ex) (p:Pn):callA C0 151 [.i (.agg e.cells), .i (.agg p.cells)] []=some (.i (.agg (filtP e p).cells),[]):=by
 rw [callA_eq rfl Tryz.func151 rfl rfl,filtP_cells,Ex.cells_eq,Pn.cells_eq]
 simp
theorem filtP_thin {e:Ex} {p:Pn} (he:e.size < 1000000) (hp:p.thin):(filtP e p).thin:=by
 have:=Ex.thin_of_size e (by omega)
 simp [filtP,Pn.thin,Pn.thinL,this,hp]
end Go.Proofs.YtjcjpbjpbbdnlaaGreat.P

namespace Go.Proofs.YtjcjpbjpbbdnlaaGreat.P
open Go Go.Av
set_option maxRecDepth 4000
noncomputable def primQ:FuncId→Option (List AV→StL→Option (AV×StL))
 | 150=>some (callA CP 150)
 | 151=>some (bodyA C0 true 151)
 | g=>primP g
noncomputable def CQ:Ctx:={ P:=Tryz.prog,G:=GS,ownArgs:=ownP,keepRes:=keepR,eqT:=eqTy,prim:=primQ }
@[simp] theorem CQ_P:CQ.P=Tryz.prog:=(rfl)
@[simp] theorem CQ_G (f):CQ.G f=GS f:=(rfl)
@[simp] theorem CQ_o (f):CQ.ownArgs f=ownP f:=(rfl)
@[simp] theorem CQ_k (f):CQ.keepRes f=keepR f:=(rfl)
@[simp] theorem CQ_e (f):CQ.eqT f=eqTy f:=(rfl)
@[simp] theorem CQ_t:CQ.tree=false:=(rfl)
theorem primQ0 : PrimOk CQ := by
  have hP := callA_sound soundP
  constructor
  · intro g args st p h
    unfold primCall at h
    cases hq : CQ.prim g with
    | none => rw [hq] at h; cases h
    | some q =>
      rw [hq] at h
      have hq : primQ g = some q := hq
      unfold primQ at hq
      split at hq
      · injection hq with hq; subst hq; exact hP.name _ _ _ _ (by decide) h
      · injection hq with hq; subst hq; exact (bodyA_sound sound0 (r := p.1) (stl' := p.2) h).1
      · exact primP0.name g args st p (by unfold primCall; rw [show CP.prim g = some q from hq]; exact h)
  · intro g args st r st' h w m φ vs hi hr hb
    unfold primCall at h
    cases hq : CQ.prim g with
    | none => rw [hq] at h; cases h
    | some q =>
      rw [hq] at h
      have hq : primQ g = some q := hq
      unfold primQ at hq
      split at hq
      · injection hq with hq; subst hq; exact hP.calls _ _ _ _ _ (by decide) h w m φ vs hi hr hb
      · injection hq with hq; subst hq; exact (bodyA_sound sound0 h).2 w m φ vs hi hr hb
      · exact primP0.calls g args st r st' (by unfold primCall; rw [show CP.prim g = some q from hq]; exact h) w m φ vs hi hr hb
theorem soundQ:SoundOk CQ:=sound_ok (C:=CQ) ft nt eqS mo primQ0
noncomputable def primR:FuncId→Option (List AV→StL→Option (AV×StL))
 | 1000000007=>none
 | 3=>none
 | 13=>none
 | 51=>none
 | 83=>none
 | 123=>none
 | 52=>none
 | 86=>none
 | 150=>some (bodyA CQ true 150)
 | 151=>some (bodyA C0 true 151)
 | 103=>some (lookX (callA C0) 103)
 | g=>primP g
def keepQ (g:FuncId):Bool:=keepR g || decide (g=123)
noncomputable def CR:Ctx:={ P:=Tryz.prog,G:=GS,ownArgs:=ownP,keepRes:=keepQ,eqT:=eqTy,prim:=primR }
@[simp] theorem CR_P:CR.P=Tryz.prog:=(rfl)
@[simp] theorem CR_G (f):CR.G f=GS f:=(rfl)
@[simp] theorem CR_o (f):CR.ownArgs f=ownP f:=(rfl)
@[simp] theorem CR_k (f):CR.keepRes f=(keepR f || decide (f=123)):=(rfl)
@[simp] theorem CR_e (f):CR.eqT f=eqTy f:=(rfl)
@[simp] theorem CR_t:CR.tree=false:=(rfl)
theorem primR0 : PrimOk CR := by
  constructor
  · intro g args st p h
    unfold primCall at h
    cases hq : CR.prim g with
    | none => rw [hq] at h; cases h
    | some q =>
      rw [hq] at h
      have hq : primR g = some q := hq
      unfold primR at hq
      split at hq
      all_goals first
        | (cases hq; done)
        | (injection hq with hq; subst hq; exact (bodyA_sound soundQ (r := p.1) (stl' := p.2) h).1)
        | (injection hq with hq; subst hq; exact (bodyA_sound sound0 (r := p.1) (stl' := p.2) h).1)
        | (injection hq with hq; subst hq; exact (lookX_sound (callA_sound sound0) (r := p.1) (stl' := p.2) h (by decide)).1)
        | exact primP0.name g args st p (by unfold primCall; rw [show CP.prim g = some q from hq]; exact h)
  · intro g args st r st' h w m φ vs hi hr hb
    unfold primCall at h
    cases hq : CR.prim g with
    | none => rw [hq] at h; cases h
    | some q =>
      rw [hq] at h
      have hq : primR g = some q := hq
      unfold primR at hq
      split at hq
      all_goals first
        | (cases hq; done)
        | (injection hq with hq; subst hq; exact (bodyA_sound soundQ h).2 w m φ vs hi hr hb)
        | (injection hq with hq; subst hq; exact (bodyA_sound sound0 h).2 w m φ vs hi hr hb)
        | (injection hq with hq; subst hq; exact (lookX_sound (callA_sound sound0) h (by decide)).2 w m φ vs hi hr hb)
        | exact primP0.calls g args st r st' (by unfold primCall; rw [show CP.prim g = some q from hq]; exact h) w m φ vs hi hr hb
theorem soundR:SoundOk CR:=sound_ok (C:=CR) ft nt eqS mo primR0
end Go.Proofs.YtjcjpbjpbbdnlaaGreat.P

namespace Go.Proofs.YtjcjpbjpbbdnlaaGreat.P
open Go Go.Av
set_option maxRecDepth 4000
set_option maxHeartbeats 8000000
def PSt (l:List UInt8) (ws:List Int) (k:Nat) (j u p:Int):StL:=[some (.box [.own 1 0, .osl 2 1 0 k, .int j, .int u]),Rd l p,some (.arr 1 (intsL ws))]
def PlanOk (l:List UInt8) (ws:List Int) (k d j c:Nat):Prop:=∀ p u:Int,0≤p→p + c < 300000000→0≤u→u≤1→∃ (P:Pn) (p' u':Int) (j':Nat),
  callA CP 150 [.own 0 0, .int d] (PSt l ws k j u p)=some (.i (.agg P.cells),PSt l ws k j' u' p')∧P.thin∧p≤p'∧p'≤p + c∧j'≤j∧0≤u'∧u'≤1
theorem scan_cells (t:Int):(Pn.scan t).cells=[.int 1, .int t, .isl [], .isl [], .isl []]:=by simp [Pn.scan,Pn.cells,Ex.cellsL,intsL,Pn.cellsL]
theorem plan_zero {l:List UInt8} (hl:l.length≤2000) {ws:List Int} {k:Nat} (j:Nat):PlanOk l ws k 0 j 1:=by
 intro p u h0 h1 hu0 hu1
 obtain ⟨t,ht,-,-⟩:=pick_eq l p k h0 (by omega) hl
 refine ⟨.scan t,p + 1,u,j,?_,Pn.scan_thin t,by omega,by omega,by omega,by omega,by omega⟩
 rw [callA_eq rfl Tryz.func150 rfl rfl]
 simp [PSt,ht,scan_cells]
theorem plan_filter0 {l:List UInt8} (hl:l.length≤2000) {ws:List Int} {k:Nat} {d j c2:Nat} {p u t v W kk p1 u1:Int} {j1:Nat} {K:Pn} (hd:d < 100) (h1:p1 + 400 + c2 < 300000000) (hp1:0≤p1) (hu0:0≤u1) (hu1:u1≤1) (hW0:0≤W) (hW6:W≤6) (hK:K.thin)
  (ht:callA C0 76 [.own 0 0, .int k] [Rd l p]=some (.int t,[Rd l (p + 1)])) (hv:callA C0 76 [.own 0 0, .int 6] [Rd l (p + 1)]=some (.int v,[Rd l (p + 1 + 1)])) (v0:¬ v=0)
  (hkid:callA CP 150 [.own 0 0, .int d] (PSt l ws k j u (p + 1 + 1))=some (.i (.agg K.cells),PSt l ws k j1 u1 p1))
  (hW:callA CP 103 [.i (.agg K.cells), .osl 0 1 0 k, .int 8] [some (.arr 1 (intsL ws))]=some (.int W,[some (.arr 1 (intsL ws))]))
  (hkk:callA C0 76 [.own 0 0, .int 10] [Rd l p1]=some (.int kk,[Rd l (p1 + 1)])) (hq:kk=0):∃ (P:Pn) (p' u':Int) (j':Nat),callA CP 150 [.own 0 0, .int ((d + 1:Nat):Int)] (PSt l ws k j u p)=some (.i (.agg P.cells),PSt l ws k j' u' p')∧P.thin∧p1≤p'∧p'≤p1 + 400 + c2∧j'≤j1∧0≤u'∧u'≤1:=by
 have we:IntKind.i64.wrap (d:Int)=d:=wrap64 (by omega) (by omega)
 have wn:¬ ((d:Int) + 1=0):=by omega
 simp only [PSt] at hkid
 rw [Pn.cells_eq K] at hkid hW
 obtain ⟨e,p2,he,a1,a2,a3⟩:=randomCondition_eq l hl W (p1 + 1) (by omega) (by omega)
 have hf:=filterOf_eq e K
 rw [filtP_cells,Pn.cells_eq K,Ex.cells_eq e] at hf
 rw [Ex.cells_eq e] at he
 refine ⟨filtP e K,p2,u1,j1,?_,filtP_thin (by omega) hK,by omega,by omega,by omega,by omega,by omega⟩
 rw [callA_eq rfl Tryz.func150 rfl rfl]
 simp [PSt,ht,hv,v0,we,hkid,hW,hkk,wn,hq,he,hf,filtP_cells,Pn.cells_eq K,Ex.cells_eq e]
theorem plan_filter1 {l:List UInt8} (hl:l.length≤2000) {ws:List Int} {k:Nat} {d j c2:Nat} {p u t v W kk p1 u1:Int} {j1:Nat} {K:Pn} (hd:d < 100) (h1:p1 + 400 + c2 < 300000000) (hp1:0≤p1) (hu0:0≤u1) (hu1:u1≤1) (hW0:0≤W) (hW6:W≤6) (hK:K.thin)
  (ht:callA C0 76 [.own 0 0, .int k] [Rd l p]=some (.int t,[Rd l (p + 1)])) (hv:callA C0 76 [.own 0 0, .int 6] [Rd l (p + 1)]=some (.int v,[Rd l (p + 1 + 1)])) (v0:¬ v=0)
  (hkid:callA CP 150 [.own 0 0, .int d] (PSt l ws k j u (p + 1 + 1))=some (.i (.agg K.cells),PSt l ws k j1 u1 p1))
  (hW:callA CP 103 [.i (.agg K.cells), .osl 0 1 0 k, .int 8] [some (.arr 1 (intsL ws))]=some (.int W,[some (.arr 1 (intsL ws))]))
  (hkk:callA C0 76 [.own 0 0, .int 10] [Rd l p1]=some (.int kk,[Rd l (p1 + 1)])) (hq:kk=1):∃ (P:Pn) (p' u':Int) (j':Nat),callA CP 150 [.own 0 0, .int ((d + 1:Nat):Int)] (PSt l ws k j u p)=some (.i (.agg P.cells),PSt l ws k j' u' p')∧P.thin∧p1≤p'∧p'≤p1 + 400 + c2∧j'≤j1∧0≤u'∧u'≤1:=by
 have we:IntKind.i64.wrap (d:Int)=d:=wrap64 (by omega) (by omega)
 have wn:¬ ((d:Int) + 1=0):=by omega
 simp only [PSt] at hkid
 rw [Pn.cells_eq K] at hkid hW
 obtain ⟨e,p2,he,a1,a2,a3⟩:=randomCondition_eq l hl W (p1 + 1) (by omega) (by omega)
 have hf:=filterOf_eq e K
 rw [filtP_cells,Pn.cells_eq K,Ex.cells_eq e] at hf
 rw [Ex.cells_eq e] at he
 refine ⟨filtP e K,p2,u1,j1,?_,filtP_thin (by omega) hK,by omega,by omega,by omega,by omega,by omega⟩
 rw [callA_eq rfl Tryz.func150 rfl rfl]
 simp [PSt,ht,hv,v0,we,hkid,hW,hkk,wn,hq,he,hf,filtP_cells,Pn.cells_eq K,Ex.cells_eq e]
theorem plan_filter2 {l:List UInt8} (hl:l.length≤2000) {ws:List Int} {k:Nat} {d j c2:Nat} {p u t v W kk p1 u1:Int} {j1:Nat} {K:Pn} (hd:d < 100) (h1:p1 + 400 + c2 < 300000000) (hp1:0≤p1) (hu0:0≤u1) (hu1:u1≤1) (hW0:0≤W) (hW6:W≤6) (hK:K.thin)
  (ht:callA C0 76 [.own 0 0, .int k] [Rd l p]=some (.int t,[Rd l (p + 1)])) (hv:callA C0 76 [.own 0 0, .int 6] [Rd l (p + 1)]=some (.int v,[Rd l (p + 1 + 1)])) (v0:¬ v=0)
  (hkid:callA CP 150 [.own 0 0, .int d] (PSt l ws k j u (p + 1 + 1))=some (.i (.agg K.cells),PSt l ws k j1 u1 p1))
  (hW:callA CP 103 [.i (.agg K.cells), .osl 0 1 0 k, .int 8] [some (.arr 1 (intsL ws))]=some (.int W,[some (.arr 1 (intsL ws))]))
  (hkk:callA C0 76 [.own 0 0, .int 10] [Rd l p1]=some (.int kk,[Rd l (p1 + 1)])) (hq:kk=2):∃ (P:Pn) (p' u':Int) (j':Nat),callA CP 150 [.own 0 0, .int ((d + 1:Nat):Int)] (PSt l ws k j u p)=some (.i (.agg P.cells),PSt l ws k j' u' p')∧P.thin∧p1≤p'∧p'≤p1 + 400 + c2∧j'≤j1∧0≤u'∧u'≤1:=by
 have we:IntKind.i64.wrap (d:Int)=d:=wrap64 (by omega) (by omega)
 have wn:¬ ((d:Int) + 1=0):=by omega
 simp only [PSt] at hkid
 rw [Pn.cells_eq K] at hkid hW
 obtain ⟨e,p2,he,a1,a2,a3⟩:=randomCondition_eq l hl W (p1 + 1) (by omega) (by omega)
 have hf:=filterOf_eq e K
 rw [filtP_cells,Pn.cells_eq K,Ex.cells_eq e] at hf
 rw [Ex.cells_eq e] at he
 refine ⟨filtP e K,p2,u1,j1,?_,filtP_thin (by omega) hK,by omega,by omega,by omega,by omega,by omega⟩
 rw [callA_eq rfl Tryz.func150 rfl rfl]
 simp [PSt,ht,hv,v0,we,hkid,hW,hkk,wn,hq,he,hf,filtP_cells,Pn.cells_eq K,Ex.cells_eq e]
theorem plan_distinct {l:List UInt8} (hl:l.length≤2000) {ws:List Int} {k:Nat} {d j c2:Nat} {p u t v W kk p1 u1:Int} {j1:Nat} {K:Pn} (hd:d < 100) (h1:p1 + 400 + c2 < 300000000) (hp1:0≤p1) (hu0:0≤u1) (hu1:u1≤1) (hW0:0≤W) (hW6:W≤6) (hK:K.thin)
  (ht:callA C0 76 [.own 0 0, .int k] [Rd l p]=some (.int t,[Rd l (p + 1)])) (hv:callA C0 76 [.own 0 0, .int 6] [Rd l (p + 1)]=some (.int v,[Rd l (p + 1 + 1)])) (v0:¬ v=0)
  (hkid:callA CP 150 [.own 0 0, .int d] (PSt l ws k j u (p + 1 + 1))=some (.i (.agg K.cells),PSt l ws k j1 u1 p1))
  (hW:callA CP 103 [.i (.agg K.cells), .osl 0 1 0 k, .int 8] [some (.arr 1 (intsL ws))]=some (.int W,[some (.arr 1 (intsL ws))]))
  (hkk:callA C0 76 [.own 0 0, .int 10] [Rd l p1]=some (.int kk,[Rd l (p1 + 1)])) (hq:kk=8):∃ (P:Pn) (p' u':Int) (j':Nat),callA CP 150 [.own 0 0, .int ((d + 1:Nat):Int)] (PSt l ws k j u p)=some (.i (.agg P.cells),PSt l ws k j' u' p')∧P.thin∧p1≤p'∧p'≤p1 + 400 + c2∧j'≤j1∧0≤u'∧u'≤1:=by
 have we:IntKind.i64.wrap (d:Int)=d:=wrap64 (by omega) (by omega)
 have wn:¬ ((d:Int) + 1=0):=by omega
 simp only [PSt] at hkid
 rw [Pn.cells_eq K] at hkid hW
 refine ⟨.mk 7 0 [] [] [K],p1 + 1,u1,j1,?_,by simp [Pn.thin,Pn.thinL,hK],by omega,by omega,by omega,by omega,by omega⟩
 rw [callA_eq rfl Tryz.func150 rfl rfl]
 simp [PSt,ht,hv,v0,we,hkid,hW,hkk,wn,hq,Pn.cells,Ex.cellsL,intsL,Pn.cellsL,Pn.cells_eq K]
theorem plan_nojoin5 {l:List UInt8} (hl:l.length≤2000) {ws:List Int} {k:Nat} {d j c2:Nat} {p u t v W kk p1 u1:Int} {j1:Nat} {K:Pn} (hd:d < 100) (h1:p1 + 400 + c2 < 300000000) (hp1:0≤p1) (hu0:0≤u1) (hu1:u1≤1) (hW0:0≤W) (hW6:W≤6) (hK:K.thin)
  (ht:callA C0 76 [.own 0 0, .int k] [Rd l p]=some (.int t,[Rd l (p + 1)])) (hv:callA C0 76 [.own 0 0, .int 6] [Rd l (p + 1)]=some (.int v,[Rd l (p + 1 + 1)])) (v0:¬ v=0)
  (hkid:callA CP 150 [.own 0 0, .int d] (PSt l ws k j u (p + 1 + 1))=some (.i (.agg K.cells),PSt l ws k j1 u1 p1))
  (hW:callA CP 103 [.i (.agg K.cells), .osl 0 1 0 k, .int 8] [some (.arr 1 (intsL ws))]=some (.int W,[some (.arr 1 (intsL ws))]))
  (hkk:callA C0 76 [.own 0 0, .int 10] [Rd l p1]=some (.int kk,[Rd l (p1 + 1)])) (hj:j1=0) (hq:kk=5):∃ (P:Pn) (p' u':Int) (j':Nat),callA CP 150 [.own 0 0, .int ((d + 1:Nat):Int)] (PSt l ws k j u p)=some (.i (.agg P.cells),PSt l ws k j' u' p')∧P.thin∧p1≤p'∧p'≤p1 + 400 + c2∧j'≤j1∧0≤u'∧u'≤1:=by
 have we:IntKind.i64.wrap (d:Int)=d:=wrap64 (by omega) (by omega)
 have wn:¬ ((d:Int) + 1=0):=by omega
 simp only [PSt] at hkid
 rw [Pn.cells_eq K] at hkid hW
 obtain ⟨e,p2,he,a1,a2,a3⟩:=randomCondition_eq l hl W (p1 + 1) (by omega) (by omega)
 have hf:=filterOf_eq e K
 rw [filtP_cells,Pn.cells_eq K,Ex.cells_eq e] at hf
 rw [Ex.cells_eq e] at he
 refine ⟨filtP e K,p2,u1,j1,?_,filtP_thin (by omega) hK,by omega,by omega,by omega,by omega,by omega⟩
 rw [callA_eq rfl Tryz.func150 rfl rfl]
 simp [PSt,ht,hv,v0,we,hkid,hW,hkk,wn,hq,he,hf,filtP_cells,Pn.cells_eq K,Ex.cells_eq e,hj]
theorem plan_wide5 {l:List UInt8} (hl:l.length≤2000) {ws:List Int} {k:Nat} {d j c2:Nat} {p u t v W kk p1 u1:Int} {j1:Nat} {K:Pn} (hd:d < 100) (h1:p1 + 400 + c2 < 300000000) (hp1:0≤p1) (hu0:0≤u1) (hu1:u1≤1) (hW0:0≤W) (hW6:W≤6) (hK:K.thin)
  (ht:callA C0 76 [.own 0 0, .int k] [Rd l p]=some (.int t,[Rd l (p + 1)])) (hv:callA C0 76 [.own 0 0, .int 6] [Rd l (p + 1)]=some (.int v,[Rd l (p + 1 + 1)])) (v0:¬ v=0)
  (hkid:callA CP 150 [.own 0 0, .int d] (PSt l ws k j u (p + 1 + 1))=some (.i (.agg K.cells),PSt l ws k j1 u1 p1))
  (hW:callA CP 103 [.i (.agg K.cells), .osl 0 1 0 k, .int 8] [some (.arr 1 (intsL ws))]=some (.int W,[some (.arr 1 (intsL ws))]))
  (hkk:callA C0 76 [.own 0 0, .int 10] [Rd l p1]=some (.int kk,[Rd l (p1 + 1)])) (hj:j1≠0) (hw4:¬ W≤4) (hq:kk=5):∃ (P:Pn) (p' u':Int) (j':Nat),callA CP 150 [.own 0 0, .int ((d + 1:Nat):Int)] (PSt l ws k j u p)=some (.i (.agg P.cells),PSt l ws k j' u' p')∧P.thin∧p1≤p'∧p'≤p1 + 400 + c2∧j'≤j1∧0≤u'∧u'≤1:=by
 have we:IntKind.i64.wrap (d:Int)=d:=wrap64 (by omega) (by omega)
 have wn:¬ ((d:Int) + 1=0):=by omega
 simp only [PSt] at hkid
 rw [Pn.cells_eq K] at hkid hW
 have hj':0 < j1:=by omega
 obtain ⟨e,p2,he,a1,a2,a3⟩:=randomCondition_eq l hl W (p1 + 1) (by omega) (by omega)
 have hf:=filterOf_eq e K
 rw [filtP_cells,Pn.cells_eq K,Ex.cells_eq e] at hf
 rw [Ex.cells_eq e] at he
 refine ⟨filtP e K,p2,u1,j1,?_,filtP_thin (by omega) hK,by omega,by omega,by omega,by omega,by omega⟩
 rw [callA_eq rfl Tryz.func150 rfl rfl]
 simp [PSt,ht,hv,v0,we,hkid,hW,hkk,wn,hq,he,hf,filtP_cells,Pn.cells_eq K,Ex.cells_eq e,hj',hj,hw4]
theorem plan_nojoin6 {l:List UInt8} (hl:l.length≤2000) {ws:List Int} {k:Nat} {d j c2:Nat} {p u t v W kk p1 u1:Int} {j1:Nat} {K:Pn} (hd:d < 100) (h1:p1 + 400 + c2 < 300000000) (hp1:0≤p1) (hu0:0≤u1) (hu1:u1≤1) (hW0:0≤W) (hW6:W≤6) (hK:K.thin)
  (ht:callA C0 76 [.own 0 0, .int k] [Rd l p]=some (.int t,[Rd l (p + 1)])) (hv:callA C0 76 [.own 0 0, .int 6] [Rd l (p + 1)]=some (.int v,[Rd l (p + 1 + 1)])) (v0:¬ v=0)
  (hkid:callA CP 150 [.own 0 0, .int d] (PSt l ws k j u (p + 1 + 1))=some (.i (.agg K.cells),PSt l ws k j1 u1 p1))
  (hW:callA CP 103 [.i (.agg K.cells), .osl 0 1 0 k, .int 8] [some (.arr 1 (intsL ws))]=some (.int W,[some (.arr 1 (intsL ws))]))
  (hkk:callA C0 76 [.own 0 0, .int 10] [Rd l p1]=some (.int kk,[Rd l (p1 + 1)])) (hj:j1=0) (hq:kk=6):∃ (P:Pn) (p' u':Int) (j':Nat),callA CP 150 [.own 0 0, .int ((d + 1:Nat):Int)] (PSt l ws k j u p)=some (.i (.agg P.cells),PSt l ws k j' u' p')∧P.thin∧p1≤p'∧p'≤p1 + 400 + c2∧j'≤j1∧0≤u'∧u'≤1:=by
 have we:IntKind.i64.wrap (d:Int)=d:=wrap64 (by omega) (by omega)
 have wn:¬ ((d:Int) + 1=0):=by omega
 simp only [PSt] at hkid
 rw [Pn.cells_eq K] at hkid hW
 obtain ⟨e,p2,he,a1,a2,a3⟩:=randomCondition_eq l hl W (p1 + 1) (by omega) (by omega)
 have hf:=filterOf_eq e K
 rw [filtP_cells,Pn.cells_eq K,Ex.cells_eq e] at hf
 rw [Ex.cells_eq e] at he
 refine ⟨filtP e K,p2,u1,j1,?_,filtP_thin (by omega) hK,by omega,by omega,by omega,by omega,by omega⟩
 rw [callA_eq rfl Tryz.func150 rfl rfl]
 simp [PSt,ht,hv,v0,we,hkid,hW,hkk,wn,hq,he,hf,filtP_cells,Pn.cells_eq K,Ex.cells_eq e,hj]
theorem plan_wide6 {l:List UInt8} (hl:l.length≤2000) {ws:List Int} {k:Nat} {d j c2:Nat} {p u t v W kk p1 u1:Int} {j1:Nat} {K:Pn} (hd:d < 100) (h1:p1 + 400 + c2 < 300000000) (hp1:0≤p1) (hu0:0≤u1) (hu1:u1≤1) (hW0:0≤W) (hW6:W≤6) (hK:K.thin)
  (ht:callA C0 76 [.own 0 0, .int k] [Rd l p]=some (.int t,[Rd l (p + 1)])) (hv:callA C0 76 [.own 0 0, .int 6] [Rd l (p + 1)]=some (.int v,[Rd l (p + 1 + 1)])) (v0:¬ v=0)
  (hkid:callA CP 150 [.own 0 0, .int d] (PSt l ws k j u (p + 1 + 1))=some (.i (.agg K.cells),PSt l ws k j1 u1 p1))
  (hW:callA CP 103 [.i (.agg K.cells), .osl 0 1 0 k, .int 8] [some (.arr 1 (intsL ws))]=some (.int W,[some (.arr 1 (intsL ws))]))
  (hkk:callA C0 76 [.own 0 0, .int 10] [Rd l p1]=some (.int kk,[Rd l (p1 + 1)])) (hj:j1≠0) (hw4:¬ W≤4) (hq:kk=6):∃ (P:Pn) (p' u':Int) (j':Nat),callA CP 150 [.own 0 0, .int ((d + 1:Nat):Int)] (PSt l ws k j u p)=some (.i (.agg P.cells),PSt l ws k j' u' p')∧P.thin∧p1≤p'∧p'≤p1 + 400 + c2∧j'≤j1∧0≤u'∧u'≤1:=by
 have we:IntKind.i64.wrap (d:Int)=d:=wrap64 (by omega) (by omega)
 have wn:¬ ((d:Int) + 1=0):=by omega
 simp only [PSt] at hkid
 rw [Pn.cells_eq K] at hkid hW
 have hj':0 < j1:=by omega
 obtain ⟨e,p2,he,a1,a2,a3⟩:=randomCondition_eq l hl W (p1 + 1) (by omega) (by omega)
 have hf:=filterOf_eq e K
 rw [filtP_cells,Pn.cells_eq K,Ex.cells_eq e] at hf
 rw [Ex.cells_eq e] at he
 refine ⟨filtP e K,p2,u1,j1,?_,filtP_thin (by omega) hK,by omega,by omega,by omega,by omega,by omega⟩
 rw [callA_eq rfl Tryz.func150 rfl rfl]
 simp [PSt,ht,hv,v0,we,hkid,hW,hkk,wn,hq,he,hf,filtP_cells,Pn.cells_eq K,Ex.cells_eq e,hj',hj,hw4]
theorem plan_nounion {l:List UInt8} (hl:l.length≤2000) {ws:List Int} {k:Nat} {d j c2:Nat} {p u t v W kk p1 u1:Int} {j1:Nat} {K:Pn} (hd:d < 100) (h1:p1 + 400 + c2 < 300000000) (hp1:0≤p1) (hu0:0≤u1) (hu1:u1≤1) (hW0:0≤W) (hW6:W≤6) (hK:K.thin)
  (ht:callA C0 76 [.own 0 0, .int k] [Rd l p]=some (.int t,[Rd l (p + 1)])) (hv:callA C0 76 [.own 0 0, .int 6] [Rd l (p + 1)]=some (.int v,[Rd l (p + 1 + 1)])) (v0:¬ v=0)
  (hkid:callA CP 150 [.own 0 0, .int d] (PSt l ws k j u (p + 1 + 1))=some (.i (.agg K.cells),PSt l ws k j1 u1 p1))
  (hW:callA CP 103 [.i (.agg K.cells), .osl 0 1 0 k, .int 8] [some (.arr 1 (intsL ws))]=some (.int W,[some (.arr 1 (intsL ws))]))
  (hkk:callA C0 76 [.own 0 0, .int 10] [Rd l p1]=some (.int kk,[Rd l (p1 + 1)])) (hu:¬ 0 < u1) (hq:kk=7):∃ (P:Pn) (p' u':Int) (j':Nat),callA CP 150 [.own 0 0, .int ((d + 1:Nat):Int)] (PSt l ws k j u p)=some (.i (.agg P.cells),PSt l ws k j' u' p')∧P.thin∧p1≤p'∧p'≤p1 + 400 + c2∧j'≤j1∧0≤u'∧u'≤1:=by
 have we:IntKind.i64.wrap (d:Int)=d:=wrap64 (by omega) (by omega)
 have wn:¬ ((d:Int) + 1=0):=by omega
 simp only [PSt] at hkid
 rw [Pn.cells_eq K] at hkid hW
 obtain ⟨e,p2,he,a1,a2,a3⟩:=randomCondition_eq l hl W (p1 + 1) (by omega) (by omega)
 have hf:=filterOf_eq e K
 rw [filtP_cells,Pn.cells_eq K,Ex.cells_eq e] at hf
 rw [Ex.cells_eq e] at he
 refine ⟨filtP e K,p2,u1,j1,?_,filtP_thin (by omega) hK,by omega,by omega,by omega,by omega,by omega⟩
 rw [callA_eq rfl Tryz.func150 rfl rfl]
 simp [PSt,ht,hv,v0,we,hkid,hW,hkk,wn,hq,he,hf,filtP_cells,Pn.cells_eq K,Ex.cells_eq e,hu]
theorem plan_union {l:List UInt8} (hl:l.length≤2000) {ws:List Int} {k:Nat} {d j c2:Nat} {p u t v W kk p1 u1:Int} {j1:Nat} {K:Pn} (hd:d < 100) (h1:p1 + 400 + c2 < 300000000) (hp1:0≤p1) (hu0:0≤u1) (hu1:u1≤1) (hW0:0≤W) (hW6:W≤6) (hK:K.thin)
  (ht:callA C0 76 [.own 0 0, .int k] [Rd l p]=some (.int t,[Rd l (p + 1)])) (hv:callA C0 76 [.own 0 0, .int 6] [Rd l (p + 1)]=some (.int v,[Rd l (p + 1 + 1)])) (v0:¬ v=0)
  (hkid:callA CP 150 [.own 0 0, .int d] (PSt l ws k j u (p + 1 + 1))=some (.i (.agg K.cells),PSt l ws k j1 u1 p1))
  (hW:callA CP 103 [.i (.agg K.cells), .osl 0 1 0 k, .int 8] [some (.arr 1 (intsL ws))]=some (.int W,[some (.arr 1 (intsL ws))]))
  (hkk:callA C0 76 [.own 0 0, .int 10] [Rd l p1]=some (.int kk,[Rd l (p1 + 1)])) (hu:0 < u1) (hq:kk=7):∃ (P:Pn) (p' u':Int) (j':Nat),callA CP 150 [.own 0 0, .int ((d + 1:Nat):Int)] (PSt l ws k j u p)=some (.i (.agg P.cells),PSt l ws k j' u' p')∧P.thin∧p1≤p'∧p'≤p1 + 400 + c2∧j'≤j1∧0≤u'∧u'≤1:=by
 have we:IntKind.i64.wrap (d:Int)=d:=wrap64 (by omega) (by omega)
 have wn:¬ ((d:Int) + 1=0):=by omega
 simp only [PSt] at hkid
 rw [Pn.cells_eq K] at hkid hW
 obtain ⟨e,p2,he,a1,a2,a3⟩:=randomCondition_eq l hl W (p1 + 1) (by omega) (by omega)
 have hf:=filterOf_eq e K
 have hc:=cp_copyPlan K hK
 have wu:IntKind.i64.wrap (u1 - 1)=u1 - 1:=wrap64 (by omega) (by omega)
 rw [filtP_cells,Pn.cells_eq K,Ex.cells_eq e] at hf
 rw [Pn.cells_eq K] at hc
 rw [Ex.cells_eq e] at he
 refine ⟨.mk 6 0 [] [] [K,filtP e K],p2,u1 - 1,j1,?_,by have:=filtP_thin (e:=e) (by omega) hK; simp [Pn.thin,Pn.thinL,hK,this],by omega,by omega,by omega,by omega,by omega⟩
 rw [callA_eq rfl Tryz.func150 rfl rfl]
 simp [PSt,ht,hv,v0,we,hkid,hW,hkk,wn,hq,he,hf,filtP_cells,Pn.cells_eq K,Ex.cells_eq e,hu,hc,wu,Pn.cells_mk,Ex.cellsL,intsL,Pn.cellsL]
theorem plan_group1 {l:List UInt8} (hl:l.length≤2000) {ws:List Int} {k:Nat} {d j c2:Nat} {p u t v W kk p1 u1:Int} {j1:Nat} {K:Pn} (hd:d < 100) (h1:p1 + 400 + c2 < 300000000) (hp1:0≤p1) (hu0:0≤u1) (hu1:u1≤1) (hW0:0≤W) (hW6:W≤6) (hK:K.thin)
  (ht:callA C0 76 [.own 0 0, .int k] [Rd l p]=some (.int t,[Rd l (p + 1)])) (hv:callA C0 76 [.own 0 0, .int 6] [Rd l (p + 1)]=some (.int v,[Rd l (p + 1 + 1)])) (v0:¬ v=0)
  (hkid:callA CP 150 [.own 0 0, .int d] (PSt l ws k j u (p + 1 + 1))=some (.i (.agg K.cells),PSt l ws k j1 u1 p1))
  (hW:callA CP 103 [.i (.agg K.cells), .osl 0 1 0 k, .int 8] [some (.arr 1 (intsL ws))]=some (.int W,[some (.arr 1 (intsL ws))]))
  (hkk:callA C0 76 [.own 0 0, .int 10] [Rd l p1]=some (.int kk,[Rd l (p1 + 1)])) (hw1:¬ 1 < W) (hq:kk=9):∃ (P:Pn) (p' u':Int) (j':Nat),callA CP 150 [.own 0 0, .int ((d + 1:Nat):Int)] (PSt l ws k j u p)=some (.i (.agg P.cells),PSt l ws k j' u' p')∧P.thin∧p1≤p'∧p'≤p1 + 400 + c2∧j'≤j1∧0≤u'∧u'≤1:=by
 have we:IntKind.i64.wrap (d:Int)=d:=wrap64 (by omega) (by omega)
 have wn:¬ ((d:Int) + 1=0):=by omega
 simp only [PSt] at hkid
 rw [Pn.cells_eq K] at hkid hW
 refine ⟨.mk 8 0 [] [] [K],p1 + 1,u1,j1,?_,by simp [Pn.thin,Pn.thinL,hK],by omega,by omega,by omega,by omega,by omega⟩
 rw [callA_eq rfl Tryz.func150 rfl rfl]
 simp [PSt,ht,hv,v0,we,hkid,hW,hkk,wn,hq,hw1,Pn.cells_mk,Ex.cellsL,intsL,Pn.cellsL,Pn.cells_eq K]
theorem plan_group2 {l:List UInt8} (hl:l.length≤2000) {ws:List Int} {k:Nat} {d j c2:Nat} {p u t v W kk p1 u1:Int} {j1:Nat} {K:Pn} (hd:d < 100) (h1:p1 + 400 + c2 < 300000000) (hp1:0≤p1) (hu0:0≤u1) (hu1:u1≤1) (hW0:0≤W) (hW6:W≤6) (hK:K.thin)
  (ht:callA C0 76 [.own 0 0, .int k] [Rd l p]=some (.int t,[Rd l (p + 1)])) (hv:callA C0 76 [.own 0 0, .int 6] [Rd l (p + 1)]=some (.int v,[Rd l (p + 1 + 1)])) (v0:¬ v=0)
  (hkid:callA CP 150 [.own 0 0, .int d] (PSt l ws k j u (p + 1 + 1))=some (.i (.agg K.cells),PSt l ws k j1 u1 p1))
  (hW:callA CP 103 [.i (.agg K.cells), .osl 0 1 0 k, .int 8] [some (.arr 1 (intsL ws))]=some (.int W,[some (.arr 1 (intsL ws))]))
  (hkk:callA C0 76 [.own 0 0, .int 10] [Rd l p1]=some (.int kk,[Rd l (p1 + 1)])) (hw1:1 < W) (hq:kk=9):∃ (P:Pn) (p' u':Int) (j':Nat),callA CP 150 [.own 0 0, .int ((d + 1:Nat):Int)] (PSt l ws k j u p)=some (.i (.agg P.cells),PSt l ws k j' u' p')∧P.thin∧p1≤p'∧p'≤p1 + 400 + c2∧j'≤j1∧0≤u'∧u'≤1:=by
 have we:IntKind.i64.wrap (d:Int)=d:=wrap64 (by omega) (by omega)
 have wn:¬ ((d:Int) + 1=0):=by omega
 simp only [PSt] at hkid
 rw [Pn.cells_eq K] at hkid hW
 obtain ⟨g,hg,-,-⟩:=pick_eq l (p1 + 1) W (by omega) (by omega) hl
 refine ⟨.mk 8 0 [] [g] [K],p1 + 1 + 1,u1,j1,?_,by simp [Pn.thin,Pn.thinL,hK],by omega,by omega,by omega,by omega,by omega⟩
 rw [callA_eq rfl Tryz.func150 rfl rfl]
 simp [PSt,ht,hv,v0,we,hkid,hW,hkk,wn,hq,hg,hw1,Pn.cells_mk,Ex.cellsL,intsL,Pn.cellsL,Pn.cells_eq K]
theorem plan_join5 {l:List UInt8} (hl:l.length≤2000) {ws:List Int} (hw:∀ w∈ws,0≤w∧w≤6) (hwl:ws.length < 1000000) {k:Nat} (hk0:0 < k) (hkl:k≤ws.length) {d j c2:Nat} {p u t v W kk p1 u1:Int} {j1:Nat} {K:Pn} (hd:d < 100) (h1:p1 + 400 + c2 < 300000000) (hp1:0≤p1) (hu0:0≤u1) (hu1:u1≤1) (hW0:0≤W) (hW6:W≤6) (hK:K.thin)
  (ht:callA C0 76 [.own 0 0, .int k] [Rd l p]=some (.int t,[Rd l (p + 1)])) (hv:callA C0 76 [.own 0 0, .int 6] [Rd l (p + 1)]=some (.int v,[Rd l (p + 1 + 1)])) (v0:¬ v=0)
  (hkid:callA CP 150 [.own 0 0, .int d] (PSt l ws k j u (p + 1 + 1))=some (.i (.agg K.cells),PSt l ws k j1 u1 p1))
  (hW:callA CP 103 [.i (.agg K.cells), .osl 0 1 0 k, .int 8] [some (.arr 1 (intsL ws))]=some (.int W,[some (.arr 1 (intsL ws))]))
  (hkk:callA C0 76 [.own 0 0, .int 10] [Rd l p1]=some (.int kk,[Rd l (p1 + 1)])) (hj:j1≠0) (hjb:j1 < 1000) (hw4:W≤4) (hoth:∀ y:Nat,y≤1→PlanOk l ws k y (j1 - 1) c2) (hq:kk=5):∃ (P:Pn) (p' u':Int) (j':Nat),callA CP 150 [.own 0 0, .int ((d + 1:Nat):Int)] (PSt l ws k j u p)=some (.i (.agg P.cells),PSt l ws k j' u' p')∧P.thin∧p1≤p'∧p'≤p1 + 400 + c2∧j'≤j1∧0≤u'∧u'≤1:=by
 have we:IntKind.i64.wrap (d:Int)=d:=wrap64 (by omega) (by omega)
 have wn:¬ ((d:Int) + 1=0):=by omega
 simp only [PSt] at hkid
 rw [Pn.cells_eq K] at hkid hW
 have hj':0 < j1:=by omega
 have wj:IntKind.i64.wrap ((j1:Int) - 1)=((j1 - 1:Nat):Int):=by rw [wrap64 (by omega) (by omega)]; omega
 obtain ⟨x,hx,hx1,-⟩:=pick_eq l (p1 + 1) 2 (by omega) (by omega) hl
 obtain ⟨x0,x1⟩:=hx1 (by omega)
 obtain ⟨y,rfl⟩:∃ y:Nat,x=y:=⟨x.toNat,by omega⟩
 obtain ⟨O,p2,u2,j2,hO,hOt,b1,b2,b3,b4,b5⟩:=hoth y (by omega) (p1 + 1 + 1) u1 (by omega) (by omega) hu0 hu1
 have hV:=splanWidth_own hw hwl hk0 hkl O hOt
 have hVr:=Pn.wd_range (ws:=ws.take k) (fun w hm=>hw w (List.mem_of_mem_take hm)) O 8
 generalize O.wd (ws.take k) 8=V at hV hVr
 have wv:IntKind.i64.wrap (W + V)=W + V:=wrap64 (by omega) (by omega)
 simp only [PSt] at hO
 rw [Pn.cells_eq O] at hO hV
 by_cases hs:W + V≤6
 ·have h1:=one_eq l p2 (by omega) (by omega) hl [[.int 4],[.int 5]] (by simp) (by simp) (by simp)
  obtain ⟨z,hz,hzm⟩:=h1
  obtain ⟨e,p3,he,a1,a2,a3⟩:=randomCondition_eq l hl (W + V) (p2 + 1) (by omega) (by omega)
  rw [Ex.cells_eq e] at he
  simp only [List.length_cons,List.length_nil,Nat.zero_add,Nat.reduceAdd] at hz
  have het:=Ex.thin_of_size e (by omega)
  refine ⟨.mk z 0 [e] [] [K,O],p3,u2,j2,?_,by simp [Pn.thin,Pn.thinL,hK,hOt,het],by omega,by omega,by omega,by omega,by omega⟩
  rw [callA_eq rfl Tryz.func150 rfl rfl]
  simp [PSt,ht,hv,v0,we,hkid,hW,hkk,wn,hq,hj',hj,hw4,wj,hx,hO,hV,wv,hs,hz,he,Pn.cells_mk,Ex.cellsL,intsL,Pn.cellsL,Pn.cells_eq K,Pn.cells_eq O,Ex.cells_eq e]
 ·obtain ⟨e,p3,he,a1,a2,a3⟩:=randomCondition_eq l hl W p2 (by omega) (by omega)
  have hf:=filterOf_eq e K
  rw [filtP_cells,Pn.cells_eq K,Ex.cells_eq e] at hf
  rw [Ex.cells_eq e] at he
  refine ⟨filtP e K,p3,u2,j2,?_,filtP_thin (by omega) hK,by omega,by omega,by omega,by omega,by omega⟩
  rw [callA_eq rfl Tryz.func150 rfl rfl]
  simp [PSt,ht,hv,v0,we,hkid,hW,hkk,wn,hq,hj',hj,hw4,wj,hx,hO,hV,wv,hs,he,hf,filtP_cells,Pn.cells_eq K,Ex.cells_eq e]
theorem plan_join6 {l:List UInt8} (hl:l.length≤2000) {ws:List Int} (hw:∀ w∈ws,0≤w∧w≤6) (hwl:ws.length < 1000000) {k:Nat} (hk0:0 < k) (hkl:k≤ws.length) {d j c2:Nat} {p u t v W kk p1 u1:Int} {j1:Nat} {K:Pn} (hd:d < 100) (h1:p1 + 400 + c2 < 300000000) (hp1:0≤p1) (hu0:0≤u1) (hu1:u1≤1) (hW0:0≤W) (hW6:W≤6) (hK:K.thin)
  (ht:callA C0 76 [.own 0 0, .int k] [Rd l p]=some (.int t,[Rd l (p + 1)])) (hv:callA C0 76 [.own 0 0, .int 6] [Rd l (p + 1)]=some (.int v,[Rd l (p + 1 + 1)])) (v0:¬ v=0)
  (hkid:callA CP 150 [.own 0 0, .int d] (PSt l ws k j u (p + 1 + 1))=some (.i (.agg K.cells),PSt l ws k j1 u1 p1))
  (hW:callA CP 103 [.i (.agg K.cells), .osl 0 1 0 k, .int 8] [some (.arr 1 (intsL ws))]=some (.int W,[some (.arr 1 (intsL ws))]))
  (hkk:callA C0 76 [.own 0 0, .int 10] [Rd l p1]=some (.int kk,[Rd l (p1 + 1)])) (hj:j1≠0) (hjb:j1 < 1000) (hw4:W≤4) (hoth:∀ y:Nat,y≤1→PlanOk l ws k y (j1 - 1) c2) (hq:kk=6):∃ (P:Pn) (p' u':Int) (j':Nat),callA CP 150 [.own 0 0, .int ((d + 1:Nat):Int)] (PSt l ws k j u p)=some (.i (.agg P.cells),PSt l ws k j' u' p')∧P.thin∧p1≤p'∧p'≤p1 + 400 + c2∧j'≤j1∧0≤u'∧u'≤1:=by
 have we:IntKind.i64.wrap (d:Int)=d:=wrap64 (by omega) (by omega)
 have wn:¬ ((d:Int) + 1=0):=by omega
 simp only [PSt] at hkid
 rw [Pn.cells_eq K] at hkid hW
 have hj':0 < j1:=by omega
 have wj:IntKind.i64.wrap ((j1:Int) - 1)=((j1 - 1:Nat):Int):=by rw [wrap64 (by omega) (by omega)]; omega
 obtain ⟨x,hx,hx1,-⟩:=pick_eq l (p1 + 1) 2 (by omega) (by omega) hl
 obtain ⟨x0,x1⟩:=hx1 (by omega)
 obtain ⟨y,rfl⟩:∃ y:Nat,x=y:=⟨x.toNat,by omega⟩
 obtain ⟨O,p2,u2,j2,hO,hOt,b1,b2,b3,b4,b5⟩:=hoth y (by omega) (p1 + 1 + 1) u1 (by omega) (by omega) hu0 hu1
 have hV:=splanWidth_own hw hwl hk0 hkl O hOt
 have hVr:=Pn.wd_range (ws:=ws.take k) (fun w hm=>hw w (List.mem_of_mem_take hm)) O 8
 generalize O.wd (ws.take k) 8=V at hV hVr
 have wv:IntKind.i64.wrap (W + V)=W + V:=wrap64 (by omega) (by omega)
 simp only [PSt] at hO
 rw [Pn.cells_eq O] at hO hV
 by_cases hs:W + V≤6
 ·have h1:=one_eq l p2 (by omega) (by omega) hl [[.int 4],[.int 5]] (by simp) (by simp) (by simp)
  obtain ⟨z,hz,hzm⟩:=h1
  obtain ⟨e,p3,he,a1,a2,a3⟩:=randomCondition_eq l hl (W + V) (p2 + 1) (by omega) (by omega)
  rw [Ex.cells_eq e] at he
  simp only [List.length_cons,List.length_nil,Nat.zero_add,Nat.reduceAdd] at hz
  have het:=Ex.thin_of_size e (by omega)
  refine ⟨.mk z 0 [e] [] [K,O],p3,u2,j2,?_,by simp [Pn.thin,Pn.thinL,hK,hOt,het],by omega,by omega,by omega,by omega,by omega⟩
  rw [callA_eq rfl Tryz.func150 rfl rfl]
  simp [PSt,ht,hv,v0,we,hkid,hW,hkk,wn,hq,hj',hj,hw4,wj,hx,hO,hV,wv,hs,hz,he,Pn.cells_mk,Ex.cellsL,intsL,Pn.cellsL,Pn.cells_eq K,Pn.cells_eq O,Ex.cells_eq e]
 ·obtain ⟨e,p3,he,a1,a2,a3⟩:=randomCondition_eq l hl W p2 (by omega) (by omega)
  have hf:=filterOf_eq e K
  rw [filtP_cells,Pn.cells_eq K,Ex.cells_eq e] at hf
  rw [Ex.cells_eq e] at he
  refine ⟨filtP e K,p3,u2,j2,?_,filtP_thin (by omega) hK,by omega,by omega,by omega,by omega,by omega⟩
  rw [callA_eq rfl Tryz.func150 rfl rfl]
  simp [PSt,ht,hv,v0,we,hkid,hW,hkk,wn,hq,hj',hj,hw4,wj,hx,hO,hV,wv,hs,he,hf,filtP_cells,Pn.cells_eq K,Ex.cells_eq e]
theorem plan_proj3 {l:List UInt8} (hl:l.length≤2000) {ws:List Int} {k:Nat} {d j c2:Nat} {p u t v W kk p1 u1:Int} {j1:Nat} {K:Pn} (hd:d < 100) (h1:p1 + 400 + c2 < 300000000) (hp1:0≤p1) (hu0:0≤u1) (hu1:u1≤1) (hW0:0≤W) (hW6:W≤6) (hK:K.thin)
  (ht:callA C0 76 [.own 0 0, .int k] [Rd l p]=some (.int t,[Rd l (p + 1)])) (hv:callA C0 76 [.own 0 0, .int 6] [Rd l (p + 1)]=some (.int v,[Rd l (p + 1 + 1)])) (v0:¬ v=0)
  (hkid:callA CP 150 [.own 0 0, .int d] (PSt l ws k j u (p + 1 + 1))=some (.i (.agg K.cells),PSt l ws k j1 u1 p1))
  (hW:callA CP 103 [.i (.agg K.cells), .osl 0 1 0 k, .int 8] [some (.arr 1 (intsL ws))]=some (.int W,[some (.arr 1 (intsL ws))]))
  (hkk:callA C0 76 [.own 0 0, .int 10] [Rd l p1]=some (.int kk,[Rd l (p1 + 1)])) (hq:kk=3):∃ (P:Pn) (p' u':Int) (j':Nat),callA CP 150 [.own 0 0, .int ((d + 1:Nat):Int)] (PSt l ws k j u p)=some (.i (.agg P.cells),PSt l ws k j' u' p')∧P.thin∧p1≤p'∧p'≤p1 + 400 + c2∧j'≤j1∧0≤u'∧u'≤1:=by
 have we:IntKind.i64.wrap (d:Int)=d:=wrap64 (by omega) (by omega)
 have wn:¬ ((d:Int) + 1=0):=by omega
 simp only [PSt] at hkid
 rw [Pn.cells_eq K] at hkid hW
 obtain ⟨m,hm,hm1,-⟩:=pick_eq l (p1 + 1) 2 (by omega) (by omega) hl
 obtain ⟨m0,m1⟩:=hm1 (by omega)
 have w2:IntKind.i64.wrap (2:Int)=2:=wrap64 (by omega) (by omega)
 have w1:=wrap_1
 have w0:IntKind.i64.wrap (0:Int)=0:=wrap64 (by omega) (by omega)
 obtain ⟨x1,hx1,hy1,-⟩:=pick_eq l (p1 + 1 + 1) 2 (by omega) (by omega) hl
 obtain ⟨x1a,x1b⟩:=hy1 (by omega)
 obtain ⟨y1,rfl⟩:∃ y:Nat,x1=y:=⟨x1.toNat,by omega⟩
 have hc1:costE y1≤9:=by rcases (show y1=0∨y1=1 by omega) with h | h<;>simp [h,costE]
 obtain ⟨e1,q1,he1,c1a,c1b,c1c⟩:=rE l hl W y1 (by omega) (by omega) ((p1 + 1 + 1) + 1) (by omega) (by omega)
 rw [Ex.cells_eq e1] at he1
 have t1:=Ex.thin_of_size e1 (by omega)
 rcases (show m=0∨m=1 by omega) with rfl | rfl
 ·refine ⟨.mk 3 0 [e1] [] [K],q1,u1,j1,?_,by simp [Pn.thin,Pn.thinL,hK,t1],by omega,by omega,by omega,by omega,by omega⟩
  rw [callA_eq rfl Tryz.func150 rfl rfl]
  simp [PSt,ht,hv,v0,we,hkid,hW,hkk,wn,hq,hm,w1]
  rw [execA_loop]; simp [hx1,he1,w0]
  rw [execA_loop]; simp [Pn.cells_mk,Ex.cellsL,intsL,Pn.cellsL,Pn.cells_eq K,Ex.cells_eq e1,PSt]
 ·obtain ⟨x2,hx2,hy2,-⟩:=pick_eq l q1 2 (by omega) (by omega) hl
  obtain ⟨x2a,x2b⟩:=hy2 (by omega)
  obtain ⟨y2,rfl⟩:∃ y:Nat,x2=y:=⟨x2.toNat,by omega⟩
  have hc2:costE y2≤9:=by rcases (show y2=0∨y2=1 by omega) with h | h<;>simp [h,costE]
  obtain ⟨e2,q2,he2,c2a,c2b,c2c⟩:=rE l hl W y2 (by omega) (by omega) (q1 + 1) (by omega) (by omega)
  rw [Ex.cells_eq e2] at he2
  have t2:=Ex.thin_of_size e2 (by omega)
  refine ⟨.mk 3 0 [e1,e2] [] [K],q2,u1,j1,?_,by simp [Pn.thin,Pn.thinL,hK,t1,t2],by omega,by omega,by omega,by omega,by omega⟩
  rw [callA_eq rfl Tryz.func150 rfl rfl]
  simp [PSt,ht,hv,v0,we,hkid,hW,hkk,wn,hq,hm,w2]
  rw [execA_loop]; simp [hx1,he1,w1]
  rw [execA_loop]; simp [hx2,he2,w0]
  rw [execA_loop]; simp [Pn.cells_mk,Ex.cellsL,intsL,Pn.cellsL,Pn.cells_eq K,Ex.cells_eq e1,Ex.cells_eq e2,PSt]
theorem plan_proj4 {l:List UInt8} (hl:l.length≤2000) {ws:List Int} {k:Nat} {d j c2:Nat} {p u t v W kk p1 u1:Int} {j1:Nat} {K:Pn} (hd:d < 100) (h1:p1 + 400 + c2 < 300000000) (hp1:0≤p1) (hu0:0≤u1) (hu1:u1≤1) (hW0:0≤W) (hW6:W≤6) (hK:K.thin)
  (ht:callA C0 76 [.own 0 0, .int k] [Rd l p]=some (.int t,[Rd l (p + 1)])) (hv:callA C0 76 [.own 0 0, .int 6] [Rd l (p + 1)]=some (.int v,[Rd l (p + 1 + 1)])) (v0:¬ v=0)
  (hkid:callA CP 150 [.own 0 0, .int d] (PSt l ws k j u (p + 1 + 1))=some (.i (.agg K.cells),PSt l ws k j1 u1 p1))
  (hW:callA CP 103 [.i (.agg K.cells), .osl 0 1 0 k, .int 8] [some (.arr 1 (intsL ws))]=some (.int W,[some (.arr 1 (intsL ws))]))
  (hkk:callA C0 76 [.own 0 0, .int 10] [Rd l p1]=some (.int kk,[Rd l (p1 + 1)])) (hq:kk=4):∃ (P:Pn) (p' u':Int) (j':Nat),callA CP 150 [.own 0 0, .int ((d + 1:Nat):Int)] (PSt l ws k j u p)=some (.i (.agg P.cells),PSt l ws k j' u' p')∧P.thin∧p1≤p'∧p'≤p1 + 400 + c2∧j'≤j1∧0≤u'∧u'≤1:=by
 have we:IntKind.i64.wrap (d:Int)=d:=wrap64 (by omega) (by omega)
 have wn:¬ ((d:Int) + 1=0):=by omega
 simp only [PSt] at hkid
 rw [Pn.cells_eq K] at hkid hW
 obtain ⟨m,hm,hm1,-⟩:=pick_eq l (p1 + 1) 2 (by omega) (by omega) hl
 obtain ⟨m0,m1⟩:=hm1 (by omega)
 have w2:IntKind.i64.wrap (2:Int)=2:=wrap64 (by omega) (by omega)
 have w1:=wrap_1
 have w0:IntKind.i64.wrap (0:Int)=0:=wrap64 (by omega) (by omega)
 obtain ⟨x1,hx1,hy1,-⟩:=pick_eq l (p1 + 1 + 1) 2 (by omega) (by omega) hl
 obtain ⟨x1a,x1b⟩:=hy1 (by omega)
 obtain ⟨y1,rfl⟩:∃ y:Nat,x1=y:=⟨x1.toNat,by omega⟩
 have hc1:costE y1≤9:=by rcases (show y1=0∨y1=1 by omega) with h | h<;>simp [h,costE]
 obtain ⟨e1,q1,he1,c1a,c1b,c1c⟩:=rE l hl W y1 (by omega) (by omega) ((p1 + 1 + 1) + 1) (by omega) (by omega)
 rw [Ex.cells_eq e1] at he1
 have t1:=Ex.thin_of_size e1 (by omega)
 rcases (show m=0∨m=1 by omega) with rfl | rfl
 ·refine ⟨.mk 3 0 [e1] [] [K],q1,u1,j1,?_,by simp [Pn.thin,Pn.thinL,hK,t1],by omega,by omega,by omega,by omega,by omega⟩
  rw [callA_eq rfl Tryz.func150 rfl rfl]
  simp [PSt,ht,hv,v0,we,hkid,hW,hkk,wn,hq,hm,w1]
  rw [execA_loop]; simp [hx1,he1,w0]
  rw [execA_loop]; simp [Pn.cells_mk,Ex.cellsL,intsL,Pn.cellsL,Pn.cells_eq K,Ex.cells_eq e1,PSt]
 ·obtain ⟨x2,hx2,hy2,-⟩:=pick_eq l q1 2 (by omega) (by omega) hl
  obtain ⟨x2a,x2b⟩:=hy2 (by omega)
  obtain ⟨y2,rfl⟩:∃ y:Nat,x2=y:=⟨x2.toNat,by omega⟩
  have hc2:costE y2≤9:=by rcases (show y2=0∨y2=1 by omega) with h | h<;>simp [h,costE]
  obtain ⟨e2,q2,he2,c2a,c2b,c2c⟩:=rE l hl W y2 (by omega) (by omega) (q1 + 1) (by omega) (by omega)
  rw [Ex.cells_eq e2] at he2
  have t2:=Ex.thin_of_size e2 (by omega)
  refine ⟨.mk 3 0 [e1,e2] [] [K],q2,u1,j1,?_,by simp [Pn.thin,Pn.thinL,hK,t1,t2],by omega,by omega,by omega,by omega,by omega⟩
  rw [callA_eq rfl Tryz.func150 rfl rfl]
  simp [PSt,ht,hv,v0,we,hkid,hW,hkk,wn,hq,hm,w2]
  rw [execA_loop]; simp [hx1,he1,w1]
  rw [execA_loop]; simp [hx2,he2,w0]
  rw [execA_loop]; simp [Pn.cells_mk,Ex.cellsL,intsL,Pn.cellsL,Pn.cells_eq K,Ex.cells_eq e1,Ex.cells_eq e2,PSt]
end Go.Proofs.YtjcjpbjpbbdnlaaGreat.P

namespace Go.Proofs.YtjcjpbjpbbdnlaaGreat.P
open Go Go.Av
set_option maxRecDepth 4000
set_option maxHeartbeats 8000000
theorem plan_scan {l:List UInt8} {ws:List Int} {k:Nat} {d j:Nat} {p u t:Int} (hd:d < 100) (ht:callA C0 76 [.own 0 0, .int k] [Rd l p]=some (.int t,[Rd l (p + 1)])) (hv:callA C0 76 [.own 0 0, .int 6] [Rd l (p + 1)]=some (.int 0,[Rd l (p + 1 + 1)])) :
  callA CP 150 [.own 0 0, .int ((d + 1:Nat):Int)] (PSt l ws k j u p)=some (.i (.agg (Pn.scan t).cells),PSt l ws k j u (p + 1 + 1)):=by
 have wn:¬ ((d:Int) + 1=0):=by omega
 rw [callA_eq rfl Tryz.func150 rfl rfl]
 simp [PSt,ht,hv,scan_cells,wn]
theorem plan_step {l:List UInt8} (hl:l.length≤2000) {ws:List Int} (hw:∀ w∈ws,0≤w∧w≤6) (hwl:ws.length < 1000000) {k:Nat} (hk0:0 < k) (hkl:k≤ws.length) {d j c c2:Nat} (hd:d < 100) (hjb:j < 1000) (ih:PlanOk l ws k d j c) (hoth:∀ i:Nat,i < j→∀ y:Nat,y≤1→PlanOk l ws k y i c2):PlanOk l ws k (d + 1) j (c + c2 + 500):=by
 intro p u h0 h1 hu0 hu1
 obtain ⟨t,ht,-,-⟩:=pick_eq l p k h0 (by omega) hl
 obtain ⟨v,hv,-,-⟩:=pick_eq l (p + 1) 6 (by omega) (by omega) hl
 by_cases v0:v=0
 ·subst v0
  exact ⟨.scan t,p + 1 + 1,u,j,plan_scan hd ht hv,Pn.scan_thin t,by omega,by omega,by omega,by omega,by omega⟩
 obtain ⟨K,p1,u1,j1,hkid,hK,a1,a2,a3,a4,a5⟩:=ih (p + 1 + 1) u (by omega) (by omega) hu0 hu1
 have hW:=splanWidth_own hw hwl hk0 hkl K hK
 have hWr:=Pn.wd_range (ws:=ws.take k) (fun w hm=>hw w (List.mem_of_mem_take hm)) K 8
 generalize K.wd (ws.take k) 8=W at hW hWr
 obtain ⟨kk,hkk,hkk1,-⟩:=pick_eq l p1 10 (by omega) (by omega) hl
 obtain ⟨kk0,kk9⟩:=hkk1 (by omega)
 suffices H:∃ (P:Pn) (p' u':Int) (j':Nat),callA CP 150 [.own 0 0, .int ((d + 1:Nat):Int)] (PSt l ws k j u p)=some (.i (.agg P.cells),PSt l ws k j' u' p')∧P.thin∧p1≤p'∧p'≤p1 + 400 + c2∧j'≤j1∧0≤u'∧u'≤1 by
  obtain ⟨P,p',u',j',b1,b2,b3,b4,b5,b6,b7⟩:=H
  exact ⟨P,p',u',j',b1,b2,by omega,by omega,by omega,b6,b7⟩
 have hb:p1 + 400 + c2 < 300000000:=by omega
 have hp1:0≤p1:=by omega
 by_cases q0:kk=0
 ·exact plan_filter0 hl hd hb hp1 a4 a5 hWr.1 hWr.2 hK ht hv v0 hkid hW hkk q0
 by_cases q1:kk=1
 ·exact plan_filter1 hl hd hb hp1 a4 a5 hWr.1 hWr.2 hK ht hv v0 hkid hW hkk q1
 by_cases q2:kk=2
 ·exact plan_filter2 hl hd hb hp1 a4 a5 hWr.1 hWr.2 hK ht hv v0 hkid hW hkk q2
 by_cases q3:kk=3
 ·exact plan_proj3 hl hd hb hp1 a4 a5 hWr.1 hWr.2 hK ht hv v0 hkid hW hkk q3
 by_cases q4:kk=4
 ·exact plan_proj4 hl hd hb hp1 a4 a5 hWr.1 hWr.2 hK ht hv v0 hkid hW hkk q4
 by_cases q5:kk=5
 ·by_cases hj:j1=0
  ·exact plan_nojoin5 hl hd hb hp1 a4 a5 hWr.1 hWr.2 hK ht hv v0 hkid hW hkk hj q5
  by_cases hw4:W≤4
  ·exact plan_join5 hl hw hwl hk0 hkl hd hb hp1 a4 a5 hWr.1 hWr.2 hK ht hv v0 hkid hW hkk hj (by omega) hw4 (fun y hy=>hoth (j1 - 1) (by omega) y hy) q5
  ·exact plan_wide5 hl hd hb hp1 a4 a5 hWr.1 hWr.2 hK ht hv v0 hkid hW hkk hj hw4 q5
 by_cases q6:kk=6
 ·by_cases hj:j1=0
  ·exact plan_nojoin6 hl hd hb hp1 a4 a5 hWr.1 hWr.2 hK ht hv v0 hkid hW hkk hj q6
  by_cases hw4:W≤4
  ·exact plan_join6 hl hw hwl hk0 hkl hd hb hp1 a4 a5 hWr.1 hWr.2 hK ht hv v0 hkid hW hkk hj (by omega) hw4 (fun y hy=>hoth (j1 - 1) (by omega) y hy) q6
  ·exact plan_wide6 hl hd hb hp1 a4 a5 hWr.1 hWr.2 hK ht hv v0 hkid hW hkk hj hw4 q6
 by_cases q7:kk=7
 ·by_cases hu:0 < u1
  ·exact plan_union hl hd hb hp1 a4 a5 hWr.1 hWr.2 hK ht hv v0 hkid hW hkk hu q7
  ·exact plan_nounion hl hd hb hp1 a4 a5 hWr.1 hWr.2 hK ht hv v0 hkid hW hkk hu q7
 by_cases q8:kk=8
 ·exact plan_distinct hl hd hb hp1 a4 a5 hWr.1 hWr.2 hK ht hv v0 hkid hW hkk q8
 have q9:kk=9:=by omega
 by_cases hw1:1 < W
 ·exact plan_group2 hl hd hb hp1 a4 a5 hWr.1 hWr.2 hK ht hv v0 hkid hW hkk hw1 q9
 ·exact plan_group1 hl hd hb hp1 a4 a5 hWr.1 hWr.2 hK ht hv v0 hkid hW hkk hw1 q9
theorem PlanOk.le {l:List UInt8} {ws:List Int} {k:Nat} {d j c c':Nat} (h:PlanOk l ws k d j c) (hc:c≤c'):PlanOk l ws k d j c':=by
 intro p u h0 h1 hu0 hu1
 obtain ⟨P,p',u',j',b1,b2,b3,b4,b5,b6,b7⟩:=h p u h0 (by omega) hu0 hu1
 exact ⟨P,p',u',j',b1,b2,b3,by omega,b5,b6,b7⟩
theorem plan_none {l:List UInt8} (hl:l.length≤2000) {ws:List Int} (hw:∀ w∈ws,0≤w∧w≤6) (hwl:ws.length < 1000000) {k:Nat} (hk0:0 < k) (hkl:k≤ws.length):∀ d:Nat,d < 50→PlanOk l ws k d 0 (500 * d + 1)
 | 0,_=>(plan_zero hl 0).le (by omega)
 | d + 1,h=>(plan_step hl hw hwl hk0 hkl (c2:=0) (by omega) (by omega) (plan_none hl hw hwl hk0 hkl d (by omega)) (fun i hi=>by omega)).le (by omega)
theorem plan_one {l:List UInt8} (hl:l.length≤2000) {ws:List Int} (hw:∀ w∈ws,0≤w∧w≤6) (hwl:ws.length < 1000000) {k:Nat} (hk0:0 < k) (hkl:k≤ws.length):∀ d:Nat,d < 50→PlanOk l ws k d 1 (2000 * d + 1)
 | 0,_=>(plan_zero hl 1).le (by omega)
 | d + 1,h=>(plan_step hl hw hwl hk0 hkl (c2:=501) (by omega) (by omega) (plan_one hl hw hwl hk0 hkl d (by omega)) (fun i hi y hy=>by
   obtain rfl:i=0:=by omega
   exact (plan_none hl hw hwl hk0 hkl y (by omega)).le (by omega))).le (by omega)
theorem filt_step {e:Ex} {p:Pn} (he:e.size≤120) (hp:p.thin):(filtP e p).thin:=filtP_thin (by omega) hp
end Go.Proofs.YtjcjpbjpbbdnlaaGreat.P

namespace Go.Proofs.YtjcjpbjpbbdnlaaGreat.P
open Go Go.Av
set_option maxRecDepth 4000
set_option maxHeartbeats 8000000
def bl (n:Nat):Nat:=if n=0 then 0 else 1
def rX (b:Nat) (P:Pn):AV:=.agg [.int P.kind, .int P.table,gro b 5 P.exprs.length,gro (b + bl P.exprs.length) 1 P.cols.length,gro (b + bl P.exprs.length + bl P.cols.length) 5 P.kids.length]
def rS (P:Pn):StL:=groB 5 (Ex.cellsL P.exprs) P.exprs.length ++ (groB 1 (intsL P.cols) P.cols.length ++ groB 5 (Pn.cellsL P.kids) P.kids.length)
@[simp] theorem cq_plan (a:List AV) (st:StL):callA CQ 150 a st=callA CP 150 a st:=by rw [callA_prim (p:=callA CP 150) rfl]
@[simp] theorem cq_filterOf (a:List AV) (st:StL):callA CQ 151 a st=bodyA C0 true 151 a st:=by rw [callA_prim (p:=bodyA C0 true 151) rfl]
@[simp] theorem cq_planWidth (a:List AV) (st:StL):callA CQ 103 a st=callA CP 103 a st:=by rw [callA_prim (p:=lookC (callA C0) 103) rfl,callA_prim (p:=lookC (callA C0) 103) rfl]
@[simp] theorem cq_copyPlan (a:List AV) (st:StL):callA CQ 63 a st=callA CP 63 a st:=by rw [callA_prim (p:=frzO (callA C0) 63) rfl,callA_prim (p:=frzO (callA C0) 63) rfl]
@[simp] theorem cq_pick (a:List AV) (st:StL):callA CQ 76 a st=callA C0 76 a st:=by rw [callA_prim (p:=callA C0 76) rfl]
@[simp] theorem cq_one (a:List AV) (st:StL):callA CQ 84 a st=callA C0 84 a st:=by rw [callA_prim (p:=callA C0 84) rfl]
@[simp] theorem cq_cond (a:List AV) (st:StL):callA CQ 152 a st=callA C0 152 a st:=by rw [callA_prim (p:=callA C0 152) rfl]
@[simp] theorem cq_expr (a:List AV) (st:StL):callA CQ 153 a st=callA C0 153 a st:=by rw [callA_prim (p:=callA C0 153) rfl]
theorem filterOf_own (e:Ex) (p:Pn):bodyA C0 true 151 [.i (.agg e.cells), .i (.agg p.cells)] []=some (.agg [.int 2, .int 0, .osl 0 5 0 1, .nils, .osl 1 5 0 1],[some (.arr 5 [e.cells]),some (.arr 5 [p.cells])]):=by
 rw [bodyA_eq Tryz.func151 rfl rfl,Ex.cells_eq,Pn.cells_eq]
 simp
def RootOk (l:List UInt8) (ws:List Int) (k d j c:Nat):Prop:=∀ p u:Int,0≤p→p + c < 300000000→0≤u→u≤1→∃ (P:Pn) (p' u':Int) (j':Nat),
  bodyA CQ true 150 [.own 0 0, .int d] (PSt l ws k j u p)=some (rX 3 P,PSt l ws k j' u' p' ++ rS P)∧P.thin∧p≤p'∧p'≤p + c∧j'≤j∧0≤u'∧u'≤1∧P.exprs.length≤2∧P.cols.length≤1
theorem root_scan {l:List UInt8} {ws:List Int} {k:Nat} {d j:Nat} {p u t:Int} (hd:d < 100) (ht:callA C0 76 [.own 0 0, .int k] [Rd l p]=some (.int t,[Rd l (p + 1)])) (hv:callA C0 76 [.own 0 0, .int 6] [Rd l (p + 1)]=some (.int 0,[Rd l (p + 1 + 1)])) :
  bodyA CQ true 150 [.own 0 0, .int ((d + 1:Nat):Int)] (PSt l ws k j u p)=some (rX 3 (Pn.scan t),PSt l ws k j u (p + 1 + 1) ++ rS (Pn.scan t)):=by
 have wn:¬ ((d:Int) + 1=0):=by omega
 rw [bodyA_eq Tryz.func150 rfl rfl]
 simp [PSt,ht,hv,wn,rX,rS,bl,Pn.scan]
theorem root_filter0 {l:List UInt8} (hl:l.length≤2000) {ws:List Int} {k:Nat} {d j c2:Nat} {p u t v W kk p1 u1:Int} {j1:Nat} {K:Pn} (hd:d < 100) (h1:p1 + 400 + c2 < 300000000) (hp1:0≤p1) (hu0:0≤u1) (hu1:u1≤1) (hW0:0≤W) (hW6:W≤6) (hK:K.thin)
  (ht:callA C0 76 [.own 0 0, .int k] [Rd l p]=some (.int t,[Rd l (p + 1)])) (hv:callA C0 76 [.own 0 0, .int 6] [Rd l (p + 1)]=some (.int v,[Rd l (p + 1 + 1)])) (v0:¬ v=0)
  (hkid:callA CP 150 [.own 0 0, .int d] (PSt l ws k j u (p + 1 + 1))=some (.i (.agg K.cells),PSt l ws k j1 u1 p1))
  (hW:callA CP 103 [.i (.agg K.cells), .osl 0 1 0 k, .int 8] [some (.arr 1 (intsL ws))]=some (.int W,[some (.arr 1 (intsL ws))]))
  (hkk:callA C0 76 [.own 0 0, .int 10] [Rd l p1]=some (.int kk,[Rd l (p1 + 1)])) (hq:kk=0):∃ (P:Pn) (p' u':Int) (j':Nat),bodyA CQ true 150 [.own 0 0, .int ((d + 1:Nat):Int)] (PSt l ws k j u p)=some (rX 3 P,PSt l ws k j' u' p' ++ rS P)∧P.thin∧p1≤p'∧p'≤p1 + 400 + c2∧j'≤j1∧0≤u'∧u'≤1∧P.exprs.length≤2∧P.cols.length≤1:=by
 have we:IntKind.i64.wrap (d:Int)=d:=wrap64 (by omega) (by omega)
 have wn:¬ ((d:Int) + 1=0):=by omega
 simp only [PSt] at hkid
 rw [Pn.cells_eq K] at hkid hW
 obtain ⟨e,p2,he,a1,a2,a3⟩:=randomCondition_eq l hl W (p1 + 1) (by omega) (by omega)
 have hf:=filterOf_own e K
 rw [Pn.cells_eq K,Ex.cells_eq e] at hf
 rw [Ex.cells_eq e] at he
 refine ⟨filtP e K,p2,u1,j1,?_,filtP_thin (by omega) hK,by omega,by omega,by omega,by omega,by omega,by simp [filtP,Pn.scan],by simp [filtP,Pn.scan]⟩
 rw [bodyA_eq Tryz.func150 rfl rfl]
 simp [PSt,ht,hv,v0,we,hkid,hW,hkk,wn,hq,rX,rS,bl,he,hf,filtP,Ex.cellsL,intsL,Pn.cellsL,Pn.cells_eq K,Ex.cells_eq e]
theorem root_filter1 {l:List UInt8} (hl:l.length≤2000) {ws:List Int} {k:Nat} {d j c2:Nat} {p u t v W kk p1 u1:Int} {j1:Nat} {K:Pn} (hd:d < 100) (h1:p1 + 400 + c2 < 300000000) (hp1:0≤p1) (hu0:0≤u1) (hu1:u1≤1) (hW0:0≤W) (hW6:W≤6) (hK:K.thin)
  (ht:callA C0 76 [.own 0 0, .int k] [Rd l p]=some (.int t,[Rd l (p + 1)])) (hv:callA C0 76 [.own 0 0, .int 6] [Rd l (p + 1)]=some (.int v,[Rd l (p + 1 + 1)])) (v0:¬ v=0)
  (hkid:callA CP 150 [.own 0 0, .int d] (PSt l ws k j u (p + 1 + 1))=some (.i (.agg K.cells),PSt l ws k j1 u1 p1))
  (hW:callA CP 103 [.i (.agg K.cells), .osl 0 1 0 k, .int 8] [some (.arr 1 (intsL ws))]=some (.int W,[some (.arr 1 (intsL ws))]))
  (hkk:callA C0 76 [.own 0 0, .int 10] [Rd l p1]=some (.int kk,[Rd l (p1 + 1)])) (hq:kk=1):∃ (P:Pn) (p' u':Int) (j':Nat),bodyA CQ true 150 [.own 0 0, .int ((d + 1:Nat):Int)] (PSt l ws k j u p)=some (rX 3 P,PSt l ws k j' u' p' ++ rS P)∧P.thin∧p1≤p'∧p'≤p1 + 400 + c2∧j'≤j1∧0≤u'∧u'≤1∧P.exprs.length≤2∧P.cols.length≤1:=by
 have we:IntKind.i64.wrap (d:Int)=d:=wrap64 (by omega) (by omega)
 have wn:¬ ((d:Int) + 1=0):=by omega
 simp only [PSt] at hkid
 rw [Pn.cells_eq K] at hkid hW
 obtain ⟨e,p2,he,a1,a2,a3⟩:=randomCondition_eq l hl W (p1 + 1) (by omega) (by omega)
 have hf:=filterOf_own e K
 rw [Pn.cells_eq K,Ex.cells_eq e] at hf
 rw [Ex.cells_eq e] at he
 refine ⟨filtP e K,p2,u1,j1,?_,filtP_thin (by omega) hK,by omega,by omega,by omega,by omega,by omega,by simp [filtP,Pn.scan],by simp [filtP,Pn.scan]⟩
 rw [bodyA_eq Tryz.func150 rfl rfl]
 simp [PSt,ht,hv,v0,we,hkid,hW,hkk,wn,hq,rX,rS,bl,he,hf,filtP,Ex.cellsL,intsL,Pn.cellsL,Pn.cells_eq K,Ex.cells_eq e]
theorem root_filter2 {l:List UInt8} (hl:l.length≤2000) {ws:List Int} {k:Nat} {d j c2:Nat} {p u t v W kk p1 u1:Int} {j1:Nat} {K:Pn} (hd:d < 100) (h1:p1 + 400 + c2 < 300000000) (hp1:0≤p1) (hu0:0≤u1) (hu1:u1≤1) (hW0:0≤W) (hW6:W≤6) (hK:K.thin)
  (ht:callA C0 76 [.own 0 0, .int k] [Rd l p]=some (.int t,[Rd l (p + 1)])) (hv:callA C0 76 [.own 0 0, .int 6] [Rd l (p + 1)]=some (.int v,[Rd l (p + 1 + 1)])) (v0:¬ v=0)
  (hkid:callA CP 150 [.own 0 0, .int d] (PSt l ws k j u (p + 1 + 1))=some (.i (.agg K.cells),PSt l ws k j1 u1 p1))
  (hW:callA CP 103 [.i (.agg K.cells), .osl 0 1 0 k, .int 8] [some (.arr 1 (intsL ws))]=some (.int W,[some (.arr 1 (intsL ws))]))
  (hkk:callA C0 76 [.own 0 0, .int 10] [Rd l p1]=some (.int kk,[Rd l (p1 + 1)])) (hq:kk=2):∃ (P:Pn) (p' u':Int) (j':Nat),bodyA CQ true 150 [.own 0 0, .int ((d + 1:Nat):Int)] (PSt l ws k j u p)=some (rX 3 P,PSt l ws k j' u' p' ++ rS P)∧P.thin∧p1≤p'∧p'≤p1 + 400 + c2∧j'≤j1∧0≤u'∧u'≤1∧P.exprs.length≤2∧P.cols.length≤1:=by
 have we:IntKind.i64.wrap (d:Int)=d:=wrap64 (by omega) (by omega)
 have wn:¬ ((d:Int) + 1=0):=by omega
 simp only [PSt] at hkid
 rw [Pn.cells_eq K] at hkid hW
 obtain ⟨e,p2,he,a1,a2,a3⟩:=randomCondition_eq l hl W (p1 + 1) (by omega) (by omega)
 have hf:=filterOf_own e K
 rw [Pn.cells_eq K,Ex.cells_eq e] at hf
 rw [Ex.cells_eq e] at he
 refine ⟨filtP e K,p2,u1,j1,?_,filtP_thin (by omega) hK,by omega,by omega,by omega,by omega,by omega,by simp [filtP,Pn.scan],by simp [filtP,Pn.scan]⟩
 rw [bodyA_eq Tryz.func150 rfl rfl]
 simp [PSt,ht,hv,v0,we,hkid,hW,hkk,wn,hq,rX,rS,bl,he,hf,filtP,Ex.cellsL,intsL,Pn.cellsL,Pn.cells_eq K,Ex.cells_eq e]
theorem root_distinct {l:List UInt8} (hl:l.length≤2000) {ws:List Int} {k:Nat} {d j c2:Nat} {p u t v W kk p1 u1:Int} {j1:Nat} {K:Pn} (hd:d < 100) (h1:p1 + 400 + c2 < 300000000) (hp1:0≤p1) (hu0:0≤u1) (hu1:u1≤1) (hW0:0≤W) (hW6:W≤6) (hK:K.thin)
  (ht:callA C0 76 [.own 0 0, .int k] [Rd l p]=some (.int t,[Rd l (p + 1)])) (hv:callA C0 76 [.own 0 0, .int 6] [Rd l (p + 1)]=some (.int v,[Rd l (p + 1 + 1)])) (v0:¬ v=0)
  (hkid:callA CP 150 [.own 0 0, .int d] (PSt l ws k j u (p + 1 + 1))=some (.i (.agg K.cells),PSt l ws k j1 u1 p1))
  (hW:callA CP 103 [.i (.agg K.cells), .osl 0 1 0 k, .int 8] [some (.arr 1 (intsL ws))]=some (.int W,[some (.arr 1 (intsL ws))]))
  (hkk:callA C0 76 [.own 0 0, .int 10] [Rd l p1]=some (.int kk,[Rd l (p1 + 1)])) (hq:kk=8):∃ (P:Pn) (p' u':Int) (j':Nat),bodyA CQ true 150 [.own 0 0, .int ((d + 1:Nat):Int)] (PSt l ws k j u p)=some (rX 3 P,PSt l ws k j' u' p' ++ rS P)∧P.thin∧p1≤p'∧p'≤p1 + 400 + c2∧j'≤j1∧0≤u'∧u'≤1∧P.exprs.length≤2∧P.cols.length≤1:=by
 have we:IntKind.i64.wrap (d:Int)=d:=wrap64 (by omega) (by omega)
 have wn:¬ ((d:Int) + 1=0):=by omega
 simp only [PSt] at hkid
 rw [Pn.cells_eq K] at hkid hW
 refine ⟨.mk 7 0 [] [] [K],p1 + 1,u1,j1,?_,by simp [Pn.thin,Pn.thinL,hK],by omega,by omega,by omega,by omega,by omega,by simp [filtP,Pn.scan],by simp [filtP,Pn.scan]⟩
 rw [bodyA_eq Tryz.func150 rfl rfl]
 simp [PSt,ht,hv,v0,we,hkid,hW,hkk,wn,hq,rX,rS,bl,Pn.cells,Ex.cellsL,intsL,Pn.cellsL,Pn.cells_eq K]
theorem root_nojoin5 {l:List UInt8} (hl:l.length≤2000) {ws:List Int} {k:Nat} {d j c2:Nat} {p u t v W kk p1 u1:Int} {j1:Nat} {K:Pn} (hd:d < 100) (h1:p1 + 400 + c2 < 300000000) (hp1:0≤p1) (hu0:0≤u1) (hu1:u1≤1) (hW0:0≤W) (hW6:W≤6) (hK:K.thin)
  (ht:callA C0 76 [.own 0 0, .int k] [Rd l p]=some (.int t,[Rd l (p + 1)])) (hv:callA C0 76 [.own 0 0, .int 6] [Rd l (p + 1)]=some (.int v,[Rd l (p + 1 + 1)])) (v0:¬ v=0)
  (hkid:callA CP 150 [.own 0 0, .int d] (PSt l ws k j u (p + 1 + 1))=some (.i (.agg K.cells),PSt l ws k j1 u1 p1))
  (hW:callA CP 103 [.i (.agg K.cells), .osl 0 1 0 k, .int 8] [some (.arr 1 (intsL ws))]=some (.int W,[some (.arr 1 (intsL ws))]))
  (hkk:callA C0 76 [.own 0 0, .int 10] [Rd l p1]=some (.int kk,[Rd l (p1 + 1)])) (hj:j1=0) (hq:kk=5):∃ (P:Pn) (p' u':Int) (j':Nat),bodyA CQ true 150 [.own 0 0, .int ((d + 1:Nat):Int)] (PSt l ws k j u p)=some (rX 3 P,PSt l ws k j' u' p' ++ rS P)∧P.thin∧p1≤p'∧p'≤p1 + 400 + c2∧j'≤j1∧0≤u'∧u'≤1∧P.exprs.length≤2∧P.cols.length≤1:=by
 have we:IntKind.i64.wrap (d:Int)=d:=wrap64 (by omega) (by omega)
 have wn:¬ ((d:Int) + 1=0):=by omega
 simp only [PSt] at hkid
 rw [Pn.cells_eq K] at hkid hW
 obtain ⟨e,p2,he,a1,a2,a3⟩:=randomCondition_eq l hl W (p1 + 1) (by omega) (by omega)
 have hf:=filterOf_own e K
 rw [Pn.cells_eq K,Ex.cells_eq e] at hf
 rw [Ex.cells_eq e] at he
 refine ⟨filtP e K,p2,u1,j1,?_,filtP_thin (by omega) hK,by omega,by omega,by omega,by omega,by omega,by simp [filtP,Pn.scan],by simp [filtP,Pn.scan]⟩
 rw [bodyA_eq Tryz.func150 rfl rfl]
 simp [PSt,ht,hv,v0,we,hkid,hW,hkk,wn,hq,rX,rS,bl,he,hf,filtP,Ex.cellsL,intsL,Pn.cellsL,Pn.cells_eq K,Ex.cells_eq e,hj]
theorem root_wide5 {l:List UInt8} (hl:l.length≤2000) {ws:List Int} {k:Nat} {d j c2:Nat} {p u t v W kk p1 u1:Int} {j1:Nat} {K:Pn} (hd:d < 100) (h1:p1 + 400 + c2 < 300000000) (hp1:0≤p1) (hu0:0≤u1) (hu1:u1≤1) (hW0:0≤W) (hW6:W≤6) (hK:K.thin)
  (ht:callA C0 76 [.own 0 0, .int k] [Rd l p]=some (.int t,[Rd l (p + 1)])) (hv:callA C0 76 [.own 0 0, .int 6] [Rd l (p + 1)]=some (.int v,[Rd l (p + 1 + 1)])) (v0:¬ v=0)
  (hkid:callA CP 150 [.own 0 0, .int d] (PSt l ws k j u (p + 1 + 1))=some (.i (.agg K.cells),PSt l ws k j1 u1 p1))
  (hW:callA CP 103 [.i (.agg K.cells), .osl 0 1 0 k, .int 8] [some (.arr 1 (intsL ws))]=some (.int W,[some (.arr 1 (intsL ws))]))
  (hkk:callA C0 76 [.own 0 0, .int 10] [Rd l p1]=some (.int kk,[Rd l (p1 + 1)])) (hj:j1≠0) (hw4:¬ W≤4) (hq:kk=5):∃ (P:Pn) (p' u':Int) (j':Nat),bodyA CQ true 150 [.own 0 0, .int ((d + 1:Nat):Int)] (PSt l ws k j u p)=some (rX 3 P,PSt l ws k j' u' p' ++ rS P)∧P.thin∧p1≤p'∧p'≤p1 + 400 + c2∧j'≤j1∧0≤u'∧u'≤1∧P.exprs.length≤2∧P.cols.length≤1:=by
 have we:IntKind.i64.wrap (d:Int)=d:=wrap64 (by omega) (by omega)
 have wn:¬ ((d:Int) + 1=0):=by omega
 simp only [PSt] at hkid
 rw [Pn.cells_eq K] at hkid hW
 have hj':0 < j1:=by omega
 obtain ⟨e,p2,he,a1,a2,a3⟩:=randomCondition_eq l hl W (p1 + 1) (by omega) (by omega)
 have hf:=filterOf_own e K
 rw [Pn.cells_eq K,Ex.cells_eq e] at hf
 rw [Ex.cells_eq e] at he
 refine ⟨filtP e K,p2,u1,j1,?_,filtP_thin (by omega) hK,by omega,by omega,by omega,by omega,by omega,by simp [filtP,Pn.scan],by simp [filtP,Pn.scan]⟩
 rw [bodyA_eq Tryz.func150 rfl rfl]
 simp [PSt,ht,hv,v0,we,hkid,hW,hkk,wn,hq,rX,rS,bl,he,hf,filtP,Ex.cellsL,intsL,Pn.cellsL,Pn.cells_eq K,Ex.cells_eq e,hj',hj,hw4]
theorem root_nojoin6 {l:List UInt8} (hl:l.length≤2000) {ws:List Int} {k:Nat} {d j c2:Nat} {p u t v W kk p1 u1:Int} {j1:Nat} {K:Pn} (hd:d < 100) (h1:p1 + 400 + c2 < 300000000) (hp1:0≤p1) (hu0:0≤u1) (hu1:u1≤1) (hW0:0≤W) (hW6:W≤6) (hK:K.thin)
  (ht:callA C0 76 [.own 0 0, .int k] [Rd l p]=some (.int t,[Rd l (p + 1)])) (hv:callA C0 76 [.own 0 0, .int 6] [Rd l (p + 1)]=some (.int v,[Rd l (p + 1 + 1)])) (v0:¬ v=0)
  (hkid:callA CP 150 [.own 0 0, .int d] (PSt l ws k j u (p + 1 + 1))=some (.i (.agg K.cells),PSt l ws k j1 u1 p1))
  (hW:callA CP 103 [.i (.agg K.cells), .osl 0 1 0 k, .int 8] [some (.arr 1 (intsL ws))]=some (.int W,[some (.arr 1 (intsL ws))]))
  (hkk:callA C0 76 [.own 0 0, .int 10] [Rd l p1]=some (.int kk,[Rd l (p1 + 1)])) (hj:j1=0) (hq:kk=6):∃ (P:Pn) (p' u':Int) (j':Nat),bodyA CQ true 150 [.own 0 0, .int ((d + 1:Nat):Int)] (PSt l ws k j u p)=some (rX 3 P,PSt l ws k j' u' p' ++ rS P)∧P.thin∧p1≤p'∧p'≤p1 + 400 + c2∧j'≤j1∧0≤u'∧u'≤1∧P.exprs.length≤2∧P.cols.length≤1:=by
 have we:IntKind.i64.wrap (d:Int)=d:=wrap64 (by omega) (by omega)
 have wn:¬ ((d:Int) + 1=0):=by omega
 simp only [PSt] at hkid
 rw [Pn.cells_eq K] at hkid hW
 obtain ⟨e,p2,he,a1,a2,a3⟩:=randomCondition_eq l hl W (p1 + 1) (by omega) (by omega)
 have hf:=filterOf_own e K
 rw [Pn.cells_eq K,Ex.cells_eq e] at hf
 rw [Ex.cells_eq e] at he
 refine ⟨filtP e K,p2,u1,j1,?_,filtP_thin (by omega) hK,by omega,by omega,by omega,by omega,by omega,by simp [filtP,Pn.scan],by simp [filtP,Pn.scan]⟩
 rw [bodyA_eq Tryz.func150 rfl rfl]
 simp [PSt,ht,hv,v0,we,hkid,hW,hkk,wn,hq,rX,rS,bl,he,hf,filtP,Ex.cellsL,intsL,Pn.cellsL,Pn.cells_eq K,Ex.cells_eq e,hj]
theorem root_wide6 {l:List UInt8} (hl:l.length≤2000) {ws:List Int} {k:Nat} {d j c2:Nat} {p u t v W kk p1 u1:Int} {j1:Nat} {K:Pn} (hd:d < 100) (h1:p1 + 400 + c2 < 300000000) (hp1:0≤p1) (hu0:0≤u1) (hu1:u1≤1) (hW0:0≤W) (hW6:W≤6) (hK:K.thin)
  (ht:callA C0 76 [.own 0 0, .int k] [Rd l p]=some (.int t,[Rd l (p + 1)])) (hv:callA C0 76 [.own 0 0, .int 6] [Rd l (p + 1)]=some (.int v,[Rd l (p + 1 + 1)])) (v0:¬ v=0)
  (hkid:callA CP 150 [.own 0 0, .int d] (PSt l ws k j u (p + 1 + 1))=some (.i (.agg K.cells),PSt l ws k j1 u1 p1))
  (hW:callA CP 103 [.i (.agg K.cells), .osl 0 1 0 k, .int 8] [some (.arr 1 (intsL ws))]=some (.int W,[some (.arr 1 (intsL ws))]))
  (hkk:callA C0 76 [.own 0 0, .int 10] [Rd l p1]=some (.int kk,[Rd l (p1 + 1)])) (hj:j1≠0) (hw4:¬ W≤4) (hq:kk=6):∃ (P:Pn) (p' u':Int) (j':Nat),bodyA CQ true 150 [.own 0 0, .int ((d + 1:Nat):Int)] (PSt l ws k j u p)=some (rX 3 P,PSt l ws k j' u' p' ++ rS P)∧P.thin∧p1≤p'∧p'≤p1 + 400 + c2∧j'≤j1∧0≤u'∧u'≤1∧P.exprs.length≤2∧P.cols.length≤1:=by
 have we:IntKind.i64.wrap (d:Int)=d:=wrap64 (by omega) (by omega)
 have wn:¬ ((d:Int) + 1=0):=by omega
 simp only [PSt] at hkid
 rw [Pn.cells_eq K] at hkid hW
 have hj':0 < j1:=by omega
 obtain ⟨e,p2,he,a1,a2,a3⟩:=randomCondition_eq l hl W (p1 + 1) (by omega) (by omega)
 have hf:=filterOf_own e K
 rw [Pn.cells_eq K,Ex.cells_eq e] at hf
 rw [Ex.cells_eq e] at he
 refine ⟨filtP e K,p2,u1,j1,?_,filtP_thin (by omega) hK,by omega,by omega,by omega,by omega,by omega,by simp [filtP,Pn.scan],by simp [filtP,Pn.scan]⟩
 rw [bodyA_eq Tryz.func150 rfl rfl]
 simp [PSt,ht,hv,v0,we,hkid,hW,hkk,wn,hq,rX,rS,bl,he,hf,filtP,Ex.cellsL,intsL,Pn.cellsL,Pn.cells_eq K,Ex.cells_eq e,hj',hj,hw4]
theorem root_nounion {l:List UInt8} (hl:l.length≤2000) {ws:List Int} {k:Nat} {d j c2:Nat} {p u t v W kk p1 u1:Int} {j1:Nat} {K:Pn} (hd:d < 100) (h1:p1 + 400 + c2 < 300000000) (hp1:0≤p1) (hu0:0≤u1) (hu1:u1≤1) (hW0:0≤W) (hW6:W≤6) (hK:K.thin)
  (ht:callA C0 76 [.own 0 0, .int k] [Rd l p]=some (.int t,[Rd l (p + 1)])) (hv:callA C0 76 [.own 0 0, .int 6] [Rd l (p + 1)]=some (.int v,[Rd l (p + 1 + 1)])) (v0:¬ v=0)
  (hkid:callA CP 150 [.own 0 0, .int d] (PSt l ws k j u (p + 1 + 1))=some (.i (.agg K.cells),PSt l ws k j1 u1 p1))
  (hW:callA CP 103 [.i (.agg K.cells), .osl 0 1 0 k, .int 8] [some (.arr 1 (intsL ws))]=some (.int W,[some (.arr 1 (intsL ws))]))
  (hkk:callA C0 76 [.own 0 0, .int 10] [Rd l p1]=some (.int kk,[Rd l (p1 + 1)])) (hu:¬ 0 < u1) (hq:kk=7):∃ (P:Pn) (p' u':Int) (j':Nat),bodyA CQ true 150 [.own 0 0, .int ((d + 1:Nat):Int)] (PSt l ws k j u p)=some (rX 3 P,PSt l ws k j' u' p' ++ rS P)∧P.thin∧p1≤p'∧p'≤p1 + 400 + c2∧j'≤j1∧0≤u'∧u'≤1∧P.exprs.length≤2∧P.cols.length≤1:=by
 have we:IntKind.i64.wrap (d:Int)=d:=wrap64 (by omega) (by omega)
 have wn:¬ ((d:Int) + 1=0):=by omega
 simp only [PSt] at hkid
 rw [Pn.cells_eq K] at hkid hW
 obtain ⟨e,p2,he,a1,a2,a3⟩:=randomCondition_eq l hl W (p1 + 1) (by omega) (by omega)
 have hf:=filterOf_own e K
 rw [Pn.cells_eq K,Ex.cells_eq e] at hf
 rw [Ex.cells_eq e] at he
 refine ⟨filtP e K,p2,u1,j1,?_,filtP_thin (by omega) hK,by omega,by omega,by omega,by omega,by omega,by simp [filtP,Pn.scan],by simp [filtP,Pn.scan]⟩
 rw [bodyA_eq Tryz.func150 rfl rfl]
 simp [PSt,ht,hv,v0,we,hkid,hW,hkk,wn,hq,rX,rS,bl,he,hf,filtP,Ex.cellsL,intsL,Pn.cellsL,Pn.cells_eq K,Ex.cells_eq e,hu]
theorem root_union {l:List UInt8} (hl:l.length≤2000) {ws:List Int} {k:Nat} {d j c2:Nat} {p u t v W kk p1 u1:Int} {j1:Nat} {K:Pn} (hd:d < 100) (h1:p1 + 400 + c2 < 300000000) (hp1:0≤p1) (hu0:0≤u1) (hu1:u1≤1) (hW0:0≤W) (hW6:W≤6) (hK:K.thin)
  (ht:callA C0 76 [.own 0 0, .int k] [Rd l p]=some (.int t,[Rd l (p + 1)])) (hv:callA C0 76 [.own 0 0, .int 6] [Rd l (p + 1)]=some (.int v,[Rd l (p + 1 + 1)])) (v0:¬ v=0)
  (hkid:callA CP 150 [.own 0 0, .int d] (PSt l ws k j u (p + 1 + 1))=some (.i (.agg K.cells),PSt l ws k j1 u1 p1))
  (hW:callA CP 103 [.i (.agg K.cells), .osl 0 1 0 k, .int 8] [some (.arr 1 (intsL ws))]=some (.int W,[some (.arr 1 (intsL ws))]))
  (hkk:callA C0 76 [.own 0 0, .int 10] [Rd l p1]=some (.int kk,[Rd l (p1 + 1)])) (hu:0 < u1) (hq:kk=7):∃ (P:Pn) (p' u':Int) (j':Nat),bodyA CQ true 150 [.own 0 0, .int ((d + 1:Nat):Int)] (PSt l ws k j u p)=some (rX 3 P,PSt l ws k j' u' p' ++ rS P)∧P.thin∧p1≤p'∧p'≤p1 + 400 + c2∧j'≤j1∧0≤u'∧u'≤1∧P.exprs.length≤2∧P.cols.length≤1:=by
 have we:IntKind.i64.wrap (d:Int)=d:=wrap64 (by omega) (by omega)
 have wn:¬ ((d:Int) + 1=0):=by omega
 simp only [PSt] at hkid
 rw [Pn.cells_eq K] at hkid hW
 obtain ⟨e,p2,he,a1,a2,a3⟩:=randomCondition_eq l hl W (p1 + 1) (by omega) (by omega)
 have hf:=filterOf_own e K
 have hc:=cp_copyPlan K hK
 have wu:IntKind.i64.wrap (u1 - 1)=u1 - 1:=wrap64 (by omega) (by omega)
 rw [Pn.cells_eq K,Ex.cells_eq e] at hf
 rw [Pn.cells_eq K] at hc
 rw [Ex.cells_eq e] at he
 refine ⟨.mk 6 0 [] [] [K,filtP e K],p2,u1 - 1,j1,?_,by have:=filtP_thin (e:=e) (by omega) hK; simp [Pn.thin,Pn.thinL,hK,this],by omega,by omega,by omega,by omega,by omega,by simp [filtP,Pn.scan],by simp [filtP,Pn.scan]⟩
 rw [bodyA_eq Tryz.func150 rfl rfl]
 simp [PSt,ht,hv,v0,we,hkid,hW,hkk,wn,hq,rX,rS,bl,he,hf,filtP,Ex.cellsL,intsL,Pn.cellsL,Pn.cells_eq K,Ex.cells_eq e,hu,hc,wu,Pn.cells_mk,Ex.cellsL,intsL,Pn.cellsL]
theorem root_group1 {l:List UInt8} (hl:l.length≤2000) {ws:List Int} {k:Nat} {d j c2:Nat} {p u t v W kk p1 u1:Int} {j1:Nat} {K:Pn} (hd:d < 100) (h1:p1 + 400 + c2 < 300000000) (hp1:0≤p1) (hu0:0≤u1) (hu1:u1≤1) (hW0:0≤W) (hW6:W≤6) (hK:K.thin)
  (ht:callA C0 76 [.own 0 0, .int k] [Rd l p]=some (.int t,[Rd l (p + 1)])) (hv:callA C0 76 [.own 0 0, .int 6] [Rd l (p + 1)]=some (.int v,[Rd l (p + 1 + 1)])) (v0:¬ v=0)
  (hkid:callA CP 150 [.own 0 0, .int d] (PSt l ws k j u (p + 1 + 1))=some (.i (.agg K.cells),PSt l ws k j1 u1 p1))
  (hW:callA CP 103 [.i (.agg K.cells), .osl 0 1 0 k, .int 8] [some (.arr 1 (intsL ws))]=some (.int W,[some (.arr 1 (intsL ws))]))
  (hkk:callA C0 76 [.own 0 0, .int 10] [Rd l p1]=some (.int kk,[Rd l (p1 + 1)])) (hw1:¬ 1 < W) (hq:kk=9):∃ (P:Pn) (p' u':Int) (j':Nat),bodyA CQ true 150 [.own 0 0, .int ((d + 1:Nat):Int)] (PSt l ws k j u p)=some (rX 3 P,PSt l ws k j' u' p' ++ rS P)∧P.thin∧p1≤p'∧p'≤p1 + 400 + c2∧j'≤j1∧0≤u'∧u'≤1∧P.exprs.length≤2∧P.cols.length≤1:=by
 have we:IntKind.i64.wrap (d:Int)=d:=wrap64 (by omega) (by omega)
 have wn:¬ ((d:Int) + 1=0):=by omega
 simp only [PSt] at hkid
 rw [Pn.cells_eq K] at hkid hW
 refine ⟨.mk 8 0 [] [] [K],p1 + 1,u1,j1,?_,by simp [Pn.thin,Pn.thinL,hK],by omega,by omega,by omega,by omega,by omega,by simp [filtP,Pn.scan],by simp [filtP,Pn.scan]⟩
 rw [bodyA_eq Tryz.func150 rfl rfl]
 simp [PSt,ht,hv,v0,we,hkid,hW,hkk,wn,hq,rX,rS,bl,hw1,Pn.cells_mk,Ex.cellsL,intsL,Pn.cellsL,Pn.cells_eq K]
theorem root_group2 {l:List UInt8} (hl:l.length≤2000) {ws:List Int} {k:Nat} {d j c2:Nat} {p u t v W kk p1 u1:Int} {j1:Nat} {K:Pn} (hd:d < 100) (h1:p1 + 400 + c2 < 300000000) (hp1:0≤p1) (hu0:0≤u1) (hu1:u1≤1) (hW0:0≤W) (hW6:W≤6) (hK:K.thin)
  (ht:callA C0 76 [.own 0 0, .int k] [Rd l p]=some (.int t,[Rd l (p + 1)])) (hv:callA C0 76 [.own 0 0, .int 6] [Rd l (p + 1)]=some (.int v,[Rd l (p + 1 + 1)])) (v0:¬ v=0)
  (hkid:callA CP 150 [.own 0 0, .int d] (PSt l ws k j u (p + 1 + 1))=some (.i (.agg K.cells),PSt l ws k j1 u1 p1))
  (hW:callA CP 103 [.i (.agg K.cells), .osl 0 1 0 k, .int 8] [some (.arr 1 (intsL ws))]=some (.int W,[some (.arr 1 (intsL ws))]))
  (hkk:callA C0 76 [.own 0 0, .int 10] [Rd l p1]=some (.int kk,[Rd l (p1 + 1)])) (hw1:1 < W) (hq:kk=9):∃ (P:Pn) (p' u':Int) (j':Nat),bodyA CQ true 150 [.own 0 0, .int ((d + 1:Nat):Int)] (PSt l ws k j u p)=some (rX 3 P,PSt l ws k j' u' p' ++ rS P)∧P.thin∧p1≤p'∧p'≤p1 + 400 + c2∧j'≤j1∧0≤u'∧u'≤1∧P.exprs.length≤2∧P.cols.length≤1:=by
 have we:IntKind.i64.wrap (d:Int)=d:=wrap64 (by omega) (by omega)
 have wn:¬ ((d:Int) + 1=0):=by omega
 simp only [PSt] at hkid
 rw [Pn.cells_eq K] at hkid hW
 obtain ⟨g,hg,-,-⟩:=pick_eq l (p1 + 1) W (by omega) (by omega) hl
 refine ⟨.mk 8 0 [] [g] [K],p1 + 1 + 1,u1,j1,?_,by simp [Pn.thin,Pn.thinL,hK],by omega,by omega,by omega,by omega,by omega,by simp [filtP,Pn.scan],by simp [filtP,Pn.scan]⟩
 rw [bodyA_eq Tryz.func150 rfl rfl]
 simp [PSt,ht,hv,v0,we,hkid,hW,hkk,wn,hq,rX,rS,bl,hg,hw1,Pn.cells_mk,Ex.cellsL,intsL,Pn.cellsL,Pn.cells_eq K]
theorem root_join5 {l:List UInt8} (hl:l.length≤2000) {ws:List Int} (hw:∀ w∈ws,0≤w∧w≤6) (hwl:ws.length < 1000000) {k:Nat} (hk0:0 < k) (hkl:k≤ws.length) {d j c2:Nat} {p u t v W kk p1 u1:Int} {j1:Nat} {K:Pn} (hd:d < 100) (h1:p1 + 400 + c2 < 300000000) (hp1:0≤p1) (hu0:0≤u1) (hu1:u1≤1) (hW0:0≤W) (hW6:W≤6) (hK:K.thin)
  (ht:callA C0 76 [.own 0 0, .int k] [Rd l p]=some (.int t,[Rd l (p + 1)])) (hv:callA C0 76 [.own 0 0, .int 6] [Rd l (p + 1)]=some (.int v,[Rd l (p + 1 + 1)])) (v0:¬ v=0)
  (hkid:callA CP 150 [.own 0 0, .int d] (PSt l ws k j u (p + 1 + 1))=some (.i (.agg K.cells),PSt l ws k j1 u1 p1))
  (hW:callA CP 103 [.i (.agg K.cells), .osl 0 1 0 k, .int 8] [some (.arr 1 (intsL ws))]=some (.int W,[some (.arr 1 (intsL ws))]))
  (hkk:callA C0 76 [.own 0 0, .int 10] [Rd l p1]=some (.int kk,[Rd l (p1 + 1)])) (hj:j1≠0) (hjb:j1 < 1000) (hw4:W≤4) (hoth:∀ y:Nat,y≤1→PlanOk l ws k y (j1 - 1) c2) (hq:kk=5):∃ (P:Pn) (p' u':Int) (j':Nat),bodyA CQ true 150 [.own 0 0, .int ((d + 1:Nat):Int)] (PSt l ws k j u p)=some (rX 3 P,PSt l ws k j' u' p' ++ rS P)∧P.thin∧p1≤p'∧p'≤p1 + 400 + c2∧j'≤j1∧0≤u'∧u'≤1∧P.exprs.length≤2∧P.cols.length≤1:=by
 have we:IntKind.i64.wrap (d:Int)=d:=wrap64 (by omega) (by omega)
 have wn:¬ ((d:Int) + 1=0):=by omega
 simp only [PSt] at hkid
 rw [Pn.cells_eq K] at hkid hW
 have hj':0 < j1:=by omega
 have wj:IntKind.i64.wrap ((j1:Int) - 1)=((j1 - 1:Nat):Int):=by rw [wrap64 (by omega) (by omega)]; omega
 obtain ⟨x,hx,hx1,-⟩:=pick_eq l (p1 + 1) 2 (by omega) (by omega) hl
 obtain ⟨x0,x1⟩:=hx1 (by omega)
 obtain ⟨y,rfl⟩:∃ y:Nat,x=y:=⟨x.toNat,by omega⟩
 obtain ⟨O,p2,u2,j2,hO,hOt,b1,b2,b3,b4,b5⟩:=hoth y (by omega) (p1 + 1 + 1) u1 (by omega) (by omega) hu0 hu1
 have hV:=splanWidth_own hw hwl hk0 hkl O hOt
 have hVr:=Pn.wd_range (ws:=ws.take k) (fun w hm=>hw w (List.mem_of_mem_take hm)) O 8
 generalize O.wd (ws.take k) 8=V at hV hVr
 have wv:IntKind.i64.wrap (W + V)=W + V:=wrap64 (by omega) (by omega)
 simp only [PSt] at hO
 rw [Pn.cells_eq O] at hO hV
 by_cases hs:W + V≤6
 ·have h1:=one_eq l p2 (by omega) (by omega) hl [[.int 4],[.int 5]] (by simp) (by simp) (by simp)
  obtain ⟨z,hz,hzm⟩:=h1
  obtain ⟨e,p3,he,a1,a2,a3⟩:=randomCondition_eq l hl (W + V) (p2 + 1) (by omega) (by omega)
  rw [Ex.cells_eq e] at he
  simp only [List.length_cons,List.length_nil,Nat.zero_add,Nat.reduceAdd] at hz
  have het:=Ex.thin_of_size e (by omega)
  refine ⟨.mk z 0 [e] [] [K,O],p3,u2,j2,?_,by simp [Pn.thin,Pn.thinL,hK,hOt,het],by omega,by omega,by omega,by omega,by omega,by simp [filtP,Pn.scan],by simp [filtP,Pn.scan]⟩
  rw [bodyA_eq Tryz.func150 rfl rfl]
  simp [PSt,ht,hv,v0,we,hkid,hW,hkk,wn,hq,hj',hj,hw4,wj,hx,hO,hV,wv,hs,hz,he,rX,rS,bl,Pn.cells_mk,Ex.cellsL,intsL,Pn.cellsL,Pn.cells_eq K,Pn.cells_eq O,Ex.cells_eq e]
 ·obtain ⟨e,p3,he,a1,a2,a3⟩:=randomCondition_eq l hl W p2 (by omega) (by omega)
  have hf:=filterOf_own e K
  rw [Pn.cells_eq K,Ex.cells_eq e] at hf
  rw [Ex.cells_eq e] at he
  refine ⟨filtP e K,p3,u2,j2,?_,filtP_thin (by omega) hK,by omega,by omega,by omega,by omega,by omega,by simp [filtP,Pn.scan],by simp [filtP,Pn.scan]⟩
  rw [bodyA_eq Tryz.func150 rfl rfl]
  simp [PSt,ht,hv,v0,we,hkid,hW,hkk,wn,hq,hj',hj,hw4,wj,hx,hO,hV,wv,hs,rX,rS,bl,he,hf,filtP,Ex.cellsL,intsL,Pn.cellsL,Pn.cells_eq K,Ex.cells_eq e]
theorem root_join6 {l:List UInt8} (hl:l.length≤2000) {ws:List Int} (hw:∀ w∈ws,0≤w∧w≤6) (hwl:ws.length < 1000000) {k:Nat} (hk0:0 < k) (hkl:k≤ws.length) {d j c2:Nat} {p u t v W kk p1 u1:Int} {j1:Nat} {K:Pn} (hd:d < 100) (h1:p1 + 400 + c2 < 300000000) (hp1:0≤p1) (hu0:0≤u1) (hu1:u1≤1) (hW0:0≤W) (hW6:W≤6) (hK:K.thin)
  (ht:callA C0 76 [.own 0 0, .int k] [Rd l p]=some (.int t,[Rd l (p + 1)])) (hv:callA C0 76 [.own 0 0, .int 6] [Rd l (p + 1)]=some (.int v,[Rd l (p + 1 + 1)])) (v0:¬ v=0)
  (hkid:callA CP 150 [.own 0 0, .int d] (PSt l ws k j u (p + 1 + 1))=some (.i (.agg K.cells),PSt l ws k j1 u1 p1))
  (hW:callA CP 103 [.i (.agg K.cells), .osl 0 1 0 k, .int 8] [some (.arr 1 (intsL ws))]=some (.int W,[some (.arr 1 (intsL ws))]))
  (hkk:callA C0 76 [.own 0 0, .int 10] [Rd l p1]=some (.int kk,[Rd l (p1 + 1)])) (hj:j1≠0) (hjb:j1 < 1000) (hw4:W≤4) (hoth:∀ y:Nat,y≤1→PlanOk l ws k y (j1 - 1) c2) (hq:kk=6):∃ (P:Pn) (p' u':Int) (j':Nat),bodyA CQ true 150 [.own 0 0, .int ((d + 1:Nat):Int)] (PSt l ws k j u p)=some (rX 3 P,PSt l ws k j' u' p' ++ rS P)∧P.thin∧p1≤p'∧p'≤p1 + 400 + c2∧j'≤j1∧0≤u'∧u'≤1∧P.exprs.length≤2∧P.cols.length≤1:=by
 have we:IntKind.i64.wrap (d:Int)=d:=wrap64 (by omega) (by omega)
 have wn:¬ ((d:Int) + 1=0):=by omega
 simp only [PSt] at hkid
 rw [Pn.cells_eq K] at hkid hW
 have hj':0 < j1:=by omega
 have wj:IntKind.i64.wrap ((j1:Int) - 1)=((j1 - 1:Nat):Int):=by rw [wrap64 (by omega) (by omega)]; omega
 obtain ⟨x,hx,hx1,-⟩:=pick_eq l (p1 + 1) 2 (by omega) (by omega) hl
 obtain ⟨x0,x1⟩:=hx1 (by omega)
 obtain ⟨y,rfl⟩:∃ y:Nat,x=y:=⟨x.toNat,by omega⟩
 obtain ⟨O,p2,u2,j2,hO,hOt,b1,b2,b3,b4,b5⟩:=hoth y (by omega) (p1 + 1 + 1) u1 (by omega) (by omega) hu0 hu1
 have hV:=splanWidth_own hw hwl hk0 hkl O hOt
 have hVr:=Pn.wd_range (ws:=ws.take k) (fun w hm=>hw w (List.mem_of_mem_take hm)) O 8
 generalize O.wd (ws.take k) 8=V at hV hVr
 have wv:IntKind.i64.wrap (W + V)=W + V:=wrap64 (by omega) (by omega)
 simp only [PSt] at hO
 rw [Pn.cells_eq O] at hO hV
 by_cases hs:W + V≤6
 ·have h1:=one_eq l p2 (by omega) (by omega) hl [[.int 4],[.int 5]] (by simp) (by simp) (by simp)
  obtain ⟨z,hz,hzm⟩:=h1
  obtain ⟨e,p3,he,a1,a2,a3⟩:=randomCondition_eq l hl (W + V) (p2 + 1) (by omega) (by omega)
  rw [Ex.cells_eq e] at he
  simp only [List.length_cons,List.length_nil,Nat.zero_add,Nat.reduceAdd] at hz
  have het:=Ex.thin_of_size e (by omega)
  refine ⟨.mk z 0 [e] [] [K,O],p3,u2,j2,?_,by simp [Pn.thin,Pn.thinL,hK,hOt,het],by omega,by omega,by omega,by omega,by omega,by simp [filtP,Pn.scan],by simp [filtP,Pn.scan]⟩
  rw [bodyA_eq Tryz.func150 rfl rfl]
  simp [PSt,ht,hv,v0,we,hkid,hW,hkk,wn,hq,hj',hj,hw4,wj,hx,hO,hV,wv,hs,hz,he,rX,rS,bl,Pn.cells_mk,Ex.cellsL,intsL,Pn.cellsL,Pn.cells_eq K,Pn.cells_eq O,Ex.cells_eq e]
 ·obtain ⟨e,p3,he,a1,a2,a3⟩:=randomCondition_eq l hl W p2 (by omega) (by omega)
  have hf:=filterOf_own e K
  rw [Pn.cells_eq K,Ex.cells_eq e] at hf
  rw [Ex.cells_eq e] at he
  refine ⟨filtP e K,p3,u2,j2,?_,filtP_thin (by omega) hK,by omega,by omega,by omega,by omega,by omega,by simp [filtP,Pn.scan],by simp [filtP,Pn.scan]⟩
  rw [bodyA_eq Tryz.func150 rfl rfl]
  simp [PSt,ht,hv,v0,we,hkid,hW,hkk,wn,hq,hj',hj,hw4,wj,hx,hO,hV,wv,hs,rX,rS,bl,he,hf,filtP,Ex.cellsL,intsL,Pn.cellsL,Pn.cells_eq K,Ex.cells_eq e]
theorem root_proj3 {l:List UInt8} (hl:l.length≤2000) {ws:List Int} {k:Nat} {d j c2:Nat} {p u t v W kk p1 u1:Int} {j1:Nat} {K:Pn} (hd:d < 100) (h1:p1 + 400 + c2 < 300000000) (hp1:0≤p1) (hu0:0≤u1) (hu1:u1≤1) (hW0:0≤W) (hW6:W≤6) (hK:K.thin)
  (ht:callA C0 76 [.own 0 0, .int k] [Rd l p]=some (.int t,[Rd l (p + 1)])) (hv:callA C0 76 [.own 0 0, .int 6] [Rd l (p + 1)]=some (.int v,[Rd l (p + 1 + 1)])) (v0:¬ v=0)
  (hkid:callA CP 150 [.own 0 0, .int d] (PSt l ws k j u (p + 1 + 1))=some (.i (.agg K.cells),PSt l ws k j1 u1 p1))
  (hW:callA CP 103 [.i (.agg K.cells), .osl 0 1 0 k, .int 8] [some (.arr 1 (intsL ws))]=some (.int W,[some (.arr 1 (intsL ws))]))
  (hkk:callA C0 76 [.own 0 0, .int 10] [Rd l p1]=some (.int kk,[Rd l (p1 + 1)])) (hq:kk=3):∃ (P:Pn) (p' u':Int) (j':Nat),bodyA CQ true 150 [.own 0 0, .int ((d + 1:Nat):Int)] (PSt l ws k j u p)=some (rX 3 P,PSt l ws k j' u' p' ++ rS P)∧P.thin∧p1≤p'∧p'≤p1 + 400 + c2∧j'≤j1∧0≤u'∧u'≤1∧P.exprs.length≤2∧P.cols.length≤1:=by
 have we:IntKind.i64.wrap (d:Int)=d:=wrap64 (by omega) (by omega)
 have wn:¬ ((d:Int) + 1=0):=by omega
 simp only [PSt] at hkid
 rw [Pn.cells_eq K] at hkid hW
 obtain ⟨m,hm,hm1,-⟩:=pick_eq l (p1 + 1) 2 (by omega) (by omega) hl
 obtain ⟨m0,m1⟩:=hm1 (by omega)
 have w2:IntKind.i64.wrap (2:Int)=2:=wrap64 (by omega) (by omega)
 have w1:=wrap_1
 have w0:IntKind.i64.wrap (0:Int)=0:=wrap64 (by omega) (by omega)
 obtain ⟨x1,hx1,hy1,-⟩:=pick_eq l (p1 + 1 + 1) 2 (by omega) (by omega) hl
 obtain ⟨x1a,x1b⟩:=hy1 (by omega)
 obtain ⟨y1,rfl⟩:∃ y:Nat,x1=y:=⟨x1.toNat,by omega⟩
 have hc1:costE y1≤9:=by rcases (show y1=0∨y1=1 by omega) with h | h<;>simp [h,costE]
 obtain ⟨e1,q1,he1,c1a,c1b,c1c⟩:=rE l hl W y1 (by omega) (by omega) ((p1 + 1 + 1) + 1) (by omega) (by omega)
 rw [Ex.cells_eq e1] at he1
 have t1:=Ex.thin_of_size e1 (by omega)
 rcases (show m=0∨m=1 by omega) with rfl | rfl
 ·refine ⟨.mk 3 0 [e1] [] [K],q1,u1,j1,?_,by simp [Pn.thin,Pn.thinL,hK,t1],by omega,by omega,by omega,by omega,by omega,by simp [filtP,Pn.scan],by simp [filtP,Pn.scan]⟩
  rw [bodyA_eq Tryz.func150 rfl rfl]
  simp [PSt,ht,hv,v0,we,hkid,hW,hkk,wn,hq,hm,w1]
  rw [execA_loop]; simp [hx1,he1,w0]
  rw [execA_loop]; simp [rX,rS,bl,Pn.cells_mk,Ex.cellsL,intsL,Pn.cellsL,Pn.cells_eq K,Ex.cells_eq e1,PSt]
 ·obtain ⟨x2,hx2,hy2,-⟩:=pick_eq l q1 2 (by omega) (by omega) hl
  obtain ⟨x2a,x2b⟩:=hy2 (by omega)
  obtain ⟨y2,rfl⟩:∃ y:Nat,x2=y:=⟨x2.toNat,by omega⟩
  have hc2:costE y2≤9:=by rcases (show y2=0∨y2=1 by omega) with h | h<;>simp [h,costE]
  obtain ⟨e2,q2,he2,c2a,c2b,c2c⟩:=rE l hl W y2 (by omega) (by omega) (q1 + 1) (by omega) (by omega)
  rw [Ex.cells_eq e2] at he2
  have t2:=Ex.thin_of_size e2 (by omega)
  refine ⟨.mk 3 0 [e1,e2] [] [K],q2,u1,j1,?_,by simp [Pn.thin,Pn.thinL,hK,t1,t2],by omega,by omega,by omega,by omega,by omega,by simp [filtP,Pn.scan],by simp [filtP,Pn.scan]⟩
  rw [bodyA_eq Tryz.func150 rfl rfl]
  simp [PSt,ht,hv,v0,we,hkid,hW,hkk,wn,hq,hm,w2]
  rw [execA_loop]; simp [hx1,he1,w1]
  rw [execA_loop]; simp [hx2,he2,w0]
  rw [execA_loop]; simp [rX,rS,bl,Pn.cells_mk,Ex.cellsL,intsL,Pn.cellsL,Pn.cells_eq K,Ex.cells_eq e1,Ex.cells_eq e2,PSt]
theorem root_proj4 {l:List UInt8} (hl:l.length≤2000) {ws:List Int} {k:Nat} {d j c2:Nat} {p u t v W kk p1 u1:Int} {j1:Nat} {K:Pn} (hd:d < 100) (h1:p1 + 400 + c2 < 300000000) (hp1:0≤p1) (hu0:0≤u1) (hu1:u1≤1) (hW0:0≤W) (hW6:W≤6) (hK:K.thin)
  (ht:callA C0 76 [.own 0 0, .int k] [Rd l p]=some (.int t,[Rd l (p + 1)])) (hv:callA C0 76 [.own 0 0, .int 6] [Rd l (p + 1)]=some (.int v,[Rd l (p + 1 + 1)])) (v0:¬ v=0)
  (hkid:callA CP 150 [.own 0 0, .int d] (PSt l ws k j u (p + 1 + 1))=some (.i (.agg K.cells),PSt l ws k j1 u1 p1))
  (hW:callA CP 103 [.i (.agg K.cells), .osl 0 1 0 k, .int 8] [some (.arr 1 (intsL ws))]=some (.int W,[some (.arr 1 (intsL ws))]))
  (hkk:callA C0 76 [.own 0 0, .int 10] [Rd l p1]=some (.int kk,[Rd l (p1 + 1)])) (hq:kk=4):∃ (P:Pn) (p' u':Int) (j':Nat),bodyA CQ true 150 [.own 0 0, .int ((d + 1:Nat):Int)] (PSt l ws k j u p)=some (rX 3 P,PSt l ws k j' u' p' ++ rS P)∧P.thin∧p1≤p'∧p'≤p1 + 400 + c2∧j'≤j1∧0≤u'∧u'≤1∧P.exprs.length≤2∧P.cols.length≤1:=by
 have we:IntKind.i64.wrap (d:Int)=d:=wrap64 (by omega) (by omega)
 have wn:¬ ((d:Int) + 1=0):=by omega
 simp only [PSt] at hkid
 rw [Pn.cells_eq K] at hkid hW
 obtain ⟨m,hm,hm1,-⟩:=pick_eq l (p1 + 1) 2 (by omega) (by omega) hl
 obtain ⟨m0,m1⟩:=hm1 (by omega)
 have w2:IntKind.i64.wrap (2:Int)=2:=wrap64 (by omega) (by omega)
 have w1:=wrap_1
 have w0:IntKind.i64.wrap (0:Int)=0:=wrap64 (by omega) (by omega)
 obtain ⟨x1,hx1,hy1,-⟩:=pick_eq l (p1 + 1 + 1) 2 (by omega) (by omega) hl
 obtain ⟨x1a,x1b⟩:=hy1 (by omega)
 obtain ⟨y1,rfl⟩:∃ y:Nat,x1=y:=⟨x1.toNat,by omega⟩
 have hc1:costE y1≤9:=by rcases (show y1=0∨y1=1 by omega) with h | h<;>simp [h,costE]
 obtain ⟨e1,q1,he1,c1a,c1b,c1c⟩:=rE l hl W y1 (by omega) (by omega) ((p1 + 1 + 1) + 1) (by omega) (by omega)
 rw [Ex.cells_eq e1] at he1
 have t1:=Ex.thin_of_size e1 (by omega)
 rcases (show m=0∨m=1 by omega) with rfl | rfl
 ·refine ⟨.mk 3 0 [e1] [] [K],q1,u1,j1,?_,by simp [Pn.thin,Pn.thinL,hK,t1],by omega,by omega,by omega,by omega,by omega,by simp [filtP,Pn.scan],by simp [filtP,Pn.scan]⟩
  rw [bodyA_eq Tryz.func150 rfl rfl]
  simp [PSt,ht,hv,v0,we,hkid,hW,hkk,wn,hq,hm,w1]
  rw [execA_loop]; simp [hx1,he1,w0]
  rw [execA_loop]; simp [rX,rS,bl,Pn.cells_mk,Ex.cellsL,intsL,Pn.cellsL,Pn.cells_eq K,Ex.cells_eq e1,PSt]
 ·obtain ⟨x2,hx2,hy2,-⟩:=pick_eq l q1 2 (by omega) (by omega) hl
  obtain ⟨x2a,x2b⟩:=hy2 (by omega)
  obtain ⟨y2,rfl⟩:∃ y:Nat,x2=y:=⟨x2.toNat,by omega⟩
  have hc2:costE y2≤9:=by rcases (show y2=0∨y2=1 by omega) with h | h<;>simp [h,costE]
  obtain ⟨e2,q2,he2,c2a,c2b,c2c⟩:=rE l hl W y2 (by omega) (by omega) (q1 + 1) (by omega) (by omega)
  rw [Ex.cells_eq e2] at he2
  have t2:=Ex.thin_of_size e2 (by omega)
  refine ⟨.mk 3 0 [e1,e2] [] [K],q2,u1,j1,?_,by simp [Pn.thin,Pn.thinL,hK,t1,t2],by omega,by omega,by omega,by omega,by omega,by simp [filtP,Pn.scan],by simp [filtP,Pn.scan]⟩
  rw [bodyA_eq Tryz.func150 rfl rfl]
  simp [PSt,ht,hv,v0,we,hkid,hW,hkk,wn,hq,hm,w2]
  rw [execA_loop]; simp [hx1,he1,w1]
  rw [execA_loop]; simp [hx2,he2,w0]
  rw [execA_loop]; simp [rX,rS,bl,Pn.cells_mk,Ex.cellsL,intsL,Pn.cellsL,Pn.cells_eq K,Ex.cells_eq e1,Ex.cells_eq e2,PSt]
end Go.Proofs.YtjcjpbjpbbdnlaaGreat.P

namespace Go.Proofs.YtjcjpbjpbbdnlaaGreat.P
open Go Go.Av
set_option maxRecDepth 4000
set_option maxHeartbeats 8000000
theorem root_step {l:List UInt8} (hl:l.length≤2000) {ws:List Int} (hw:∀ w∈ws,0≤w∧w≤6) (hwl:ws.length < 1000000) {k:Nat} (hk0:0 < k) (hkl:k≤ws.length) {d j c c2:Nat} (hd:d < 100) (hjb:j < 1000) (ih:PlanOk l ws k d j c) (hoth:∀ i:Nat,i < j→∀ y:Nat,y≤1→PlanOk l ws k y i c2):RootOk l ws k (d + 1) j (c + c2 + 500):=by
 intro p u h0 h1 hu0 hu1
 obtain ⟨t,ht,-,-⟩:=pick_eq l p k h0 (by omega) hl
 obtain ⟨v,hv,-,-⟩:=pick_eq l (p + 1) 6 (by omega) (by omega) hl
 by_cases v0:v=0
 ·subst v0
  exact ⟨.scan t,p + 1 + 1,u,j,root_scan hd ht hv,Pn.scan_thin t,by omega,by omega,by omega,by omega,by omega,by simp [Pn.scan],by simp [Pn.scan]⟩
 obtain ⟨K,p1,u1,j1,hkid,hK,a1,a2,a3,a4,a5⟩:=ih (p + 1 + 1) u (by omega) (by omega) hu0 hu1
 have hW:=splanWidth_own hw hwl hk0 hkl K hK
 have hWr:=Pn.wd_range (ws:=ws.take k) (fun w hm=>hw w (List.mem_of_mem_take hm)) K 8
 generalize K.wd (ws.take k) 8=W at hW hWr
 obtain ⟨kk,hkk,hkk1,-⟩:=pick_eq l p1 10 (by omega) (by omega) hl
 obtain ⟨kk0,kk9⟩:=hkk1 (by omega)
 suffices H:∃ (P:Pn) (p' u':Int) (j':Nat),bodyA CQ true 150 [.own 0 0, .int ((d + 1:Nat):Int)] (PSt l ws k j u p)=some (rX 3 P,PSt l ws k j' u' p' ++ rS P)∧P.thin∧p1≤p'∧p'≤p1 + 400 + c2∧j'≤j1∧0≤u'∧u'≤1∧P.exprs.length≤2∧P.cols.length≤1 by
  obtain ⟨P,p',u',j',b1,b2,b3,b4,b5,b6,b7,b8⟩:=H
  exact ⟨P,p',u',j',b1,b2,by omega,by omega,by omega,b6,b7,b8⟩
 have hb:p1 + 400 + c2 < 300000000:=by omega
 have hp1:0≤p1:=by omega
 by_cases q0:kk=0
 ·exact root_filter0 hl hd hb hp1 a4 a5 hWr.1 hWr.2 hK ht hv v0 hkid hW hkk q0
 by_cases q1:kk=1
 ·exact root_filter1 hl hd hb hp1 a4 a5 hWr.1 hWr.2 hK ht hv v0 hkid hW hkk q1
 by_cases q2:kk=2
 ·exact root_filter2 hl hd hb hp1 a4 a5 hWr.1 hWr.2 hK ht hv v0 hkid hW hkk q2
 by_cases q3:kk=3
 ·exact root_proj3 hl hd hb hp1 a4 a5 hWr.1 hWr.2 hK ht hv v0 hkid hW hkk q3
 by_cases q4:kk=4
 ·exact root_proj4 hl hd hb hp1 a4 a5 hWr.1 hWr.2 hK ht hv v0 hkid hW hkk q4
 by_cases q5:kk=5
 ·by_cases hj:j1=0
  ·exact root_nojoin5 hl hd hb hp1 a4 a5 hWr.1 hWr.2 hK ht hv v0 hkid hW hkk hj q5
  by_cases hw4:W≤4
  ·exact root_join5 hl hw hwl hk0 hkl hd hb hp1 a4 a5 hWr.1 hWr.2 hK ht hv v0 hkid hW hkk hj (by omega) hw4 (fun y hy=>hoth (j1 - 1) (by omega) y hy) q5
  ·exact root_wide5 hl hd hb hp1 a4 a5 hWr.1 hWr.2 hK ht hv v0 hkid hW hkk hj hw4 q5
 by_cases q6:kk=6
 ·by_cases hj:j1=0
  ·exact root_nojoin6 hl hd hb hp1 a4 a5 hWr.1 hWr.2 hK ht hv v0 hkid hW hkk hj q6
  by_cases hw4:W≤4
  ·exact root_join6 hl hw hwl hk0 hkl hd hb hp1 a4 a5 hWr.1 hWr.2 hK ht hv v0 hkid hW hkk hj (by omega) hw4 (fun y hy=>hoth (j1 - 1) (by omega) y hy) q6
  ·exact root_wide6 hl hd hb hp1 a4 a5 hWr.1 hWr.2 hK ht hv v0 hkid hW hkk hj hw4 q6
 by_cases q7:kk=7
 ·by_cases hu:0 < u1
  ·exact root_union hl hd hb hp1 a4 a5 hWr.1 hWr.2 hK ht hv v0 hkid hW hkk hu q7
  ·exact root_nounion hl hd hb hp1 a4 a5 hWr.1 hWr.2 hK ht hv v0 hkid hW hkk hu q7
 by_cases q8:kk=8
 ·exact root_distinct hl hd hb hp1 a4 a5 hWr.1 hWr.2 hK ht hv v0 hkid hW hkk q8
 have q9:kk=9:=by omega
 by_cases hw1:1 < W
 ·exact root_group2 hl hd hb hp1 a4 a5 hWr.1 hWr.2 hK ht hv v0 hkid hW hkk hw1 q9
 ·exact root_group1 hl hd hb hp1 a4 a5 hWr.1 hWr.2 hK ht hv v0 hkid hW hkk hw1 q9
theorem RootOk.le {l:List UInt8} {ws:List Int} {k:Nat} {d j c c':Nat} (h:RootOk l ws k d j c) (hc:c≤c'):RootOk l ws k d j c':=by
 intro p u h0 h1 hu0 hu1
 obtain ⟨P,p',u',j',b1,b2,b3,b4,b5,b6,b7,b8⟩:=h p u h0 (by omega) hu0 hu1
 exact ⟨P,p',u',j',b1,b2,b3,by omega,b5,b6,b7,b8⟩
theorem root_one {l:List UInt8} (hl:l.length≤2000) {ws:List Int} (hw:∀ w∈ws,0≤w∧w≤6) (hwl:ws.length < 1000000) {k:Nat} (hk0:0 < k) (hkl:k≤ws.length) (d:Nat) (h:d + 1 < 50):RootOk l ws k (d + 1) 1 (2000 * (d + 1) + 1) :=
 (root_step hl hw hwl hk0 hkl (c2:=501) (by omega) (by omega) (plan_one hl hw hwl hk0 hkl d (by omega)) (fun i hi y hy=>by
   obtain rfl:i=0:=by omega
   exact (plan_none hl hw hwl hk0 hkl y (by omega)).le (by omega))).le (by omega)
@[simp] theorem cr_plan (a:List AV) (st:StL):callA CR 150 a st=bodyA CQ true 150 a st:=by rw [callA_prim (p:=bodyA CQ true 150) rfl]
@[simp] theorem cr_filterOf (a:List AV) (st:StL):callA CR 151 a st=bodyA C0 true 151 a st:=by rw [callA_prim (p:=bodyA C0 true 151) rfl]
@[simp] theorem cr_planWidth (a:List AV) (st:StL):callA CR 103 a st=lookX (callA C0) 103 a st:=by rw [callA_prim (p:=lookX (callA C0) 103) rfl]
@[simp] theorem cr_pick (a:List AV) (st:StL):callA CR 76 a st=callA C0 76 a st:=by rw [callA_prim (p:=callA C0 76) rfl]
@[simp] theorem cr_one (a:List AV) (st:StL):callA CR 84 a st=callA C0 84 a st:=by rw [callA_prim (p:=callA C0 84) rfl]
@[simp] theorem cr_cond (a:List AV) (st:StL):callA CR 152 a st=callA C0 152 a st:=by rw [callA_prim (p:=callA C0 152) rfl]
@[simp] theorem cr_anyExpr (a:List AV) (st:StL):callA CR 124 a st=callA C0 124 a st:=by rw [callA_prim (p:=callA C0 124) rfl]
@[simp] theorem cr_widths (a:List AV) (st:StL):callA CR 82 a st=callA C0 82 a st:=by rw [callA_prim (p:=callA C0 82) rfl]
@[simp] theorem cr_newReader (a:List AV) (st:StL):callA CR 50 a st=callA C0 50 a st:=by rw [callA_prim (p:=callA C0 50) rfl]
theorem list_nil {α:Type} (l:List α):l=[]∨(l.length≠0∧l≠[]∧0 < l.length):=by cases l<;>simp
theorem randomPlan_root {l : List UInt8} (hl : l.length ≤ 2000) {ws : List Int} (hw : ∀ w ∈ ws, 0 ≤ w ∧ w ≤ 6) (hwl : ws.length < 1000000) (hk0 : 0 < ws.length) (p : Int) (h0 : 0 ≤ p) (h1 : p + 20000 < 200000000) : ∃ (P : Pn) (p' : Int),
    callA CR 123 [.own 0 0, .osl 1 1 0 ws.length] [Rd l p, some (.arr 1 (intsL ws))] = some (rX 2 P, [Rd l p', some (.arr 1 (intsL ws))] ++ rS P) ∧ P.thin ∧ p ≤ p' ∧ p' ≤ p + 20000 ∧ P.exprs.length ≤ 2 ∧ P.cols.length ≤ 1 := by
  obtain ⟨v, hv, hv1, -⟩ := pick_eq l p 4 h0 (by omega) hl
  obtain ⟨v0, v1⟩ := hv1 (by omega)
  obtain ⟨y, rfl⟩ : ∃ y : Nat, v = y := ⟨v.toNat, by omega⟩
  have w1 : IntKind.i64.wrap (1 + (y : Int)) = ((y + 1 : Nat) : Int) := by rw [wrap64 (by omega) (by omega)]; omega
  obtain ⟨P, p1, u', j', hP, hPt, b1, b2, b3, b4, b5, b6, b7⟩ := root_one hl hw hwl hk0 (Nat.le_refl _) y (by omega) (p + 1) 1 (by omega) (by omega) (by omega) (by omega)
  simp only [PSt, Int.natCast_one, Int.natCast_add] at hP
  obtain ⟨z, hz, -, -⟩ := pick_eq l p1 2 (by omega) (by omega) hl
  have te : P.exprs.take P.exprs.length = P.exprs := List.take_of_length_le (by simp)
  have tc : P.cols.take P.cols.length = P.cols := List.take_of_length_le (by simp)
  have tk : P.kids.take P.kids.length = P.kids := List.take_of_length_le (by simp)
  by_cases hz0 : z = 0
  · have hW := splanWidth_eq hw (by omega) P (Pn.thin_lim P hPt) 8 (by omega)
    have twd : ws.take ws.length = ws := List.take_of_length_le (by simp)
    obtain ⟨e, p2, he, a1, a2, a3⟩ := randomCondition_eq l hl (P.wd ws 8) (p1 + 1) (by omega) (by omega)
    have hf := filterOf_own e P
    refine ⟨filtP e P, p2, ?_, filt_step a3 hPt, by omega, by omega, by simp [filtP], by simp [filtP]⟩
    rw [callA_eq rfl Tryz.func123 rfl rfl]
    rw [Pn.cells_eq P, Ex.cells_eq e] at hf
    rw [Ex.cells_eq e] at he
    rw [Pn.cells_eq P] at hW
    rcases list_nil P.exprs with ce | ⟨ce, ce', ce''⟩ <;> rcases list_nil P.cols with cc | ⟨cc, cc', cc''⟩ <;> rcases list_nil P.kids with ck | ⟨ck, ck', ck''⟩ <;>
      (simp [rX, rS, bl, *, gro_pos, groB_pos, Ex.cellsL, intsL, Pn.cellsL] at hP hW hf
       simp [hv, w1, hP, hz, hz0, hW, he, hf, rX, rS, bl, filtP, lookX, viewXs, viewX, viewNs, viewN, viewW, bareC, *, Ex.cellsL, intsL, Pn.cellsL, Pn.cells_eq P, Ex.cells_eq e])
  · refine ⟨P, p1 + 1, ?_, hPt, by omega, by omega, b6, b7⟩
    rw [callA_eq rfl Tryz.func123 rfl rfl]
    rcases list_nil P.exprs with ce | ⟨ce, ce', ce''⟩ <;> rcases list_nil P.cols with cc | ⟨cc, cc', cc''⟩ <;> rcases list_nil P.kids with ck | ⟨ck, ck', ck''⟩ <;>
      (simp [rX, rS, bl, *, gro_pos, groB_pos, Ex.cellsL, intsL, Pn.cellsL] at hP
       simp [hv, w1, hP, hz, hz0, rX, rS, bl, *, gro_pos, groB_pos])
end Go.Proofs.YtjcjpbjpbbdnlaaGreat.P

namespace Go.Proofs.YtjcjpbjpbbdnlaaGreat.P
open Go Go.Av
set_option maxRecDepth 4000
set_option maxHeartbeats 8000000
theorem randomWidths_rng (l:List UInt8) (hl:l.length≤2000) (p:Int) (h0:0≤p) (h1:p < 900000000):∃ (a b:Int) (r:List Int) (p':Int),callA C0 82 [.own 0 0] [Rd l p]=some (.osl 1 1 0 (r.length + 2),[Rd l p',some (.arr 1 (intsL (a :: b :: r)))])∧p≤p'∧p'≤p + 4∧1≤a∧a≤2∧1≤b∧b≤2∧r.length≤1∧∀ w∈r,1≤w∧w≤2:=by
 obtain ⟨n,hn,hn1,-⟩:=pick_eq l p 2 h0 (by omega) hl
 obtain ⟨a,ha,ha1,-⟩:=pick_eq l (p + 1) 2 (by omega) (by omega) hl
 obtain ⟨b,hb,hb1,-⟩:=pick_eq l (p + 1 + 1) 2 (by omega) (by omega) hl
 have wa:IntKind.i64.wrap (1 + a)=1 + a:=wrap64 (by omega) (by omega)
 have wb:IntKind.i64.wrap (1 + b)=1 + b:=wrap64 (by omega) (by omega)
 have w2:IntKind.i64.wrap (2:Int)=2:=wrap64 (by omega) (by omega)
 have w3:IntKind.i64.wrap (3:Int)=3:=wrap64 (by omega) (by omega)
 have w1:=wrap_1
 have w0:IntKind.i64.wrap (0:Int)=0:=wrap64 (by omega) (by omega)
 obtain ⟨n0,n1⟩:=hn1 (by omega)
 have hn2:n=0∨n=1:=by omega
 rcases hn2 with rfl | rfl
 ·refine ⟨1 + a,1 + b,[],p + 1 + 1 + 1,?_,by omega,by omega,by omega,by omega,by omega,by omega,by simp,by simp⟩
  rw [callA_eq rfl Tryz.func82 rfl rfl]
  simp [hn,w2]
  rw [execA_loop]; simp [ha,wa,w1]
  rw [execA_loop]; simp [hb,wb,w0]
  rw [execA_loop]; simp [intsL]
 ·obtain ⟨c,hc,hc1,-⟩:=pick_eq l (p + 1 + 1 + 1) 2 (by omega) (by omega) hl
  have wc:IntKind.i64.wrap (1 + c)=1 + c:=wrap64 (by omega) (by omega)
  refine ⟨1 + a,1 + b,[1 + c],p + 1 + 1 + 1 + 1,?_,by omega,by omega,by omega,by omega,by omega,by omega,by simp,by simp; omega⟩
  rw [callA_eq rfl Tryz.func82 rfl rfl]
  simp [hn,w3]
  rw [execA_loop]; simp [ha,wa,w2]
  rw [execA_loop]; simp [hb,wb,w1]
  rw [execA_loop]; simp [hc,wc,w0]
  rw [execA_loop]; simp [intsL]
theorem Pn.thin_with {P:Pn} (h:P.thin) (k t:Int):(Pn.mk k t P.exprs P.cols P.kids).thin:=by
 rw [Pn.thin_iff] at h ⊢; exact h
theorem Pn.thin_cols {P:Pn} (h:P.thin) (c:List Int) (hc:c.length < 1000000000):(Pn.mk P.kind P.table P.exprs c P.kids).thin:=by
 rw [Pn.thin_iff] at h ⊢; exact ⟨h.1,h.2.1,hc,h.2.2.2⟩
theorem Pn.thin_exprs {P:Pn} (h:P.thin) {e:Ex} (he:e.thin) (hl:P.exprs.length + 1 < 1000000000):(Pn.mk P.kind P.table (P.exprs ++ [e]) P.cols P.kids).thin:=by
 rw [Pn.thin_iff] at h ⊢
 refine ⟨by simpa [Pn.exprs] using hl,fun x hx=>?_,h.2.2⟩
 simp only [Pn.exprs,List.mem_append,List.mem_singleton] at hx
 rcases hx with hx | rfl
 ·exact h.2.1 x hx
 ·exact he
theorem anyPlan_root {l : List UInt8} (hl : l.length ≤ 2000) {ws : List Int} (hw : ∀ w ∈ ws, 0 ≤ w ∧ w ≤ 6) (hwl : ws.length < 1000000) (hk0 : 0 < ws.length) (p : Int) (h0 : 0 ≤ p) (h1 : p + 30000 < 200000000) : ∃ (P : Pn) (p' : Int),
    callA CR 83 [.own 0 0, .osl 1 1 0 ws.length] [Rd l p, some (.arr 1 (intsL ws))] = some (rX 2 P, [Rd l p', some (.arr 1 (intsL ws))] ++ rS P) ∧ P.thin ∧ p ≤ p' ∧ p' ≤ p + 30000 := by
  obtain ⟨P, p1, hP, hPt, b1, b2, b6, b7⟩ := randomPlan_root hl hw hwl hk0 p h0 (by omega)
  obtain ⟨k, hk, -, -⟩ := pick_eq l p1 18 (by omega) (by omega) hl
  have te : P.exprs.take P.exprs.length = P.exprs := List.take_of_length_le (by simp)
  have tc : P.cols.take P.cols.length = P.cols := List.take_of_length_le (by simp)
  have hthin := (Pn.thin_iff P).1 hPt
  by_cases k0 : k = 0
  · obtain ⟨x, hx, -⟩ := one_eq l (p1 + 1) (by omega) (by omega) hl [[.int 0], [.int 9], [.int 1], [.int 4]] (by simp) (by simp) (by simp)
    simp only [List.length_cons, List.length_nil, Nat.zero_add, Nat.reduceAdd] at hx
    refine ⟨.mk x P.table P.exprs P.cols P.kids, p1 + 1 + 1, ?_, Pn.thin_with hPt _ _, by omega, by omega⟩
    rw [callA_eq rfl Tryz.func83 rfl rfl]
    rcases list_nil P.exprs with ce | ⟨ce, ce', ce''⟩ <;> rcases list_nil P.cols with cc | ⟨cc, cc', cc''⟩ <;> rcases list_nil P.kids with ck | ⟨ck, ck', ck''⟩ <;>
      (simp [rX, rS, bl, ce, cc, ck, gro_pos, groB_pos] at hP
       simp [hP, hk, k0, hx, rX, rS, bl, ce, cc, ck, gro_pos, groB_pos])
  by_cases k1 : k = 1
  · obtain ⟨x, hx, -⟩ := one_eq l (p1 + 1) (by omega) (by omega) hl [[.int (-1)], [.int 4], [.int 1]] (by simp) (by simp) (by simp)
    simp only [List.length_cons, List.length_nil, Nat.zero_add, Nat.reduceAdd] at hx
    refine ⟨.mk P.kind x P.exprs P.cols P.kids, p1 + 1 + 1, ?_, Pn.thin_with hPt _ _, by omega, by omega⟩
    rw [callA_eq rfl Tryz.func83 rfl rfl]
    rcases list_nil P.exprs with ce | ⟨ce, ce', ce''⟩ <;> rcases list_nil P.cols with cc | ⟨cc, cc', cc''⟩ <;> rcases list_nil P.kids with ck | ⟨ck, ck', ck''⟩ <;>
      (simp [rX, rS, bl, ce, cc, ck, gro_pos, groB_pos] at hP
       simp [hP, hk, k0, k1, hx, rX, rS, bl, ce, cc, ck, gro_pos, groB_pos])
  by_cases k2 : k = 2
  · obtain ⟨x, hx, -⟩ := one_eq l (p1 + 1) (by omega) (by omega) hl [[.int 0], [.int 9]] (by simp) (by simp) (by simp)
    simp only [List.length_cons, List.length_nil, Nat.zero_add, Nat.reduceAdd] at hx
    refine ⟨.mk P.kind P.table P.exprs (P.cols ++ [x]) P.kids, p1 + 1 + 1, ?_, Pn.thin_cols hPt _ (by simp; omega), by omega, by omega⟩
    have hl1 : (P.cols.length + 1) * 8 ≤ 140737488355328 := by omega
    rw [callA_eq rfl Tryz.func83 rfl rfl]
    rcases list_nil P.exprs with ce | ⟨ce, ce', ce''⟩ <;> rcases list_nil P.cols with cc | ⟨cc, cc', cc''⟩ <;> rcases list_nil P.kids with ck | ⟨ck, ck', ck''⟩ <;>
      (simp [rX, rS, bl, ce, cc, ck, gro_pos, groB_pos] at hP
       simp [hP, hk, k0, k1, k2, hx, rX, rS, bl, ce, cc, ck, gro_pos, groB_pos, intsL, intsL_append, hl1, tc])
  by_cases k3 : k = 3
  · obtain ⟨e, p2, he, a1, a2, a3⟩ := anyExpr_eq l hl 2 (p1 + 1) (by omega) (by omega)
    refine ⟨.mk P.kind P.table (P.exprs ++ [e]) P.cols P.kids, p2, ?_, Pn.thin_exprs hPt (Ex.thin_of_size _ (by omega)) (by omega), by omega, by omega⟩
    have hl1 : (P.exprs.length + 1) * 56 ≤ 140737488355328 := by omega
    rw [callA_eq rfl Tryz.func83 rfl rfl]
    rw [Ex.cells_eq e] at he
    rcases list_nil P.exprs with ce | ⟨ce, ce', ce''⟩ <;> rcases list_nil P.cols with cc | ⟨cc, cc', cc''⟩ <;> rcases list_nil P.kids with ck | ⟨ck, ck', ck''⟩ <;>
      (simp [rX, rS, bl, ce, cc, ck, gro_pos, groB_pos] at hP
       simp [hP, hk, k0, k1, k2, k3, he, rX, rS, bl, ce, cc, ck, gro_pos, groB_pos, Ex.cellsL, Ex.cellsL_append, hl1, te, Ex.cells_eq e])
  · refine ⟨P, p1 + 1, ?_, hPt, by omega, by omega⟩
    rw [callA_eq rfl Tryz.func83 rfl rfl]
    rcases list_nil P.exprs with ce | ⟨ce, ce', ce''⟩ <;> rcases list_nil P.cols with cc | ⟨cc, cc', cc''⟩ <;> rcases list_nil P.kids with ck | ⟨ck, ck', ck''⟩ <;>
      (simp [rX, rS, bl, ce, cc, ck, gro_pos, groB_pos] at hP
       simp [hP, hk, k0, k1, k2, k3, rX, rS, bl, ce, cc, ck, gro_pos, groB_pos])
theorem planAndWidths_eq {l : List UInt8} (hl : l.length ≤ 2000) : ∃ (P : Pn) (ws : List Int) (p' : Int), callA CR 51 [.own 0 0] [Rd l 0] = some (.tup [.i (.agg P.cells), .i (.isl (intsL ws))], [Rd l p']) ∧ P.thin ∧ ws.length ≤ 3 ∧ 0 ≤ p' ∧ p' ≤ 40000 := by
  obtain ⟨a, b, r, p1, hr, r1, r2, r3, r4, r5, r6, r7, r8⟩ := randomWidths_rng l hl 0 (by omega) (by omega)
  have hw : ∀ w ∈ a :: b :: r, 0 ≤ w ∧ w ≤ 6 := by
    intro w hm
    simp only [List.mem_cons] at hm
    rcases hm with rfl | rfl | hm
    · omega
    · omega
    · have := r8 w hm; omega
  have hr0 : (0 : Int) < (r.length : Int) + 2 := by omega
  obtain ⟨P, p2, hP, hPt, c1, c2⟩ := anyPlan_root hl (ws := a :: b :: r) hw (by simp; omega) (by simp) p1 (by omega) (by omega)
  obtain ⟨k, hk, -, -⟩ := pick_eq l p2 18 (by omega) (by omega) hl
  have te : P.exprs.take P.exprs.length = P.exprs := List.take_of_length_le (by simp)
  have tc : P.cols.take P.cols.length = P.cols := List.take_of_length_le (by simp)
  have tk : P.kids.take P.kids.length = P.kids := List.take_of_length_le (by simp)
  by_cases k0 : k = 0
  · obtain ⟨x, hx, -⟩ := one_eq l (p2 + 1) (by omega) (by omega) hl [[.int 0], [.int 7], [.int 1]] (by simp) (by simp) (by simp)
    simp only [List.length_cons, List.length_nil, Nat.zero_add, Nat.reduceAdd] at hx
    refine ⟨P, x :: b :: r, p2 + 1 + 1, ?_, hPt, by simp; omega, by omega, by omega⟩
    rw [callA_eq rfl Tryz.func51 rfl rfl]
    rcases list_nil P.exprs with ce | ⟨ce, ce', ce''⟩ <;> rcases list_nil P.cols with cc | ⟨cc, cc', cc''⟩ <;> rcases list_nil P.kids with ck | ⟨ck, ck', ck''⟩ <;>
      (simp [rX, rS, bl, ce, cc, ck, gro_pos, groB_pos, intsL] at hP
       simp [hr, hP, hk, k0, hx, hr0, ce, cc, ck, intsL, te, tc, tk, Pn.cells_eq P, Ex.cellsL, Pn.cellsL])
  · refine ⟨P, a :: b :: r, p2 + 1, ?_, hPt, by simp; omega, by omega, by omega⟩
    rw [callA_eq rfl Tryz.func51 rfl rfl]
    rcases list_nil P.exprs with ce | ⟨ce, ce', ce''⟩ <;> rcases list_nil P.cols with cc | ⟨cc, cc', cc''⟩ <;> rcases list_nil P.kids with ck | ⟨ck, ck', ck''⟩ <;>
      (simp [rX, rS, bl, ce, cc, ck, gro_pos, groB_pos, intsL] at hP
       simp [hr, hP, hk, k0, ce, cc, ck, intsL, te, tc, tk, Pn.cells_eq P, Ex.cellsL, Pn.cellsL])
end Go.Proofs.YtjcjpbjpbbdnlaaGreat.P

namespace Go.Av
def pthL (l:List (List Int)):List (List IV):=l.map fun p=>[.isl (intsL p)]
@[simp] theorem pthL_length (l:List (List Int)):(pthL l).length=l.length:=by simp [pthL]
theorem pthL_append (a b:List (List Int)):pthL (a ++ b)=pthL a ++ pthL b:=by simp [pthL]
@[simp] theorem pthL_take (n:Nat) (l:List (List Int)):(pthL l).take n=pthL (l.take n):=by simp [pthL,List.map_take]
theorem pthL_one (p:List Int):pthL [p]=[[.isl (intsL p)]]:=rfl
theorem pthL_nth {l:List (List Int)} {i:Nat} {p:List Int} (h:l[i]?=some p):nthE (pthL l) i=some [.isl (intsL p)]:=by
 rw [nthE_eq]; simp [pthL,h]
theorem pathsPL_append (path:List Int):∀ (l m:List Pn) (i:Nat),pathsPL path i (l ++ m)=pathsPL path i l ++ pathsPL path (i + l.length) m
 | [],m,i=>by simp [pathsPL]
 | a :: l,m,i=>by simp only [List.cons_append,pathsPL,pathsPL_append path l m (i + 1),List.append_assoc,List.length_cons]; congr 3; omega
theorem pathsPL_snoc (path:List Int) {l:List Pn} {i:Nat} {a:Pn} (h:l[i]?=some a):pathsPL path 0 (l.take (i + 1))=pathsPL path 0 (l.take i) ++ pathsP (path ++ [(i:Int)]) a:=by
 have hl:(l.take i).length=i:=by have:=(List.getElem?_eq_some_iff.1 h).1; simp; omega
 rw [take_snoc h,pathsPL_append,hl]
 simp [pathsPL]
mutual
theorem pathsP_len:∀ (p:Pn) (path:List Int),(pathsP path p).length=p.size
 | .mk _ _ _ _ ks,path=>by simp only [pathsP,Pn.size,List.length_cons,pathsPL_len ks path 0]; omega
theorem pathsPL_len:∀ (l:List Pn) (path:List Int) (i:Nat),(pathsPL path i l).length=Pn.sizeL l
 | [],_,_=>by simp [pathsPL,Pn.sizeL]
 | a :: l,path,i=>by simp only [pathsPL,Pn.sizeL,List.length_append,pathsP_len a,pathsPL_len l]
end
end Go.Av
namespace Go.Proofs.YtjcjpbjpbbdnlaaGreat.P
open Go Go.Av
set_option maxRecDepth 4000
set_option maxHeartbeats 4000000
def ADX (p:Pn) (path:List Int) (L:List (List Int)) (i:Nat):AS :=
 {env:=[(0, .osl 2 1 0 (L ++ path :: pathsPL path 0 (p.kids.take i)).length),(1, .i (.agg [.int p.kind, .int p.table, .isl (Ex.cellsL p.exprs), .isl (intsL p.cols), .isl (Pn.cellsL p.kids)])),(2, .osl 1 1 0 path.length),(4, .own 3 0),(6, .nils),(7, .int i),(18,jk i (.bool true))],
  st:=[none,some (.arr 1 (intsL path)),some (.arr 1 (pthL (L ++ path :: pathsPL path 0 (p.kids.take i)))),boxP p] }
theorem addPaths_eq : ∀ (p : Pn) (path : List Int) (L : List (List Int)), p.thin → path.length + p.size < 1000000 → L.length + p.size < 1000000 → callA C0 119 [.osl 0 1 0 L.length, .i (.agg p.cells), .osl 1 1 0 path.length] [some (.arr 1 (pthL L)), some (.arr 1 (intsL path))] = some (.osl 2 1 0 (L ++ pathsP path p).length, [none, some (.arr 1 (intsL path)), some (.arr 1 (pthL (L ++ pathsP path p)))]) := by
  intro p
  induction p using Pn.ind with
  | h k t es cs ks ih =>
    intro path L ht hp hL
    generalize hpe : Pn.mk k t es cs ks = p at *
    have hks : ks = p.kids := by rw [← hpe]; rfl
    subst hks
    have hkt := ((Pn.thin_iff p).1 ht).2.2.2.2
    have hsz := Pn.size_eq p
    have hkl := Pn.sizeL_length p.kids
    have htp : path.take path.length = path := List.take_of_length_le (by simp)
    have htL : L.take L.length = L := List.take_of_length_le (by simp)
    have hl1 : path.length * 8 ≤ 140737488355328 := by omega
    have hl2 : (L.length + 1) * 24 ≤ 140737488355328 := by omega
    have hl3 : (L.length + 1) * 32 ≤ 140737488355328 := by omega
    rw [callA_eq rfl Tryz.func119 rfl rfl, pathsP_eq]
    simp only [Pn.cells_eq p]
    simp [htp, htL, hl1, hl2, hl3]
    rw [loop_to (ADX p path L) p.kids.length (by simp [ADX, boxP, pathsPL, pthL_append, pthL_one])]
    · rw [execA_loop]
      simp [ADX, boxP]
    · intro i hi
      have h3 := List.getElem?_eq_getElem hi
      have hm := List.mem_of_getElem? h3
      have r2 := Pn.cellsL_nth h3
      have hsn := pathsPL_snoc path h3
      have htk := take_snoc h3
      generalize p.kids[i] = a at h3 hm r2 hsn htk
      have hle : Pn.sizeL (p.kids.take i) + a.size ≤ Pn.sizeL p.kids := by
        have h := Pn.sizeL_append (p.kids.take (i + 1)) (p.kids.drop (i + 1))
        rw [List.take_append_drop, htk, Pn.sizeL_append] at h
        simp only [Pn.sizeL] at h; omega
      have hpn := pathsPL_len (p.kids.take i) path 0
      have w2 : IntKind.i64.wrap ((i : Int) + 1) = i + 1 := wrap64 (by omega) (by omega)
      have hk := ih a hm (path ++ [(i : Int)]) (L ++ path :: pathsPL path 0 (p.kids.take i)) (hkt a hm) (by simp; omega) (by simp; omega)
      rw [Pn.cells_eq a] at r2 hk
      have hpi : intsL (path ++ [(i : Int)]) = intsL path ++ [[.int i]] := intsL_snoc path i
      have ht1 : List.take (path.length + 1) (intsL path ++ [[.int (i : Int)]]) = intsL path ++ [[.int i]] := List.take_of_length_le (by simp)
      have hl4 : (path.length + 1) * 8 ≤ 140737488355328 := by omega
      rw [hpi] at hk
      generalize pathsP (path ++ [(i : Int)]) a = S at hk hsn
      simp only [List.append_assoc, List.cons_append] at hk
      simp at hk
      simp [ADX, boxP, hi, r2, w2, hk, hsn, intsL, htp, hl1, hl4, ht1]
def okA (ws:List Int) (p:Pn) (path:List Int) (r:Int):Bool:=(apS ws r path p).isSome
def accA (ws:List Int) (p:Pn) (path:List Int) (i:Nat):List Stp:=((rules.take i).filter (okA ws p path)).map fun r=>(r,path)
theorem accA_succ {ws path:List Int} {p:Pn} {i:Nat} (h:i < 11):accA ws p path (i + 1)=accA ws p path i ++ if okA ws p path ((i:Int) + 1)=true then [((i:Int) + 1,path)] else []:=by
 have h1:rules[i]?=some ((i:Int) + 1):=by
  have:i=0∨i=1∨i=2∨i=3∨i=4∨i=5∨i=6∨i=7∨i=8∨i=9∨i=10:=by omega
  rcases this with rfl | rfl | rfl | rfl | rfl | rfl | rfl | rfl | rfl | rfl | rfl<;>rfl
 unfold accA
 rw [take_snoc h1,List.filter_append,List.map_append]
 congr 1
 simp only [List.filter]
 split<;>rename_i h2<;>simp [h2]
theorem accA_len (ws path:List Int) (p:Pn) (i:Nat):(accA ws p path i).length≤11:=by
 unfold accA
 rw [List.length_map]
 refine Nat.le_trans (List.length_filter_le _ _) ?_
 simp [rules]; omega
theorem atS_acc (ws path:List Int) (p:Pn):atS ws p path=accA ws p path 11:=rfl
def SB (r:Int) (path:List Int):StL:=[some (.box [.int r, .osl 4 1 0 path.length]),some (.frz 1 (intsL path))]
def lastP (P:List (List Int)) (i:Nat):List Int:=(P[i - 1]?).getD []
def accO (ws:List Int) (p:Pn) (P:List (List Int)) (i:Nat):List Stp:=(P.take i).flatMap (atS ws p)
theorem accO_zero (ws:List Int) (p:Pn) (P:List (List Int)):accO ws p P 0=[]:=rfl
theorem accO_all (ws:List Int) (p:Pn) (P:List (List Int)):accO ws p P P.length=P.flatMap (atS ws p):=by unfold accO; rw [List.take_of_length_le (Nat.le_refl _)]
def SOX (p:Pn) (ws:List Int) (P:List (List Int)) (i:Nat):AS :=
 {env:=[(0, .i (.agg [.int p.kind, .int p.table, .isl (Ex.cellsL p.exprs), .isl (intsL p.cols), .isl (Pn.cellsL p.kids)])),(1, .i (.isl (intsL ws))),(2, .own 0 0),(4, .nils),(5, .osl 1 2 0 (accO ws p P i).length),(6, .osl 2 1 0 P.length),(7, .int i),(8,jk i (.int 12)),(9,if i=0 then .junk else .own 3 0),(11,jk i (.bool (okA ws p (lastP P i) 11))),(20,jk i (.bool true)),(24,jk i (.bool false)),(42,jk i (.bool (okA ws p (lastP P i) 11)))],
  st:=boxP p :: some (.arr 2 (stpsL (accO ws p P i))) :: some (.arr 1 (pthL P)) :: (if i=0 then [] else SB 11 (lastP P i)) }
def SIX (p:Pn) (ws:List Int) (P:List (List Int)) (path:List Int) (i j:Nat):AS :=
 {env:=[(0, .i (.agg [.int p.kind, .int p.table, .isl (Ex.cellsL p.exprs), .isl (intsL p.cols), .isl (Pn.cellsL p.kids)])),(1, .i (.isl (intsL ws))),(2, .own 0 0),(4, .nils),(5, .osl 1 2 0 (accO ws p P i ++ accA ws p path j).length),(6, .osl 2 1 0 P.length),(7, .int i),(8, .int ((j:Int) + 1)),(9,if i + j=0 then .junk else .own 3 0),(11,if j=0 then jk i (.bool (okA ws p (lastP P i) 11)) else .bool (okA ws p path j)),(20, .bool true),(24,if j=0 then jk i (.bool false) else .bool true),(42,if j=0 then jk i (.bool (okA ws p (lastP P i) 11)) else .bool (okA ws p path j))],
  st:=boxP p :: some (.arr 2 (stpsL (accO ws p P i ++ accA ws p path j))) :: some (.arr 1 (pthL P)) :: (if j=0 then (if i=0 then [] else SB 11 (lastP P i)) else SB j path) }
theorem sstepsFor_eq {ws : List Int} (hw : okWs ws = true) {p : Pn} (hp : p.wd ws 8 ≠ 0) : callA C0 78 [.i (.agg p.cells), .i (.isl (intsL ws))] [] = some (.i (.isl (stpsL (stS ws p))), []) := by
  have ht := wd_thin p 8 hp
  have hsz := (Pn.wd_fit p 8 hp).2
  have c1 := addPaths_eq p [] [] ht (by simp; omega) (by simp; omega)
  have hpl := pathsP_len p []
  have hP : ∀ path ∈ pathsP [] p, path.length ≤ 8 := by
    intro path hm
    obtain ⟨r, hr, hs⟩ := (pathsP_mem p [] path).1 hm
    rw [List.nil_append] at hr
    subst hr
    cases ha : Pn.at path p with
    | none => rw [ha] at hs; cases hs
    | some a => exact (at_wd path p 8 a hp ha).1
  unfold stS
  generalize pathsP [] p = P at *
  have hlen : ∀ l : List (List Int), (l.flatMap (atS ws p)).length ≤ 11 * l.length := by
    intro l
    induction l with
    | nil => simp
    | cons x l ih => have := accA_len ws x p 11; rw [← atS_acc] at this; simp only [List.flatMap_cons, List.length_append, List.length_cons]; omega
  rw [callA_eq rfl Tryz.func78 rfl rfl]
  simp only [Pn.cells_eq p] at c1 ⊢
  simp [pthL, intsL] at c1
  simp [c1]
  rw [loop_to (SOX p ws P) P.length (by simp [SOX, boxP, stpsL, pthL, accO_zero])]
  · rw [execA_loop]
    have ht1 : (accO ws p P P.length).take (accO ws p P P.length).length = accO ws p P P.length := List.take_of_length_le (Nat.le_refl _)
    rw [← accO_all ws p P]
    by_cases h0 : P.length = 0
    · simp [SOX, boxP, h0, accO_zero, stpsL]
    · simp [SOX, boxP, SB, h0, jk_pos h0, ht1]
  · intro i hi
    have q1 := List.getElem?_eq_getElem hi
    have hm := List.mem_of_getElem? q1
    generalize P[i] = path at q1 hm
    have r1 := pthL_nth q1
    have htk := take_snoc q1
    have hp8 := hP path hm
    have hac : (accO ws p P i).length ≤ 11 * i := by have := hlen (P.take i); unfold accO; have : (P.take i).length ≤ i := (by simp; omega); omega
    have w2 : IntKind.i64.wrap ((i : Int) + 1) = i + 1 := wrap64 (by omega) (by omega)
    have hlast : lastP P (i + 1) = path := by simp [lastP, q1]
    have hfl : accO ws p P (i + 1) = accO ws p P i ++ accA ws p path 11 := by unfold accO; rw [htk]; simp [atS_acc]
    by_cases h0 : i = 0
    · subst h0
      have hi0 : 0 < P.length := hi
      simp at w2 hlast hfl
      simp [SOX, boxP, SB, hi0]
      rw [loop_to (SIX p ws P path 0) 11 (by simp [SIX, boxP, SB, accA])]
      · rw [execA_loop]
        simp [SIX, boxP, SB, w2, hlast, hfl]
      · intro j hj
        have hs := accA_succ (ws := ws) (path := path) (p := p) hj
        have hlj := accA_len ws path p j
        have w3 : IntKind.i64.wrap ((j : Int) + 1 + 1) = j + 1 + 1 := wrap64 (by omega) (by omega)
        have hj11 : (j : Int) + 1 ≤ 11 := by omega
        have c2 := applyStep_eq hw hp ((j : Int) + 1) (path := path) (by omega)
        have htp : path.take path.length = path := List.take_of_length_le (by simp)
        have hl1 : path.length * 8 ≤ 140737488355328 := by omega
        rw [Pn.cells_eq p] at c2
        have hok : okA ws p path ((j : Int) + 1) = (apS ws ((j : Int) + 1) path p).isSome := rfl
        rw [← hok] at c2
        cases hb : okA ws p path ((j : Int) + 1) with
        | false =>
          rw [hb] at hs c2
          simp at hs
          by_cases j0 : j = 0
          · subst j0
            simp at c2 hb hs
            simp [SIX, boxP, SB, hi0, r1, hs, hj11, c2, hb, htp, hl1]
          · simp [SIX, boxP, SB, j0, hi0, r1, w3, hs, hj11, c2, hb, htp, hl1]
        | true =>
          rw [hb] at hs c2
          simp at hs
          have hl2 : ((accO ws p P 0).length + (accA ws p path j).length + 1) * 32 ≤ 140737488355328 := by omega
          have ht3 : (accO ws p P 0).take ((accO ws p P 0).length + (accA ws p path j).length) = accO ws p P 0 := List.take_of_length_le (by omega)
          have ht4 : (accA ws p path j).take (accA ws p path j).length = accA ws p path j := List.take_of_length_le (by omega)
          by_cases j0 : j = 0
          · subst j0
            simp at c2 hb hs hl2
            simp [SIX, boxP, SB, hi0, r1, hs, hj11, c2, hb, htp, hl1, hl2]
            exact ⟨by omega, by rw [List.take_of_length_le (by simp)]; simp [stpsL, stpC]⟩
          · simp [SIX, boxP, SB, j0, hi0, r1, w3, hs, hj11, c2, hb, htp, hl1, hl2]
            exact ⟨by omega, by rw [List.take_of_length_le (by simp)]; simp [stpsL, stpC]⟩
    · simp [SOX, boxP, SB, h0, jk_pos h0, hi]
      rw [loop_to (SIX p ws P path i) 11 (by simp [SIX, boxP, SB, h0, jk_pos h0, accA])]
      · rw [execA_loop]
        simp [SIX, boxP, SB, h0, jk_pos h0, w2, hlast, hfl]
      · intro j hj
        have hs := accA_succ (ws := ws) (path := path) (p := p) hj
        have hlj := accA_len ws path p j
        have w3 : IntKind.i64.wrap ((j : Int) + 1 + 1) = j + 1 + 1 := wrap64 (by omega) (by omega)
        have hj11 : (j : Int) + 1 ≤ 11 := by omega
        have c2 := applyStep_eq hw hp ((j : Int) + 1) (path := path) (by omega)
        have htp : path.take path.length = path := List.take_of_length_le (by simp)
        have hl1 : path.length * 8 ≤ 140737488355328 := by omega
        rw [Pn.cells_eq p] at c2
        have hok : okA ws p path ((j : Int) + 1) = (apS ws ((j : Int) + 1) path p).isSome := rfl
        rw [← hok] at c2
        cases hb : okA ws p path ((j : Int) + 1) with
        | false =>
          rw [hb] at hs c2
          simp at hs
          by_cases j0 : j = 0
          · subst j0
            simp at c2 hb hs
            simp [SIX, boxP, SB, h0, jk_pos h0, hi, r1, hs, hj11, c2, hb, htp, hl1]
          · simp [SIX, boxP, SB, h0, jk_pos h0, j0, hi, r1, w3, hs, hj11, c2, hb, htp, hl1]
        | true =>
          rw [hb] at hs c2
          simp at hs
          have hl2 : ((accO ws p P i).length + (accA ws p path j).length + 1) * 32 ≤ 140737488355328 := by omega
          have ht3 : (accO ws p P i).take ((accO ws p P i).length + (accA ws p path j).length) = accO ws p P i := List.take_of_length_le (by omega)
          have ht4 : (accA ws p path j).take (accA ws p path j).length = accA ws p path j := List.take_of_length_le (by omega)
          by_cases j0 : j = 0
          · subst j0
            simp at c2 hb hs hl2
            simp [SIX, boxP, SB, h0, jk_pos h0, hi, r1, hs, hj11, c2, hb, htp, hl1, hl2]
            exact ⟨by omega, by rw [List.take_of_length_le (by simp)]; simp [stpsL, stpC]⟩
          · simp [SIX, boxP, SB, h0, jk_pos h0, j0, hi, r1, w3, hs, hj11, c2, hb, htp, hl1, hl2]
            exact ⟨by omega, by rw [List.take_of_length_le (by simp)]; simp [stpsL, stpC]⟩
end Go.Proofs.YtjcjpbjpbbdnlaaGreat.P

namespace Go.Av
theorem okWs_rng {ws:List Int} (h:okWs ws=true):∀ w∈ws,0≤w∧w≤6:=by
 intro w hw
 unfold okWs at h
 simp only [Bool.and_eq_true] at h
 have:=List.all_eq_true.1 h.2 w hw
 unfold okWidth at this
 simp at this; omega
theorem stepsP_len {p:Pn} {ws:List Int}:∀ s∈stepsP p ws,s.2.length≤8:=by
 intro s hs
 unfold stepsP at hs
 split at hs
 ·simp at hs
 ·rename_i h0
  obtain ⟨hw,hp,_⟩:=width_okWs h0
  rw [steps_same (okWs_rng hw) hp] at hs
  have:=(apS_at (ws:=ws) (rule:=s.1) (path:=s.2) (p:=p) (q:=((apS ws s.1 s.2 p).getD p)) (by
   have:=stS_mem.1 hs
   cases h:apS ws s.1 s.2 p with
   | none=>rw [h] at this; cases this
   | some q=>rfl)).2
  cases ha:Pn.at s.2 p with
  | none=>rw [ha] at this; cases this
  | some a=>exact (at_wd s.2 p 8 a hp ha).1
end Go.Av
namespace Go.Proofs.YtjcjpbjpbbdnlaaGreat.P
open Go Go.Av
set_option maxRecDepth 4000
set_option maxHeartbeats 8000000
def EQX (l:List Stp) (i:Nat):AS :=
 {env:=[(0, .i (.isl (stpsL l))),(1, .i (.isl (stpsL l))),(4, .bool false),(5, .int i),(10, .bool false),(14,jk i (.bool true)),(41,jk i (.bool false))],st:=[] }
theorem equalSteps_refl (l:List Stp) (hl:l.length < 1000000000) (hs:∀ s∈l,s.2.length≤8):callA C0 41 [.i (.isl (stpsL l)), .i (.isl (stpsL l))] []=some (.bool true,[]):=by
 rw [callA_eq rfl Tryz.func41 rfl rfl]
 simp
 rw [loop_to (EQX l) l.length (by simp [EQX])]
 ·rw [execA_loop]
  simp [EQX]
 ·intro i hi
  have q1:=List.getElem?_eq_getElem hi
  have hm:=List.mem_of_getElem? q1
  generalize l[i]=s at q1 hm
  have r1:=stpsL_nth q1
  have h8:=hs s hm
  have he:=equalInts_eq (l:=s.2) (m:=s.2) (by omega)
  rw [beq_self_eq_true] at he
  have w2:IntKind.i64.wrap ((i:Int) + 1)=i + 1:=wrap64 (by omega) (by omega)
  simp only [stpC] at r1
  simp [EQX,hi,r1,he,w2]
theorem sStepsFor_eq (p:Pn) (hp:p.thin) (ws:List Int) (hl:ws.length < 1000000):callA C0 85 [.i (.agg p.cells), .i (.isl (intsL ws))] []=some (.i (.isl (stpsL (stepsP p ws))),[]):=by
 have c1:=widthOf_eq p (Pn.thin_lim p hp) ws (by omega)
 unfold stepsP
 by_cases h0:p.width ws=0
 ·rw [callA_eq rfl Tryz.func85 rfl rfl]
  simp only [Pn.cells_eq p] at c1 ⊢
  simp [c1,h0,stpsL]
 ·obtain ⟨hw,hp8,hv⟩:=width_okWs h0
  have c2:=sstepsFor_eq hw hp8
  rw [← steps_same (okWs_rng hw) hp8] at c2
  rw [callA_eq rfl Tryz.func85 rfl rfl]
  simp only [Pn.cells_eq p] at c1 c2 ⊢
  simp [c1,h0,c2]
theorem stepsP_small (p:Pn) (ws:List Int):(stepsP p ws).length < 10000:=by
 unfold stepsP
 split
 ·simp
 ·rename_i h0
  have:=(Pn.width_fit h0).2
  have:=stI_len ws p []
  omega
@[simp] theorem cr_sStepsFor (a:List AV) (st:StL):callA CR 85 a st=callA C0 85 a st:=by rw [callA_prim (p:=callA C0 85) rfl]
end Go.Proofs.YtjcjpbjpbbdnlaaGreat.P

namespace Go.Proofs.YtjcjpbjpbbdnlaaGreat.P
open Go Go.Av
set_option maxRecDepth 4000
set_option maxHeartbeats 4000000
def six:List (List IV):=[[.int 0],[.int 0],[.int 0],[.int 1],[.int 2],[.int (-1)]]
theorem oneSix (l:List UInt8) (hl:l.length≤2000) (p:Int) (h0:0≤p) (h1:p < 900000000):∃ x:Int,callA C0 84 [.own 0 0, .osl 1 1 0 6] [Rd l p,some (.arr 1 [[.int 0],[.int 0],[.int 0],[.int 1],[.int 2],[.int (-1)]])]=some (.int x,[Rd l (p + 1),some (.arr 1 [[.int 0],[.int 0],[.int 0],[.int 1],[.int 2],[.int (-1)]])]):=by
 obtain ⟨x,hx,-⟩:=one_eq l p h0 (by omega) hl six (by simp [six]) (by simp [six]) (by simp [six])
 exact ⟨x,hx⟩
theorem somePath_eq (l:List UInt8) (hl:l.length≤2000) (p:Int) (h0:0≤p) (h1:p < 800000000):∃ (path:List Int) (p':Int),callA CR 86 [.own 0 0] [Rd l p]=some (.i (.isl (intsL path)),[Rd l p'])∧path.length≤3∧p≤p'∧p'≤p + 4:=by
 obtain ⟨n,hn,hn1,-⟩:=pick_eq l p 4 h0 (by omega) hl
 obtain ⟨n0,n1⟩:=hn1 (by omega)
 obtain ⟨a,ha⟩:=oneSix l hl (p + 1) (by omega) (by omega)
 obtain ⟨b,hb⟩:=oneSix l hl (p + 1 + 1) (by omega) (by omega)
 obtain ⟨c,hc⟩:=oneSix l hl (p + 1 + 1 + 1) (by omega) (by omega)
 have w3:IntKind.i64.wrap (3:Int)=3:=wrap64 (by omega) (by omega)
 have w2:IntKind.i64.wrap (2:Int)=2:=wrap64 (by omega) (by omega)
 have w1:=wrap_1
 have w0:IntKind.i64.wrap (0:Int)=0:=wrap64 (by omega) (by omega)
 have hcase:n=0∨n=1∨n=2∨n=3:=by omega
 rcases hcase with rfl | rfl | rfl | rfl
 ·refine ⟨[],p + 1,?_,by simp,by omega,by omega⟩
  rw [callA_eq rfl Tryz.func86 rfl rfl]
  simp [hn]
  rw [execA_loop]; simp [intsL]
 ·refine ⟨[a],p + 1 + 1,?_,by simp,by omega,by omega⟩
  rw [callA_eq rfl Tryz.func86 rfl rfl]
  simp [hn]
  rw [execA_loop]; simp [ha,w0]
  rw [execA_loop]; simp [intsL]
 ·refine ⟨[a,b],p + 1 + 1 + 1,?_,by simp,by omega,by omega⟩
  rw [callA_eq rfl Tryz.func86 rfl rfl]
  simp [hn]
  rw [execA_loop]; simp [ha,w1]
  rw [execA_loop]; simp [hb,w0]
  rw [execA_loop]; simp [intsL]
 ·refine ⟨[a,b,c],p + 1 + 1 + 1 + 1,?_,by simp,by omega,by omega⟩
  rw [callA_eq rfl Tryz.func86 rfl rfl]
  simp [hn]
  rw [execA_loop]; simp [ha,w2]
  rw [execA_loop]; simp [hb,w1]
  rw [execA_loop]; simp [hc,w0]
  rw [execA_loop]; simp [intsL]
theorem someStep_eq {l:List UInt8} (hl:l.length≤2000) {P:Pn} (hP:P.thin) {ws:List Int} (hw:ws.length≤1000) (p:Int) (h0:0≤p) (h1:p < 700000000):∃ (r:Int) (path:List Int) (p':Int),callA CR 52 [.own 0 0, .i (.agg P.cells), .i (.isl (intsL ws))] [Rd l p]=some (.i (.agg [.int r, .isl (intsL path)]),[Rd l p'])∧path.length≤8∧p≤p'∧p'≤p + 8:=by
 have e1:=sStepsFor_eq P hP ws (by omega)
 have hsm:=stepsP_small P ws
 have hs8:=stepsP_len (p:=P) (ws:=ws)
 rw [Pn.cells_eq P] at *
 generalize stepsP P ws=S at *
 obtain ⟨k,hk,hk1,-⟩:=pick_eq l p 5 h0 (by omega) hl
 obtain ⟨k0,k1⟩:=hk1 (by omega)
 by_cases hS:S=[]
 ·subst hS
  obtain ⟨n,hn,-,-⟩:=pick_eq l p 13 h0 (by omega) hl
  obtain ⟨path,p2,hp,q1,q2,q3⟩:=somePath_eq l hl (p + 1) (by omega) (by omega)
  refine ⟨n,path,p2,?_,by omega,by omega,by omega⟩
  rw [callA_eq rfl Tryz.func52 rfl rfl]
  simp [stpsL] at e1
  simp [e1,hn,hp]
 ·have hS0:S.length≠0:=fun h=>hS (List.length_eq_zero_iff.1 h)
  by_cases hk0:k=0
  ·obtain ⟨n,hn,-,-⟩:=pick_eq l (p + 1) 13 (by omega) (by omega) hl
   obtain ⟨path,p2,hp,q1,q2,q3⟩:=somePath_eq l hl (p + 1 + 1) (by omega) (by omega)
   refine ⟨n,path,p2,?_,by omega,by omega,by omega⟩
   rw [callA_eq rfl Tryz.func52 rfl rfl]
   have hlt:0 < S.length:=by omega
   simp [e1,hk,hk0,hn,hp,hlt]
  ·obtain ⟨j,hj,hj1,-⟩:=pick_eq l (p + 1) S.length (by omega) (by omega) hl
   obtain ⟨j0,j1⟩:=hj1 (by omega)
   obtain ⟨i,rfl⟩:=Int.eq_ofNat_of_zero_le j0
   have hi:i < S.length:=by omega
   have q1:=List.getElem?_eq_getElem hi
   have hm:=List.mem_of_getElem? q1
   generalize S[i]=s at q1 hm
   have r1:=stpsL_nth q1
   have h8:=hs8 s hm
   refine ⟨s.1,s.2,p + 1 + 1,?_,by omega,by omega,by omega⟩
   rw [callA_eq rfl Tryz.func52 rfl rfl]
   have hlt:0 < S.length:=by omega
   have hkk:(0:Int) < k:=by omega
   simp only [stpC,Int.ofNat_eq_natCast] at r1 hj
   have hb:s.2.length * 8≤140737488355328:=by omega
   by_cases hs:s.2=[]
   ·simp [hs,intsL] at r1
    simp [e1,hk,hkk,hlt,hj,hi,r1,hs,intsL]
   ·have ht:List.take s.2.length (intsL s.2)=intsL s.2:=List.take_of_length_le (by simp)
    simp [e1,hk,hkk,hlt,hj,hi,r1,hb,ht]
theorem drawApply_eq (code:List UInt8):∃ (P:Pn) (ws:List Int) (r:Int) (path:List Int),callA CR 13 [.i (.isl (bytesI code))] []=some (.tup [.i (.agg P.cells), .i (.isl (intsL ws)), .i (.agg [.int r, .isl (intsL path)])],[])∧P.thin∧ws.length≤3∧path.length≤8:=by
 obtain ⟨c,hc,hr⟩:=newReader_eq code
 obtain ⟨P,ws,p',h,h1,h2,h3,h4⟩:=planAndWidths_eq hc
 obtain ⟨r,path,p2,hs,s1,s2,s3⟩:=someStep_eq hc h1 (ws:=ws) (by omega) p' h3 (by omega)
 refine ⟨P,ws,r,path,?_,h1,h2,s1⟩
 rw [callA_eq rfl Tryz.func13 rfl rfl]
 rw [Pn.cells_eq P] at *
 simp [hr,h,hs]
end Go.Proofs.YtjcjpbjpbbdnlaaGreat.P

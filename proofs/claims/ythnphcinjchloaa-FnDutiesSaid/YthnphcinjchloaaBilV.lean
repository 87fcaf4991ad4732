/- bills: what is valid -/
import Derived.Test.YthnphcinjchloaaSrc2
import Derived.Test.YthnphcinjchloaaX3
import Derived.Test.YthnphcinjchloaaX2
set_option linter.unusedVariables false
set_option linter.unusedSimpArgs false
namespace Go.Proofs.Ythnphcinjchloaa
open Go.AG

structure Bl where
  owner : Int
  day : Int
  amt : Int
  paid : Int
  deriving Inhabited, DecidableEq
def Bl.cells (d : Bl) : List V := [.sc (.int .i64 d.owner), .sc (.int .i64 d.day), .sc (.int .i64 d.amt), .sc (.int .i64 d.paid)]
def cBl (ds : List Bl) : List V := ds.flatMap Bl.cells
def gBl (ds : List Bl) (i : Nat) : Bl := ds.getD i default
theorem gBl_lt (ds : List Bl) (i : Nat) (h : i < ds.length) : gBl ds i = ds[i] := by simp [gBl, h]
theorem gBl_mem (ds : List Bl) (i : Nat) (h : i < ds.length) : gBl ds i ∈ ds := by rw [gBl_lt ds i h]; exact List.getElem_mem h
theorem gBl_take_succ (ds : List Bl) (i : Nat) (h : i < ds.length) : ds.take (i + 1) = ds.take i ++ [gBl ds i] := by rw [List.take_succ_eq_append_getElem h, gBl_lt ds i h]
theorem gBl_set_same (ds : List Bl) (i : Nat) (d : Bl) (h : i < ds.length) : gBl (ds.set i d) i = d := by simp [gBl, h]
theorem gBl_set_ne (ds : List Bl) (i j : Nat) (d : Bl) (h : i ≠ j) : gBl (ds.set i d) j = gBl ds j := by simp [gBl, h]
theorem gBl_app_l (xs ys : List Bl) (i : Nat) (h : i < xs.length) : gBl (xs ++ ys) i = gBl xs i := by simp [gBl, List.getElem?_append_left h]
theorem gBl_app_r (xs ys : List Bl) (i : Nat) (h : xs.length ≤ i) : gBl (xs ++ ys) i = gBl ys (i - xs.length) := by simp [gBl, List.getElem?_append_right h]
theorem cBl_eq (ds : List Bl) : cBl ds = (ds.map Bl.cells).flatten := by rw [cBl, List.flatMap_def]
@[go_sem] theorem length_cBl (ds : List Bl) : (cBl ds).length = ds.length * 4 := (rsLen Bl.cells 4 (fun _ => rfl) ds)
@[go_sem] theorem cBl_nil : cBl [] = [] := rfl
@[go_sem] theorem cBl_append (xs ys : List Bl) : cBl xs ++ cBl ys = cBl (xs ++ ys) := by simp [cBl]
theorem cBl_one (d : Bl) : cBl [d] = d.cells := by simp [cBl]
@[go_sem] theorem cBl_snoc (xs : List Bl) (owner : Int) (day : Int) (amt : Int) (paid : Int) : cBl xs ++ [.sc (.int .i64 owner), .sc (.int .i64 day), .sc (.int .i64 amt), .sc (.int .i64 paid)] = cBl (xs ++ [⟨owner, day, amt, paid⟩]) := by simp [cBl, Bl.cells]
@[go_sem] theorem cBl_take (ds : List Bl) (n : Nat) : (cBl ds).take (n * 4) = cBl (ds.take n) := rsTake Bl.cells 4 (fun _ => rfl) ds n
@[go_sem] theorem cBl_take_all (ds : List Bl) (n : Nat) (h : ds.length * 4 ≤ n) : (cBl ds).take n = cBl ds := List.take_of_length_le (by rw [length_cBl]; exact h)
@[go_sem] theorem cBl_drop (ds : List Bl) (n : Nat) : (cBl ds).drop (n * 4) = cBl (ds.drop n) := rsDrop Bl.cells 4 (fun _ => rfl) ds n
@[go_sem high] theorem vPart_cBl (ds : List Bl) (i : Nat) (K : V → Prop) : vPart true 4 (cBl ds) (i * 4) K = grd (i < ds.length) (K (.agg [.sc (.int .i64 (gBl ds i).owner), .sc (.int .i64 (gBl ds i).day), .sc (.int .i64 (gBl ds i).amt), .sc (.int .i64 (gBl ds i).paid)])) := rsPart Bl.cells 4 (fun _ => rfl) (by omega) ds i K
@[go_sem] theorem cBl_at (ds : List Bl) (n : Nat) (h : n < ds.length) : (cBl (ds.drop n)).take 4 = [.sc (.int .i64 (gBl ds n).owner), .sc (.int .i64 (gBl ds n).day), .sc (.int .i64 (gBl ds n).amt), .sc (.int .i64 (gBl ds n).paid)] := by rw [List.drop_eq_getElem_cons h, gBl_lt ds n h]; rfl
@[go_sem] theorem cBl_at0 (ds : List Bl) (h : 0 < ds.length) : (cBl ds).take 4 = [.sc (.int .i64 (gBl ds 0).owner), .sc (.int .i64 (gBl ds 0).day), .sc (.int .i64 (gBl ds 0).amt), .sc (.int .i64 (gBl ds 0).paid)] := by cases ds with | nil => simp at h | cons x r => rfl
@[go_sem] theorem vAt_cBl_0 (ds : List Bl) (i : Nat) (K : V → Prop) : vAt (cBl ds) (i * 4) K = grd (i < ds.length) (K (.sc (.int .i64 (gBl ds i).owner))) := rsAt Bl.cells 4 (fun _ => rfl) ds i 0 (by omega) (fun d => .sc (.int .i64 d.owner)) (fun _ => rfl) K
@[go_sem] theorem wr_cBl_0 (ds : List Bl) (i : Nat) (x : Int) (h : i < ds.length) : wr (cBl ds) (i * 4) [.sc (.int .i64 x)] = cBl (ds.set i {gBl ds i with owner := x}) := rsWr Bl.cells 4 (fun _ => rfl) ds i 0 (by omega) h _ _ rfl
@[go_sem] theorem vAt_cBl_1 (ds : List Bl) (i : Nat) (K : V → Prop) : vAt (cBl ds) (i * 4 + 1) K = grd (i < ds.length) (K (.sc (.int .i64 (gBl ds i).day))) := rsAt Bl.cells 4 (fun _ => rfl) ds i 1 (by omega) (fun d => .sc (.int .i64 d.day)) (fun _ => rfl) K
@[go_sem] theorem wr_cBl_1 (ds : List Bl) (i : Nat) (x : Int) (h : i < ds.length) : wr (cBl ds) (i * 4 + 1) [.sc (.int .i64 x)] = cBl (ds.set i {gBl ds i with day := x}) := rsWr Bl.cells 4 (fun _ => rfl) ds i 1 (by omega) h _ _ rfl
@[go_sem] theorem vAt_cBl_2 (ds : List Bl) (i : Nat) (K : V → Prop) : vAt (cBl ds) (i * 4 + 2) K = grd (i < ds.length) (K (.sc (.int .i64 (gBl ds i).amt))) := rsAt Bl.cells 4 (fun _ => rfl) ds i 2 (by omega) (fun d => .sc (.int .i64 d.amt)) (fun _ => rfl) K
@[go_sem] theorem wr_cBl_2 (ds : List Bl) (i : Nat) (x : Int) (h : i < ds.length) : wr (cBl ds) (i * 4 + 2) [.sc (.int .i64 x)] = cBl (ds.set i {gBl ds i with amt := x}) := rsWr Bl.cells 4 (fun _ => rfl) ds i 2 (by omega) h _ _ rfl
@[go_sem] theorem vAt_cBl_3 (ds : List Bl) (i : Nat) (K : V → Prop) : vAt (cBl ds) (i * 4 + 3) K = grd (i < ds.length) (K (.sc (.int .i64 (gBl ds i).paid))) := rsAt Bl.cells 4 (fun _ => rfl) ds i 3 (by omega) (fun d => .sc (.int .i64 d.paid)) (fun _ => rfl) K
@[go_sem] theorem wr_cBl_3 (ds : List Bl) (i : Nat) (x : Int) (h : i < ds.length) : wr (cBl ds) (i * 4 + 3) [.sc (.int .i64 x)] = cBl (ds.set i {gBl ds i with paid := x}) := rsWr Bl.cells 4 (fun _ => rfl) ds i 3 (by omega) h _ _ rfl
@[go_sem] theorem wr_cBl_0_set (ds : List Bl) (i i0 : Nat) (d : Bl) (x : Int) (h : i < ds.length) : wr (cBl (ds.set i0 d)) (i * 4) [.sc (.int .i64 x)] = cBl ((ds.set i0 d).set i {gBl (ds.set i0 d) i with owner := x}) := wr_cBl_0 _ _ _ (by rw [List.length_set]; exact h)
@[go_sem] theorem wr_cBl_1_set (ds : List Bl) (i i0 : Nat) (d : Bl) (x : Int) (h : i < ds.length) : wr (cBl (ds.set i0 d)) (i * 4 + 1) [.sc (.int .i64 x)] = cBl ((ds.set i0 d).set i {gBl (ds.set i0 d) i with day := x}) := wr_cBl_1 _ _ _ (by rw [List.length_set]; exact h)
@[go_sem] theorem wr_cBl_2_set (ds : List Bl) (i i0 : Nat) (d : Bl) (x : Int) (h : i < ds.length) : wr (cBl (ds.set i0 d)) (i * 4 + 2) [.sc (.int .i64 x)] = cBl ((ds.set i0 d).set i {gBl (ds.set i0 d) i with amt := x}) := wr_cBl_2 _ _ _ (by rw [List.length_set]; exact h)
@[go_sem] theorem wr_cBl_3_set (ds : List Bl) (i i0 : Nat) (d : Bl) (x : Int) (h : i < ds.length) : wr (cBl (ds.set i0 d)) (i * 4 + 3) [.sc (.int .i64 x)] = cBl ((ds.set i0 d).set i {gBl (ds.set i0 d) i with paid := x}) := wr_cBl_3 _ _ _ (by rw [List.length_set]; exact h)
attribute [go_sem] gBl_set_same
@[go_sem] theorem wr_cBl_all (ds : List Bl) (i : Nat) (owner : Int) (day : Int) (amt : Int) (paid : Int) (h : i < ds.length) : wr (cBl ds) (i * 4) [.sc (.int .i64 owner), .sc (.int .i64 day), .sc (.int .i64 amt), .sc (.int .i64 paid)] = cBl (ds.set i ⟨owner, day, amt, paid⟩) := rsWrAll Bl.cells 4 (fun _ => rfl) ds i h ⟨owner, day, amt, paid⟩
@[go_sem] theorem imm_cBl (ds : List Bl) : V.immL (cBl ds) = true := by induction ds with | nil => rfl | cons x xs ih => exact ih
@[go_sem] theorem one_cBl (ds : List Bl) : V.oneL (cBl ds) = true := by induction ds with | nil => rfl | cons x xs ih => exact ih
@[go_sem] theorem noref_cBl (ds : List Bl) : V.norefL (cBl ds) = true := by induction ds with | nil => rfl | cons x xs ih => exact ih
@[go_sem] theorem flat_cBl (ds : List Bl) : V.flatL (cBl ds) = true := by induction ds with | nil => rfl | cons x xs ih => exact ih
@[go_sem] theorem kill_cBl (p : Nat → Bool) (ds : List Bl) : V.killL p (cBl ds) = cBl ds := killL_noref p _ (noref_cBl ds)
@[go_sem] theorem frz_cBl (f : Nat → Option Ob) (ds : List Bl) : V.frzL f (cBl ds) = cBl ds := frzL_noref f _ (noref_cBl ds)
@[go_sem] theorem ren_cBl (g : Nat → Nat) (ds : List Bl) : V.renL g (cBl ds) = cBl ds := by induction ds with | nil => rfl | cons x xs ih => exact congrArg (x.cells ++ ·) ih
@[go_sem] theorem reps_cBl (n : Nat) : reps n [V.sc (.int .i64 0), V.sc (.int .i64 0), V.sc (.int .i64 0), V.sc (.int .i64 0)] = cBl (List.replicate n ⟨0, 0, 0, 0⟩) := rsReps Bl.cells n ⟨0, 0, 0, 0⟩
@[go_sem] theorem map_cBl_inj (xs ys : List Bl) : (cBl xs = cBl ys) = (xs = ys) := propext ⟨rsInj Bl.cells 4 (fun _ => rfl) (by omega) (fun a b h => by cases a; cases b; simpa [Bl.cells] using h) xs ys, fun h => by rw [h]⟩
@[go_sem] theorem cBl_rep0 (d : Bl) : cBl (List.replicate 0 d) = [] := rfl
@[go_sem] theorem wr_cBl_rep1 (d : Bl) (owner : Int) (day : Int) (amt : Int) (paid : Int) : wr (cBl (List.replicate 1 d)) 0 [.sc (.int .i64 owner), .sc (.int .i64 day), .sc (.int .i64 amt), .sc (.int .i64 paid)] = cBl [⟨owner, day, amt, paid⟩] := rfl
@[go_sem] theorem cBl_take1 (d : Bl) : (cBl [d]).take 4 = cBl [d] := rfl
structure OkB (b : Bl) : Prop where
  o : 0 ≤ b.owner ∧ b.owner ≤ 39
  d : 0 ≤ b.day ∧ b.day ≤ 100000
  a : 0 ≤ b.amt ∧ b.amt ≤ 1000000000
  p : 0 ≤ b.paid ∧ b.paid ≤ b.amt
structure BlX (ds : List Bl) : Prop where
  n : ds.length ≤ 100
  e : ∀ i, i < ds.length → OkB (gBl ds i)
  s : ∀ i, i + 1 < ds.length → (gBl ds i).day ≤ (gBl ds (i + 1)).day
/-- a list whose owners and days are another's, with amounts that are valid too, is valid too -/
theorem BlX.mono {ds es : List Bl} (X : BlX ds) (hl : es.length = ds.length) (h : ∀ i, i < ds.length → (gBl es i).owner = (gBl ds i).owner ∧ (gBl es i).day = (gBl ds i).day ∧ OkB (gBl es i)) : BlX es :=
  ⟨by rw [hl]; exact X.n, fun i hi => (h i (by omega)).2.2, fun i hi => by rw [(h i (by omega)).2.1, (h (i + 1) (by omega)).2.1]; exact X.s i (by omega)⟩
theorem isOwner2_ok (n : Int) : ACalls Try.prog 124 [I n] [] (fun r o => r = B (decide (0 ≤ n ∧ n ≤ 39)) ∧ o = []) := by
  refine ACalls.of_vc Try.func124 rfl (by decide) 5 rfl [.tmp 2] rfl (by simp) ?_
  (repeat (first | simp (maxSteps := 2000000) (disch := omega) only [go_sem, ↓reduceIte, Nat.reduceEqDiff, Nat.reduceAdd, Nat.reduceMul, Nat.reduceSub, Int.reduceToNat, Int.reduceAdd, Int.reduceSub, Int.reduceMul, Int.reduceNeg] | with_reducible refine vIf_t ?_ | with_reducible refine vIf_f ?_))
  (refine vCallX_of ?_; (repeat (first | simp (maxSteps := 2000000) (disch := omega) only [go_sem, ↓reduceIte, Nat.reduceEqDiff, Nat.reduceAdd, Nat.reduceMul, Nat.reduceSub, Int.reduceToNat, Int.reduceAdd, Int.reduceSub, Int.reduceMul, Int.reduceNeg] | with_reducible refine vIf_t ?_ | with_reducible refine vIf_f ?_)); refine vCall_eq (in_ok n 0 39) (by simp (disch := omega) only [go_sem, Nat.reduceAdd]) rfl (by first | exact Or.inl rfl | exact Or.inr ⟨rfl, rfl⟩ | (apply Or.inr; simp only [go_sem])) ?_; (repeat (first | simp (maxSteps := 2000000) (disch := omega) only [go_sem, ↓reduceIte, Nat.reduceEqDiff, Nat.reduceAdd, Nat.reduceMul, Nat.reduceSub, Int.reduceToNat, Int.reduceAdd, Int.reduceSub, Int.reduceMul, Int.reduceNeg] | with_reducible refine vIf_t ?_ | with_reducible refine vIf_f ?_)))
  (refine retK_of ?_; (repeat (first | simp (maxSteps := 2000000) (disch := omega) only [go_sem, ↓reduceIte, Nat.reduceEqDiff, Nat.reduceAdd, Nat.reduceMul, Nat.reduceSub, Int.reduceToNat, Int.reduceAdd, Int.reduceSub, Int.reduceMul, Int.reduceNeg] | with_reducible refine vIf_t ?_ | with_reducible refine vIf_f ?_)))
theorem isShared_ok (n : Int) : ACalls Try.prog 103 [I n] [] (fun r o => r = B (decide (0 ≤ n ∧ n ≤ 1000000000)) ∧ o = []) := by
  refine ACalls.of_vc Try.func103 rfl (by decide) 5 rfl [.tmp 2] rfl (by simp) ?_
  (repeat (first | simp (maxSteps := 2000000) (disch := omega) only [go_sem, ↓reduceIte, Nat.reduceEqDiff, Nat.reduceAdd, Nat.reduceMul, Nat.reduceSub, Int.reduceToNat, Int.reduceAdd, Int.reduceSub, Int.reduceMul, Int.reduceNeg] | with_reducible refine vIf_t ?_ | with_reducible refine vIf_f ?_))
  (refine vCallX_of ?_; (repeat (first | simp (maxSteps := 2000000) (disch := omega) only [go_sem, ↓reduceIte, Nat.reduceEqDiff, Nat.reduceAdd, Nat.reduceMul, Nat.reduceSub, Int.reduceToNat, Int.reduceAdd, Int.reduceSub, Int.reduceMul, Int.reduceNeg] | with_reducible refine vIf_t ?_ | with_reducible refine vIf_f ?_)); refine vCall_eq (in_ok n 0 1000000000) (by simp (disch := omega) only [go_sem, Nat.reduceAdd]) rfl (by first | exact Or.inl rfl | exact Or.inr ⟨rfl, rfl⟩ | (apply Or.inr; simp only [go_sem])) ?_; (repeat (first | simp (maxSteps := 2000000) (disch := omega) only [go_sem, ↓reduceIte, Nat.reduceEqDiff, Nat.reduceAdd, Nat.reduceMul, Nat.reduceSub, Int.reduceToNat, Int.reduceAdd, Int.reduceSub, Int.reduceMul, Int.reduceNeg] | with_reducible refine vIf_t ?_ | with_reducible refine vIf_f ?_)))
  (refine retK_of ?_; (repeat (first | simp (maxSteps := 2000000) (disch := omega) only [go_sem, ↓reduceIte, Nat.reduceEqDiff, Nat.reduceAdd, Nat.reduceMul, Nat.reduceSub, Int.reduceToNat, Int.reduceAdd, Int.reduceSub, Int.reduceMul, Int.reduceNeg] | with_reducible refine vIf_t ?_ | with_reducible refine vIf_f ?_)))
theorem allBl_snoc (q : Bl → Bool) (xs : List Bl) (k : Nat) (h : k < xs.length) (he : (xs.take k).all q = true) (hq : q (gBl xs k) = true) : (xs.take (k + 1)).all q = true := by
  rw [gBl_take_succ xs k h, List.all_append, he]; simp [hq]
theorem allBl_no (q : Bl → Bool) (xs : List Bl) (k : Nat) (h : k < xs.length) (hq : q (gBl xs k) = false) : xs.all q = false := by
  rw [List.all_eq_false]
  exact ⟨gBl xs k, gBl_mem xs k h, by simp [hq]⟩
end Go.Proofs.Ythnphcinjchloaa

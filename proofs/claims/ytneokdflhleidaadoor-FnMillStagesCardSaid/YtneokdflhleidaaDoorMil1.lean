/- mills: valid, drawn, rates -/
import Derived.Test.YtneokdflhleidaaDoorSrc2
import Derived.Test.YtneokdflhleidaaDoorX3
import Derived.Test.YtneokdflhleidaaDoorX2
set_option linter.unusedVariables false
set_option linter.unusedSimpArgs false
namespace Go.Proofs.YtneokdflhleidaaDoor
open Go.AG

structure Ml where
  lift : Int
  rate : Int
  lo : Int
  hi : Int
  deriving Inhabited, DecidableEq
def Ml.cells (d : Ml) : List V := [.sc (.int .i64 d.lift), .sc (.int .i64 d.rate), .sc (.int .i64 d.lo), .sc (.int .i64 d.hi)]
def cMl (ds : List Ml) : List V := ds.flatMap Ml.cells
def gMl (ds : List Ml) (i : Nat) : Ml := ds.getD i default
theorem gMl_lt (ds : List Ml) (i : Nat) (h : i < ds.length) : gMl ds i = ds[i] := by simp [gMl, h]
theorem gMl_mem (ds : List Ml) (i : Nat) (h : i < ds.length) : gMl ds i ∈ ds := by rw [gMl_lt ds i h]; exact List.getElem_mem h
theorem gMl_take_succ (ds : List Ml) (i : Nat) (h : i < ds.length) : ds.take (i + 1) = ds.take i ++ [gMl ds i] := by rw [List.take_succ_eq_append_getElem h, gMl_lt ds i h]
theorem gMl_set_same (ds : List Ml) (i : Nat) (d : Ml) (h : i < ds.length) : gMl (ds.set i d) i = d := by simp [gMl, h]
theorem gMl_set_ne (ds : List Ml) (i j : Nat) (d : Ml) (h : i ≠ j) : gMl (ds.set i d) j = gMl ds j := by simp [gMl, h]
theorem gMl_app_l (xs ys : List Ml) (i : Nat) (h : i < xs.length) : gMl (xs ++ ys) i = gMl xs i := by simp [gMl, List.getElem?_append_left h]
theorem gMl_app_r (xs ys : List Ml) (i : Nat) (h : xs.length ≤ i) : gMl (xs ++ ys) i = gMl ys (i - xs.length) := by simp [gMl, List.getElem?_append_right h]
theorem cMl_eq (ds : List Ml) : cMl ds = (ds.map Ml.cells).flatten := by rw [cMl, List.flatMap_def]
@[go_sem] theorem length_cMl (ds : List Ml) : (cMl ds).length = ds.length * 4 := (rsLen Ml.cells 4 (fun _ => rfl) ds)
@[go_sem] theorem cMl_nil : cMl [] = [] := rfl
@[go_sem] theorem cMl_append (xs ys : List Ml) : cMl xs ++ cMl ys = cMl (xs ++ ys) := by simp [cMl]
theorem cMl_one (d : Ml) : cMl [d] = d.cells := by simp [cMl]
@[go_sem] theorem cMl_snoc (xs : List Ml) (lift : Int) (rate : Int) (lo : Int) (hi : Int) : cMl xs ++ [.sc (.int .i64 lift), .sc (.int .i64 rate), .sc (.int .i64 lo), .sc (.int .i64 hi)] = cMl (xs ++ [⟨lift, rate, lo, hi⟩]) := by simp [cMl, Ml.cells]
@[go_sem] theorem cMl_take (ds : List Ml) (n : Nat) : (cMl ds).take (n * 4) = cMl (ds.take n) := rsTake Ml.cells 4 (fun _ => rfl) ds n
@[go_sem] theorem cMl_take_all (ds : List Ml) (n : Nat) (h : ds.length * 4 ≤ n) : (cMl ds).take n = cMl ds := List.take_of_length_le (by rw [length_cMl]; exact h)
@[go_sem] theorem cMl_drop (ds : List Ml) (n : Nat) : (cMl ds).drop (n * 4) = cMl (ds.drop n) := rsDrop Ml.cells 4 (fun _ => rfl) ds n
@[go_sem high] theorem vPart_cMl (ds : List Ml) (i : Nat) (K : V → Prop) : vPart true 4 (cMl ds) (i * 4) K = grd (i < ds.length) (K (.agg [.sc (.int .i64 (gMl ds i).lift), .sc (.int .i64 (gMl ds i).rate), .sc (.int .i64 (gMl ds i).lo), .sc (.int .i64 (gMl ds i).hi)])) := rsPart Ml.cells 4 (fun _ => rfl) (by omega) ds i K
@[go_sem] theorem vAt_cMl_0 (ds : List Ml) (i : Nat) (K : V → Prop) : vAt (cMl ds) (i * 4) K = grd (i < ds.length) (K (.sc (.int .i64 (gMl ds i).lift))) := rsAt Ml.cells 4 (fun _ => rfl) ds i 0 (by omega) (fun d => .sc (.int .i64 d.lift)) (fun _ => rfl) K
@[go_sem] theorem wr_cMl_0 (ds : List Ml) (i : Nat) (x : Int) (h : i < ds.length) : wr (cMl ds) (i * 4) [.sc (.int .i64 x)] = cMl (ds.set i {gMl ds i with lift := x}) := rsWr Ml.cells 4 (fun _ => rfl) ds i 0 (by omega) h _ _ rfl
@[go_sem] theorem vAt_cMl_1 (ds : List Ml) (i : Nat) (K : V → Prop) : vAt (cMl ds) (i * 4 + 1) K = grd (i < ds.length) (K (.sc (.int .i64 (gMl ds i).rate))) := rsAt Ml.cells 4 (fun _ => rfl) ds i 1 (by omega) (fun d => .sc (.int .i64 d.rate)) (fun _ => rfl) K
@[go_sem] theorem wr_cMl_1 (ds : List Ml) (i : Nat) (x : Int) (h : i < ds.length) : wr (cMl ds) (i * 4 + 1) [.sc (.int .i64 x)] = cMl (ds.set i {gMl ds i with rate := x}) := rsWr Ml.cells 4 (fun _ => rfl) ds i 1 (by omega) h _ _ rfl
@[go_sem] theorem vAt_cMl_2 (ds : List Ml) (i : Nat) (K : V → Prop) : vAt (cMl ds) (i * 4 + 2) K = grd (i < ds.length) (K (.sc (.int .i64 (gMl ds i).lo))) := rsAt Ml.cells 4 (fun _ => rfl) ds i 2 (by omega) (fun d => .sc (.int .i64 d.lo)) (fun _ => rfl) K
@[go_sem] theorem wr_cMl_2 (ds : List Ml) (i : Nat) (x : Int) (h : i < ds.length) : wr (cMl ds) (i * 4 + 2) [.sc (.int .i64 x)] = cMl (ds.set i {gMl ds i with lo := x}) := rsWr Ml.cells 4 (fun _ => rfl) ds i 2 (by omega) h _ _ rfl
@[go_sem] theorem vAt_cMl_3 (ds : List Ml) (i : Nat) (K : V → Prop) : vAt (cMl ds) (i * 4 + 3) K = grd (i < ds.length) (K (.sc (.int .i64 (gMl ds i).hi))) := rsAt Ml.cells 4 (fun _ => rfl) ds i 3 (by omega) (fun d => .sc (.int .i64 d.hi)) (fun _ => rfl) K
@[go_sem] theorem wr_cMl_3 (ds : List Ml) (i : Nat) (x : Int) (h : i < ds.length) : wr (cMl ds) (i * 4 + 3) [.sc (.int .i64 x)] = cMl (ds.set i {gMl ds i with hi := x}) := rsWr Ml.cells 4 (fun _ => rfl) ds i 3 (by omega) h _ _ rfl
@[go_sem] theorem wr_cMl_0_set (ds : List Ml) (i i0 : Nat) (d : Ml) (x : Int) (h : i < ds.length) : wr (cMl (ds.set i0 d)) (i * 4) [.sc (.int .i64 x)] = cMl ((ds.set i0 d).set i {gMl (ds.set i0 d) i with lift := x}) := wr_cMl_0 _ _ _ (by rw [List.length_set]; exact h)
@[go_sem] theorem wr_cMl_1_set (ds : List Ml) (i i0 : Nat) (d : Ml) (x : Int) (h : i < ds.length) : wr (cMl (ds.set i0 d)) (i * 4 + 1) [.sc (.int .i64 x)] = cMl ((ds.set i0 d).set i {gMl (ds.set i0 d) i with rate := x}) := wr_cMl_1 _ _ _ (by rw [List.length_set]; exact h)
@[go_sem] theorem wr_cMl_2_set (ds : List Ml) (i i0 : Nat) (d : Ml) (x : Int) (h : i < ds.length) : wr (cMl (ds.set i0 d)) (i * 4 + 2) [.sc (.int .i64 x)] = cMl ((ds.set i0 d).set i {gMl (ds.set i0 d) i with lo := x}) := wr_cMl_2 _ _ _ (by rw [List.length_set]; exact h)
@[go_sem] theorem wr_cMl_3_set (ds : List Ml) (i i0 : Nat) (d : Ml) (x : Int) (h : i < ds.length) : wr (cMl (ds.set i0 d)) (i * 4 + 3) [.sc (.int .i64 x)] = cMl ((ds.set i0 d).set i {gMl (ds.set i0 d) i with hi := x}) := wr_cMl_3 _ _ _ (by rw [List.length_set]; exact h)
attribute [go_sem] gMl_set_same
@[go_sem] theorem wr_cMl_all (ds : List Ml) (i : Nat) (lift : Int) (rate : Int) (lo : Int) (hi : Int) (h : i < ds.length) : wr (cMl ds) (i * 4) [.sc (.int .i64 lift), .sc (.int .i64 rate), .sc (.int .i64 lo), .sc (.int .i64 hi)] = cMl (ds.set i ⟨lift, rate, lo, hi⟩) := rsWrAll Ml.cells 4 (fun _ => rfl) ds i h ⟨lift, rate, lo, hi⟩
@[go_sem] theorem imm_cMl (ds : List Ml) : V.immL (cMl ds) = true := by induction ds with | nil => rfl | cons x xs ih => exact ih
@[go_sem] theorem one_cMl (ds : List Ml) : V.oneL (cMl ds) = true := by induction ds with | nil => rfl | cons x xs ih => exact ih
@[go_sem] theorem noref_cMl (ds : List Ml) : V.norefL (cMl ds) = true := by induction ds with | nil => rfl | cons x xs ih => exact ih
@[go_sem] theorem flat_cMl (ds : List Ml) : V.flatL (cMl ds) = true := by induction ds with | nil => rfl | cons x xs ih => exact ih
@[go_sem] theorem kill_cMl (p : Nat → Bool) (ds : List Ml) : V.killL p (cMl ds) = cMl ds := killL_noref p _ (noref_cMl ds)
@[go_sem] theorem frz_cMl (f : Nat → Option Ob) (ds : List Ml) : V.frzL f (cMl ds) = cMl ds := frzL_noref f _ (noref_cMl ds)
@[go_sem] theorem ren_cMl (g : Nat → Nat) (ds : List Ml) : V.renL g (cMl ds) = cMl ds := by induction ds with | nil => rfl | cons x xs ih => exact congrArg (x.cells ++ ·) ih
@[go_sem] theorem reps_cMl (n : Nat) : reps n [V.sc (.int .i64 0), V.sc (.int .i64 0), V.sc (.int .i64 0), V.sc (.int .i64 0)] = cMl (List.replicate n ⟨0, 0, 0, 0⟩) := rsReps Ml.cells n ⟨0, 0, 0, 0⟩
@[go_sem] theorem map_cMl_inj (xs ys : List Ml) : (cMl xs = cMl ys) = (xs = ys) := propext ⟨rsInj Ml.cells 4 (fun _ => rfl) (by omega) (fun a b h => by cases a; cases b; simpa [Ml.cells] using h) xs ys, fun h => by rw [h]⟩
@[go_sem] theorem cMl_rep0 (d : Ml) : cMl (List.replicate 0 d) = [] := rfl
@[go_sem] theorem wr_cMl_rep1 (d : Ml) (lift : Int) (rate : Int) (lo : Int) (hi : Int) : wr (cMl (List.replicate 1 d)) 0 [.sc (.int .i64 lift), .sc (.int .i64 rate), .sc (.int .i64 lo), .sc (.int .i64 hi)] = cMl [⟨lift, rate, lo, hi⟩] := rfl
@[go_sem] theorem cMl_take1 (d : Ml) : (cMl [d]).take 4 = cMl [d] := rfl
def rMl (xs : List (List Ml)) : List V := xs.map fun x => .sl x.length (cMl x)
def qMl (xs : List (List Ml)) (i : Nat) : List Ml := xs.getD i []
theorem qMl_lt (xs : List (List Ml)) (i : Nat) (h : i < xs.length) : qMl xs i = xs[i] := by simp [qMl, h]
theorem qMl_mem (xs : List (List Ml)) (i : Nat) (h : i < xs.length) : qMl xs i ∈ xs := by rw [qMl_lt xs i h]; exact List.getElem_mem h
theorem qMl_take_succ (xs : List (List Ml)) (i : Nat) (h : i < xs.length) : xs.take (i + 1) = xs.take i ++ [qMl xs i] := by rw [List.take_succ_eq_append_getElem h, qMl_lt xs i h]
theorem qMl_app_l (xs ys : List (List Ml)) (i : Nat) (h : i < xs.length) : qMl (xs ++ ys) i = qMl xs i := by simp [qMl, List.getElem?_append_left h]
theorem qMl_app_r (xs ys : List (List Ml)) (i : Nat) (h : xs.length ≤ i) : qMl (xs ++ ys) i = qMl ys (i - xs.length) := by simp [qMl, List.getElem?_append_right h]
@[go_sem] theorem length_rMl (xs : List (List Ml)) : (rMl xs).length = xs.length := by simp [rMl]
@[go_sem] theorem rMl_nil : rMl [] = [] := rfl
@[go_sem] theorem rMl_append (xs ys : List (List Ml)) : rMl xs ++ rMl ys = rMl (xs ++ ys) := by simp [rMl]
theorem rMl_one (x : List Ml) : [V.sl x.length (cMl x)] = rMl [x] := rfl
@[go_sem] theorem rMl_snoc (xs : List (List Ml)) (x : List Ml) : rMl xs ++ [V.sl x.length (cMl x)] = rMl (xs ++ [x]) := by simp [rMl]
@[go_sem] theorem rMl_take_all (xs : List (List Ml)) (n : Nat) (h : xs.length ≤ n) : (rMl xs).take n = rMl xs := by rw [List.take_of_length_le (by simpa [rMl] using h)]
@[go_sem low] theorem rMl_take (xs : List (List Ml)) (n : Nat) : (rMl xs).take n = rMl (xs.take n) := by simp [rMl, List.map_take]
@[go_sem] theorem rMl_drop (xs : List (List Ml)) (n : Nat) : (rMl xs).drop n = rMl (xs.drop n) := by simp [rMl, List.map_drop]
@[go_sem] theorem vAt_rMl (xs : List (List Ml)) (i : Nat) (K : V → Prop) : vAt (rMl xs) i K = grd (i < xs.length) (K (.sl (qMl xs i).length (cMl (qMl xs i)))) := by
  by_cases h : i < xs.length <;> simp [vAt, rMl, qMl, h, grd]
@[go_sem] theorem imm_rMl (xs : List (List Ml)) : V.immL (rMl xs) = true := by induction xs with | nil => rfl | cons x xs ih => exact ih
@[go_sem] theorem one_rMl (xs : List (List Ml)) : V.oneL (rMl xs) = true := by induction xs with | nil => rfl | cons x xs ih => exact ih
@[go_sem] theorem noref_rMl (xs : List (List Ml)) : V.norefL (rMl xs) = true := by induction xs with | nil => rfl | cons x xs ih => exact ih
@[go_sem] theorem kill_rMl (p : Nat → Bool) (xs : List (List Ml)) : V.killL p (rMl xs) = rMl xs := killL_noref p _ (noref_rMl xs)
@[go_sem] theorem frz_rMl (f : Nat → Option Ob) (xs : List (List Ml)) : V.frzL f (rMl xs) = rMl xs := frzL_noref f _ (noref_rMl xs)
@[go_sem] theorem ren_rMl (g : Nat → Nat) (xs : List (List Ml)) : V.renL g (rMl xs) = rMl xs := by simp [renL_eq, rMl, V.ren]
structure OkM (m : Ml) : Prop where
  l : 1 ≤ m.lift ∧ m.lift ≤ 500
  r : 1 ≤ m.rate ∧ m.rate ≤ 10000
  w : 1 ≤ m.lo ∧ m.lo ≤ m.hi ∧ m.hi ≤ 12
structure MlX (ms : List Ml) : Prop where
  n : 1 ≤ ms.length ∧ ms.length ≤ 8
  e : ∀ i, i < ms.length → OkM (gMl ms i)
structure StX (xs : List (List Ml)) : Prop where
  n : 1 ≤ xs.length ∧ xs.length ≤ 4
  e : ∀ i, i < xs.length → MlX (qMl xs i)
theorem validMill_ok (m : Ml) (h : OkM m) : ACalls Tryd.prog 82 [.agg m.cells] [] (fun r o => r = B true ∧ o = []) := by
  refine ACalls.of_vc Tryd.func82 rfl (by decide) 28 rfl [.tmp 2] rfl (by simp) ?_
  obtain ⟨l, r, w⟩ := h
  have h1 := in_ok m.lift 1 500
  have h2 := in_ok m.rate 1 10000
  rw [decide_eq_true l] at h1
  rw [decide_eq_true r] at h2
  have c1 : decide (1 ≤ m.lo) = true := decide_eq_true (by omega)
  have c2 : decide (m.lo ≤ m.hi) = true := decide_eq_true (by omega)
  have c3 : decide (m.hi ≤ 12) = true := decide_eq_true (by omega)
  unfold Ml.cells
  (repeat (first | simp (maxSteps := 2000000) (disch := omega) only [go_sem, ↓reduceIte, Nat.reduceEqDiff, Nat.reduceAdd, Nat.reduceMul, Nat.reduceSub, Int.reduceToNat, Int.reduceAdd, Int.reduceSub, Int.reduceMul, Int.reduceNeg] | with_reducible refine vIf_t ?_ | with_reducible refine vIf_f ?_))
  (refine vCallX_of ?_; (repeat (first | simp (maxSteps := 2000000) (disch := omega) only [go_sem, ↓reduceIte, Nat.reduceEqDiff, Nat.reduceAdd, Nat.reduceMul, Nat.reduceSub, Int.reduceToNat, Int.reduceAdd, Int.reduceSub, Int.reduceMul, Int.reduceNeg] | with_reducible refine vIf_t ?_ | with_reducible refine vIf_f ?_)); refine vCall_eq (h1) (by simp (disch := omega) only [go_sem, Nat.reduceAdd]) rfl (by first | exact Or.inl rfl | exact Or.inr ⟨rfl, rfl⟩ | (apply Or.inr; simp only [go_sem])) ?_; (repeat (first | simp (maxSteps := 2000000) (disch := omega) only [go_sem, ↓reduceIte, Nat.reduceEqDiff, Nat.reduceAdd, Nat.reduceMul, Nat.reduceSub, Int.reduceToNat, Int.reduceAdd, Int.reduceSub, Int.reduceMul, Int.reduceNeg] | with_reducible refine vIf_t ?_ | with_reducible refine vIf_f ?_)))
  (refine vCallX_of ?_; (repeat (first | simp (maxSteps := 2000000) (disch := omega) only [go_sem, ↓reduceIte, Nat.reduceEqDiff, Nat.reduceAdd, Nat.reduceMul, Nat.reduceSub, Int.reduceToNat, Int.reduceAdd, Int.reduceSub, Int.reduceMul, Int.reduceNeg] | with_reducible refine vIf_t ?_ | with_reducible refine vIf_f ?_)); refine vCall_eq (h2) (by simp (disch := omega) only [go_sem, Nat.reduceAdd]) rfl (by first | exact Or.inl rfl | exact Or.inr ⟨rfl, rfl⟩ | (apply Or.inr; simp only [go_sem])) ?_; (repeat (first | simp (maxSteps := 2000000) (disch := omega) only [go_sem, ↓reduceIte, Nat.reduceEqDiff, Nat.reduceAdd, Nat.reduceMul, Nat.reduceSub, Int.reduceToNat, Int.reduceAdd, Int.reduceSub, Int.reduceMul, Int.reduceNeg] | with_reducible refine vIf_t ?_ | with_reducible refine vIf_f ?_)))
  (try (repeat (first | simp (maxSteps := 2000000) (disch := omega) only [go_sem, ↓reduceIte, Nat.reduceEqDiff, Nat.reduceAdd, Nat.reduceMul, Nat.reduceSub, Int.reduceToNat, Int.reduceAdd, Int.reduceSub, Int.reduceMul, Int.reduceNeg, c1, c2, c3] | with_reducible refine vIf_t ?_ | with_reducible refine vIf_f ?_)))
  (refine retK_of ?_; (repeat (first | simp (maxSteps := 2000000) (disch := omega) only [go_sem, ↓reduceIte, Nat.reduceEqDiff, Nat.reduceAdd, Nat.reduceMul, Nat.reduceSub, Int.reduceToNat, Int.reduceAdd, Int.reduceSub, Int.reduceMul, Int.reduceNeg] | with_reducible refine vIf_t ?_ | with_reducible refine vIf_f ?_)))
theorem allMl_snoc (q : Ml → Bool) (xs : List Ml) (k : Nat) (h : k < xs.length) (he : (xs.take k).all q = true) (hq : q (gMl xs k) = true) : (xs.take (k + 1)).all q = true := by
  rw [gMl_take_succ xs k h, List.all_append, he]; simp [hq]
theorem allMl_no (q : Ml → Bool) (xs : List Ml) (k : Nat) (h : k < xs.length) (hq : q (gMl xs k) = false) : xs.all q = false := by
  rw [List.all_eq_false]
  exact ⟨gMl xs k, gMl_mem xs k h, by simp [hq]⟩
theorem allMl_ok (f : FuncId) (caps : List V) (q : Ml → Bool) (xs : List Ml) (hf : ∀ x ∈ xs, ACalls Tryd.prog f (.agg x.cells :: caps) [] (fun r o => r = B (q x) ∧ o = [])) (hc : V.norefL caps = true) (hl : xs.length ≤ 10000000) :
    ACalls Tryd.prog 119 [.sl xs.length (cMl xs), .fn f caps] [] (fun r o => r = B (xs.all q) ∧ o = []) := by
  refine ACalls.of_vc Tryd.func119 rfl (by decide) 18 rfl [.tmp 4] rfl (by simp) ?_
  (repeat (first | simp (maxSteps := 2000000) (disch := omega) only [go_sem, ↓reduceIte, Nat.reduceEqDiff, Nat.reduceAdd, Nat.reduceMul, Nat.reduceSub, Int.reduceToNat, Int.reduceAdd, Int.reduceSub, Int.reduceMul, Int.reduceNeg] | with_reducible refine vIf_t ?_ | with_reducible refine vIf_f ?_))
  refine vcLoop_inv (fun k : Nat => k ≤ xs.length ∧ (xs.take k).all q = true) (fun k => ⟨18, 0, [(9, I k), (8, I xs.length), (7, .sl xs.length (cMl xs)), (1, .fn f caps)], []⟩) (fun k => xs.length - k) 0 (by simp) (by (repeat (first | simp (maxSteps := 2000000) (disch := omega) only [go_sem, ↓reduceIte, Nat.reduceEqDiff, Nat.reduceAdd, Nat.reduceMul, Nat.reduceSub, Int.reduceToNat, Int.reduceAdd, Int.reduceSub, Int.reduceMul, Int.reduceNeg, killL_noref _ _ hc] | with_reducible refine vIf_t ?_ | with_reducible refine vIf_f ?_)); all_goals (try simp)) ?_
  intro k ⟨hk, he⟩
  (repeat (first | simp (maxSteps := 2000000) (disch := omega) only [go_sem, ↓reduceIte, Nat.reduceEqDiff, Nat.reduceAdd, Nat.reduceMul, Nat.reduceSub, Int.reduceToNat, Int.reduceAdd, Int.reduceSub, Int.reduceMul, Int.reduceNeg] | with_reducible refine vIf_t ?_ | with_reducible refine vIf_f ?_))
  refine vIf_dec (fun h => ?_) (fun h => ?_)
  · have hq := hf (gMl xs k) (gMl_mem xs k (by omega))
    unfold Ml.cells at hq
    (repeat (first | simp (maxSteps := 2000000) (disch := omega) only [go_sem, ↓reduceIte, Nat.reduceEqDiff, Nat.reduceAdd, Nat.reduceMul, Nat.reduceSub, Int.reduceToNat, Int.reduceAdd, Int.reduceSub, Int.reduceMul, Int.reduceNeg] | with_reducible refine vIf_t ?_ | with_reducible refine vIf_f ?_))
    refine vCallX_of ?_
    (repeat (first | simp (maxSteps := 2000000) (disch := omega) only [go_sem, ↓reduceIte, Nat.reduceEqDiff, Nat.reduceAdd, Nat.reduceMul, Nat.reduceSub, Int.reduceToNat, Int.reduceAdd, Int.reduceSub, Int.reduceMul, Int.reduceNeg] | with_reducible refine vIf_t ?_ | with_reducible refine vIf_f ?_))
    refine vCall_eq hq (by (repeat (first | simp (maxSteps := 2000000) (disch := omega) only [go_sem, ↓reduceIte, Nat.reduceEqDiff, Nat.reduceAdd, Nat.reduceMul, Nat.reduceSub, Int.reduceToNat, Int.reduceAdd, Int.reduceSub, Int.reduceMul, Int.reduceNeg, frzL_noref _ _ hc] | with_reducible refine vIf_t ?_ | with_reducible refine vIf_f ?_))) (by (repeat (first | simp (maxSteps := 2000000) (disch := omega) only [go_sem, ↓reduceIte, Nat.reduceEqDiff, Nat.reduceAdd, Nat.reduceMul, Nat.reduceSub, Int.reduceToNat, Int.reduceAdd, Int.reduceSub, Int.reduceMul, Int.reduceNeg, hc] | with_reducible refine vIf_t ?_ | with_reducible refine vIf_f ?_))) (Or.inl (by (repeat (first | simp (maxSteps := 2000000) (disch := omega) only [go_sem, ↓reduceIte, Nat.reduceEqDiff, Nat.reduceAdd, Nat.reduceMul, Nat.reduceSub, Int.reduceToNat, Int.reduceAdd, Int.reduceSub, Int.reduceMul, Int.reduceNeg, hc] | with_reducible refine vIf_t ?_ | with_reducible refine vIf_f ?_)))) ?_
    (repeat (first | simp (maxSteps := 2000000) (disch := omega) only [go_sem, ↓reduceIte, Nat.reduceEqDiff, Nat.reduceAdd, Nat.reduceMul, Nat.reduceSub, Int.reduceToNat, Int.reduceAdd, Int.reduceSub, Int.reduceMul, Int.reduceNeg] | with_reducible refine vIf_t ?_ | with_reducible refine vIf_f ?_))
    refine vIf_not (fun h3 => ?_) (fun h3 => ?_)
    · (repeat (first | simp (maxSteps := 2000000) (disch := omega) only [go_sem, ↓reduceIte, Nat.reduceEqDiff, Nat.reduceAdd, Nat.reduceMul, Nat.reduceSub, Int.reduceToNat, Int.reduceAdd, Int.reduceSub, Int.reduceMul, Int.reduceNeg] | with_reducible refine vIf_t ?_ | with_reducible refine vIf_f ?_))
      (refine retK_of ?_; (repeat (first | simp (maxSteps := 2000000) (disch := omega) only [go_sem, ↓reduceIte, Nat.reduceEqDiff, Nat.reduceAdd, Nat.reduceMul, Nat.reduceSub, Int.reduceToNat, Int.reduceAdd, Int.reduceSub, Int.reduceMul, Int.reduceNeg] | with_reducible refine vIf_t ?_ | with_reducible refine vIf_f ?_)))
      rw [allMl_no q xs k (by omega) h3]
    · (repeat (first | simp (maxSteps := 2000000) (disch := omega) only [go_sem, ↓reduceIte, Nat.reduceEqDiff, Nat.reduceAdd, Nat.reduceMul, Nat.reduceSub, Int.reduceToNat, Int.reduceAdd, Int.reduceSub, Int.reduceMul, Int.reduceNeg] | with_reducible refine vIf_t ?_ | with_reducible refine vIf_f ?_))
      refine again (k + 1) ⟨by omega, allMl_snoc q xs k (by omega) he h3⟩ (by omega) ?_
      (repeat (first | simp (maxSteps := 2000000) (disch := omega) only [go_sem, ↓reduceIte, Nat.reduceEqDiff, Nat.reduceAdd, Nat.reduceMul, Nat.reduceSub, Int.reduceToNat, Int.reduceAdd, Int.reduceSub, Int.reduceMul, Int.reduceNeg, killL_noref _ _ hc] | with_reducible refine vIf_t ?_ | with_reducible refine vIf_f ?_))
  · (repeat (first | simp (maxSteps := 2000000) (disch := omega) only [go_sem, ↓reduceIte, Nat.reduceEqDiff, Nat.reduceAdd, Nat.reduceMul, Nat.reduceSub, Int.reduceToNat, Int.reduceAdd, Int.reduceSub, Int.reduceMul, Int.reduceNeg] | with_reducible refine vIf_t ?_ | with_reducible refine vIf_f ?_))
    (refine retK_of ?_; (repeat (first | simp (maxSteps := 2000000) (disch := omega) only [go_sem, ↓reduceIte, Nat.reduceEqDiff, Nat.reduceAdd, Nat.reduceMul, Nat.reduceSub, Int.reduceToNat, Int.reduceAdd, Int.reduceSub, Int.reduceMul, Int.reduceNeg] | with_reducible refine vIf_t ?_ | with_reducible refine vIf_f ?_)))
    rw [List.take_of_length_le (by omega)] at he
    simp [he]
theorem allRMl_snoc (p : List Ml → Bool) (xs : List (List Ml)) (k : Nat) (h : k < xs.length) (he : (xs.take k).all p = true) (hq : p (qMl xs k) = true) : (xs.take (k + 1)).all p = true := by
  rw [qMl_take_succ xs k h, List.all_append, he]; simp [hq]
theorem allRMl_no (p : List Ml → Bool) (xs : List (List Ml)) (k : Nat) (h : k < xs.length) (hq : p (qMl xs k) = false) : xs.all p = false := by
  rw [List.all_eq_false]
  exact ⟨qMl xs k, qMl_mem xs k h, by simp [hq]⟩
theorem allRMl_ok (f : FuncId) (caps : List V) (p : List Ml → Bool) (xs : List (List Ml)) (hf : ∀ x ∈ xs, ACalls Tryd.prog f (.sl x.length (cMl x) :: caps) [] (fun r o => r = B (p x) ∧ o = [])) (hc : V.norefL caps = true) (hl : xs.length ≤ 10000000) :
    ACalls Tryd.prog 109 [.sl xs.length (rMl xs), .fn f caps] [] (fun r o => r = B (xs.all p) ∧ o = []) := by
  refine ACalls.of_vc Tryd.func109 rfl (by decide) 18 rfl [.tmp 4] rfl (by simp) ?_
  (repeat (first | simp (maxSteps := 2000000) (disch := omega) only [go_sem, ↓reduceIte, Nat.reduceEqDiff, Nat.reduceAdd, Nat.reduceMul, Nat.reduceSub, Int.reduceToNat, Int.reduceAdd, Int.reduceSub, Int.reduceMul, Int.reduceNeg] | with_reducible refine vIf_t ?_ | with_reducible refine vIf_f ?_))
  refine vcLoop_inv (fun k : Nat => k ≤ xs.length ∧ (xs.take k).all p = true) (fun k => ⟨18, 0, [(9, I k), (8, I xs.length), (7, .sl xs.length (rMl xs)), (1, .fn f caps)], []⟩) (fun k => xs.length - k) 0 (by simp) (by (repeat (first | simp (maxSteps := 2000000) (disch := omega) only [go_sem, ↓reduceIte, Nat.reduceEqDiff, Nat.reduceAdd, Nat.reduceMul, Nat.reduceSub, Int.reduceToNat, Int.reduceAdd, Int.reduceSub, Int.reduceMul, Int.reduceNeg, killL_noref _ _ hc] | with_reducible refine vIf_t ?_ | with_reducible refine vIf_f ?_)); all_goals (try simp)) ?_
  intro k ⟨hk, he⟩
  (repeat (first | simp (maxSteps := 2000000) (disch := omega) only [go_sem, ↓reduceIte, Nat.reduceEqDiff, Nat.reduceAdd, Nat.reduceMul, Nat.reduceSub, Int.reduceToNat, Int.reduceAdd, Int.reduceSub, Int.reduceMul, Int.reduceNeg] | with_reducible refine vIf_t ?_ | with_reducible refine vIf_f ?_))
  refine vIf_dec (fun h => ?_) (fun h => ?_)
  · have hq := hf (qMl xs k) (qMl_mem xs k (by omega))
    (repeat (first | simp (maxSteps := 2000000) (disch := omega) only [go_sem, ↓reduceIte, Nat.reduceEqDiff, Nat.reduceAdd, Nat.reduceMul, Nat.reduceSub, Int.reduceToNat, Int.reduceAdd, Int.reduceSub, Int.reduceMul, Int.reduceNeg] | with_reducible refine vIf_t ?_ | with_reducible refine vIf_f ?_))
    refine vCallX_of ?_
    (repeat (first | simp (maxSteps := 2000000) (disch := omega) only [go_sem, ↓reduceIte, Nat.reduceEqDiff, Nat.reduceAdd, Nat.reduceMul, Nat.reduceSub, Int.reduceToNat, Int.reduceAdd, Int.reduceSub, Int.reduceMul, Int.reduceNeg] | with_reducible refine vIf_t ?_ | with_reducible refine vIf_f ?_))
    refine vCall_eq hq (by (repeat (first | simp (maxSteps := 2000000) (disch := omega) only [go_sem, ↓reduceIte, Nat.reduceEqDiff, Nat.reduceAdd, Nat.reduceMul, Nat.reduceSub, Int.reduceToNat, Int.reduceAdd, Int.reduceSub, Int.reduceMul, Int.reduceNeg, frzL_noref _ _ hc] | with_reducible refine vIf_t ?_ | with_reducible refine vIf_f ?_))) (by (repeat (first | simp (maxSteps := 2000000) (disch := omega) only [go_sem, ↓reduceIte, Nat.reduceEqDiff, Nat.reduceAdd, Nat.reduceMul, Nat.reduceSub, Int.reduceToNat, Int.reduceAdd, Int.reduceSub, Int.reduceMul, Int.reduceNeg, hc] | with_reducible refine vIf_t ?_ | with_reducible refine vIf_f ?_))) (Or.inl (by (repeat (first | simp (maxSteps := 2000000) (disch := omega) only [go_sem, ↓reduceIte, Nat.reduceEqDiff, Nat.reduceAdd, Nat.reduceMul, Nat.reduceSub, Int.reduceToNat, Int.reduceAdd, Int.reduceSub, Int.reduceMul, Int.reduceNeg, hc] | with_reducible refine vIf_t ?_ | with_reducible refine vIf_f ?_)))) ?_
    (repeat (first | simp (maxSteps := 2000000) (disch := omega) only [go_sem, ↓reduceIte, Nat.reduceEqDiff, Nat.reduceAdd, Nat.reduceMul, Nat.reduceSub, Int.reduceToNat, Int.reduceAdd, Int.reduceSub, Int.reduceMul, Int.reduceNeg] | with_reducible refine vIf_t ?_ | with_reducible refine vIf_f ?_))
    refine vIf_not (fun h3 => ?_) (fun h3 => ?_)
    · (repeat (first | simp (maxSteps := 2000000) (disch := omega) only [go_sem, ↓reduceIte, Nat.reduceEqDiff, Nat.reduceAdd, Nat.reduceMul, Nat.reduceSub, Int.reduceToNat, Int.reduceAdd, Int.reduceSub, Int.reduceMul, Int.reduceNeg] | with_reducible refine vIf_t ?_ | with_reducible refine vIf_f ?_))
      (refine retK_of ?_; (repeat (first | simp (maxSteps := 2000000) (disch := omega) only [go_sem, ↓reduceIte, Nat.reduceEqDiff, Nat.reduceAdd, Nat.reduceMul, Nat.reduceSub, Int.reduceToNat, Int.reduceAdd, Int.reduceSub, Int.reduceMul, Int.reduceNeg] | with_reducible refine vIf_t ?_ | with_reducible refine vIf_f ?_)))
      rw [allRMl_no p xs k (by omega) h3]
    · (repeat (first | simp (maxSteps := 2000000) (disch := omega) only [go_sem, ↓reduceIte, Nat.reduceEqDiff, Nat.reduceAdd, Nat.reduceMul, Nat.reduceSub, Int.reduceToNat, Int.reduceAdd, Int.reduceSub, Int.reduceMul, Int.reduceNeg] | with_reducible refine vIf_t ?_ | with_reducible refine vIf_f ?_))
      refine again (k + 1) ⟨by omega, allRMl_snoc p xs k (by omega) he h3⟩ (by omega) ?_
      (repeat (first | simp (maxSteps := 2000000) (disch := omega) only [go_sem, ↓reduceIte, Nat.reduceEqDiff, Nat.reduceAdd, Nat.reduceMul, Nat.reduceSub, Int.reduceToNat, Int.reduceAdd, Int.reduceSub, Int.reduceMul, Int.reduceNeg, killL_noref _ _ hc] | with_reducible refine vIf_t ?_ | with_reducible refine vIf_f ?_))
  · (repeat (first | simp (maxSteps := 2000000) (disch := omega) only [go_sem, ↓reduceIte, Nat.reduceEqDiff, Nat.reduceAdd, Nat.reduceMul, Nat.reduceSub, Int.reduceToNat, Int.reduceAdd, Int.reduceSub, Int.reduceMul, Int.reduceNeg] | with_reducible refine vIf_t ?_ | with_reducible refine vIf_f ?_))
    (refine retK_of ?_; (repeat (first | simp (maxSteps := 2000000) (disch := omega) only [go_sem, ↓reduceIte, Nat.reduceEqDiff, Nat.reduceAdd, Nat.reduceMul, Nat.reduceSub, Int.reduceToNat, Int.reduceAdd, Int.reduceSub, Int.reduceMul, Int.reduceNeg] | with_reducible refine vIf_t ?_ | with_reducible refine vIf_f ?_)))
    rw [List.take_of_length_le (by omega)] at he
    simp [he]
theorem szMl_ok (xs : List V) (n : Nat) : ACalls Tryd.prog 118 [.sl n xs] [] (fun r o => r = I n ∧ o = []) := by
  refine ACalls.of_vc Tryd.func118 rfl (by decide) 5 rfl [.tmp 2] rfl (by simp) ?_
  (repeat (first | simp (maxSteps := 2000000) (disch := omega) only [go_sem, ↓reduceIte, Nat.reduceEqDiff, Nat.reduceAdd, Nat.reduceMul, Nat.reduceSub, Int.reduceToNat, Int.reduceAdd, Int.reduceSub, Int.reduceMul, Int.reduceNeg] | with_reducible refine vIf_t ?_ | with_reducible refine vIf_f ?_))
  (refine retK_of ?_; (repeat (first | simp (maxSteps := 2000000) (disch := omega) only [go_sem, ↓reduceIte, Nat.reduceEqDiff, Nat.reduceAdd, Nat.reduceMul, Nat.reduceSub, Int.reduceToNat, Int.reduceAdd, Int.reduceSub, Int.reduceMul, Int.reduceNeg] | with_reducible refine vIf_t ?_ | with_reducible refine vIf_f ?_)))
theorem szRMl_ok (xs : List V) (n : Nat) : ACalls Tryd.prog 108 [.sl n xs] [] (fun r o => r = I n ∧ o = []) := by
  refine ACalls.of_vc Tryd.func108 rfl (by decide) 5 rfl [.tmp 2] rfl (by simp) ?_
  (repeat (first | simp (maxSteps := 2000000) (disch := omega) only [go_sem, ↓reduceIte, Nat.reduceEqDiff, Nat.reduceAdd, Nat.reduceMul, Nat.reduceSub, Int.reduceToNat, Int.reduceAdd, Int.reduceSub, Int.reduceMul, Int.reduceNeg] | with_reducible refine vIf_t ?_ | with_reducible refine vIf_f ?_))
  (refine retK_of ?_; (repeat (first | simp (maxSteps := 2000000) (disch := omega) only [go_sem, ↓reduceIte, Nat.reduceEqDiff, Nat.reduceAdd, Nat.reduceMul, Nat.reduceSub, Int.reduceToNat, Int.reduceAdd, Int.reduceSub, Int.reduceMul, Int.reduceNeg] | with_reducible refine vIf_t ?_ | with_reducible refine vIf_f ?_)))
theorem areMills_ok (ms : List Ml) (X : MlX ms) : ACalls Tryd.prog 110 [.sl ms.length (cMl ms)] [] (fun r o => r = B true ∧ o = []) := by
  refine ACalls.of_vc Tryd.func110 rfl (by decide) 10 rfl [.tmp 2] rfl (by simp) ?_
  have n := X.n
  have ha := allMl_ok 82 [] (fun _ => true) ms (fun x hx => validMill_ok x (by
    obtain ⟨i, hi, rfl⟩ := List.mem_iff_getElem.1 hx
    have := X.e i hi
    rwa [gMl_lt ms i hi] at this)) rfl (by omega)
  rw [show ms.all (fun _ => true) = true from List.all_eq_true.2 fun _ _ => rfl] at ha
  have h1 := in_ok ms.length 1 8
  rw [decide_eq_true (by omega)] at h1
  (repeat (first | simp (maxSteps := 2000000) (disch := omega) only [go_sem, ↓reduceIte, Nat.reduceEqDiff, Nat.reduceAdd, Nat.reduceMul, Nat.reduceSub, Int.reduceToNat, Int.reduceAdd, Int.reduceSub, Int.reduceMul, Int.reduceNeg] | with_reducible refine vIf_t ?_ | with_reducible refine vIf_f ?_))
  (refine vCallX_of ?_; (repeat (first | simp (maxSteps := 2000000) (disch := omega) only [go_sem, ↓reduceIte, Nat.reduceEqDiff, Nat.reduceAdd, Nat.reduceMul, Nat.reduceSub, Int.reduceToNat, Int.reduceAdd, Int.reduceSub, Int.reduceMul, Int.reduceNeg] | with_reducible refine vIf_t ?_ | with_reducible refine vIf_f ?_)); refine vCall_eq (szMl_ok (cMl ms) ms.length) (by simp (disch := omega) only [go_sem, Nat.reduceAdd]) rfl (by first | exact Or.inl rfl | exact Or.inr ⟨rfl, rfl⟩ | (apply Or.inr; simp only [go_sem])) ?_; (repeat (first | simp (maxSteps := 2000000) (disch := omega) only [go_sem, ↓reduceIte, Nat.reduceEqDiff, Nat.reduceAdd, Nat.reduceMul, Nat.reduceSub, Int.reduceToNat, Int.reduceAdd, Int.reduceSub, Int.reduceMul, Int.reduceNeg] | with_reducible refine vIf_t ?_ | with_reducible refine vIf_f ?_)))
  (refine vCallX_of ?_; (repeat (first | simp (maxSteps := 2000000) (disch := omega) only [go_sem, ↓reduceIte, Nat.reduceEqDiff, Nat.reduceAdd, Nat.reduceMul, Nat.reduceSub, Int.reduceToNat, Int.reduceAdd, Int.reduceSub, Int.reduceMul, Int.reduceNeg] | with_reducible refine vIf_t ?_ | with_reducible refine vIf_f ?_)); refine vCall_eq (h1) (by simp (disch := omega) only [go_sem, Nat.reduceAdd]) rfl (by first | exact Or.inl rfl | exact Or.inr ⟨rfl, rfl⟩ | (apply Or.inr; simp only [go_sem])) ?_; (repeat (first | simp (maxSteps := 2000000) (disch := omega) only [go_sem, ↓reduceIte, Nat.reduceEqDiff, Nat.reduceAdd, Nat.reduceMul, Nat.reduceSub, Int.reduceToNat, Int.reduceAdd, Int.reduceSub, Int.reduceMul, Int.reduceNeg] | with_reducible refine vIf_t ?_ | with_reducible refine vIf_f ?_)))
  (refine vCallX_of ?_; (repeat (first | simp (maxSteps := 2000000) (disch := omega) only [go_sem, ↓reduceIte, Nat.reduceEqDiff, Nat.reduceAdd, Nat.reduceMul, Nat.reduceSub, Int.reduceToNat, Int.reduceAdd, Int.reduceSub, Int.reduceMul, Int.reduceNeg] | with_reducible refine vIf_t ?_ | with_reducible refine vIf_f ?_)); refine vCall_eq (ha) (by simp (disch := omega) only [go_sem, Nat.reduceAdd]) rfl (by first | exact Or.inl rfl | exact Or.inr ⟨rfl, rfl⟩ | (apply Or.inr; simp only [go_sem])) ?_; (repeat (first | simp (maxSteps := 2000000) (disch := omega) only [go_sem, ↓reduceIte, Nat.reduceEqDiff, Nat.reduceAdd, Nat.reduceMul, Nat.reduceSub, Int.reduceToNat, Int.reduceAdd, Int.reduceSub, Int.reduceMul, Int.reduceNeg] | with_reducible refine vIf_t ?_ | with_reducible refine vIf_f ?_)))
  (refine retK_of ?_; (repeat (first | simp (maxSteps := 2000000) (disch := omega) only [go_sem, ↓reduceIte, Nat.reduceEqDiff, Nat.reduceAdd, Nat.reduceMul, Nat.reduceSub, Int.reduceToNat, Int.reduceAdd, Int.reduceSub, Int.reduceMul, Int.reduceNeg] | with_reducible refine vIf_t ?_ | with_reducible refine vIf_f ?_)))
theorem validStages_ok (xs : List (List Ml)) (X : StX xs) : ACalls Tryd.prog 81 [.sl xs.length (rMl xs)] [] (fun r o => r = B true ∧ o = []) := by
  refine ACalls.of_vc Tryd.func81 rfl (by decide) 10 rfl [.tmp 2] rfl (by simp) ?_
  have n := X.n
  have ha := allRMl_ok 110 [] (fun _ => true) xs (fun x hx => areMills_ok x (by
    obtain ⟨i, hi, rfl⟩ := List.mem_iff_getElem.1 hx
    have := X.e i hi
    rwa [qMl_lt xs i hi] at this)) rfl (by omega)
  rw [show xs.all (fun _ => true) = true from List.all_eq_true.2 fun _ _ => rfl] at ha
  have h1 := in_ok xs.length 1 4
  rw [decide_eq_true (by omega)] at h1
  (repeat (first | simp (maxSteps := 2000000) (disch := omega) only [go_sem, ↓reduceIte, Nat.reduceEqDiff, Nat.reduceAdd, Nat.reduceMul, Nat.reduceSub, Int.reduceToNat, Int.reduceAdd, Int.reduceSub, Int.reduceMul, Int.reduceNeg] | with_reducible refine vIf_t ?_ | with_reducible refine vIf_f ?_))
  (refine vCallX_of ?_; (repeat (first | simp (maxSteps := 2000000) (disch := omega) only [go_sem, ↓reduceIte, Nat.reduceEqDiff, Nat.reduceAdd, Nat.reduceMul, Nat.reduceSub, Int.reduceToNat, Int.reduceAdd, Int.reduceSub, Int.reduceMul, Int.reduceNeg] | with_reducible refine vIf_t ?_ | with_reducible refine vIf_f ?_)); refine vCall_eq (szRMl_ok (rMl xs) xs.length) (by simp (disch := omega) only [go_sem, Nat.reduceAdd]) rfl (by first | exact Or.inl rfl | exact Or.inr ⟨rfl, rfl⟩ | (apply Or.inr; simp only [go_sem])) ?_; (repeat (first | simp (maxSteps := 2000000) (disch := omega) only [go_sem, ↓reduceIte, Nat.reduceEqDiff, Nat.reduceAdd, Nat.reduceMul, Nat.reduceSub, Int.reduceToNat, Int.reduceAdd, Int.reduceSub, Int.reduceMul, Int.reduceNeg] | with_reducible refine vIf_t ?_ | with_reducible refine vIf_f ?_)))
  (refine vCallX_of ?_; (repeat (first | simp (maxSteps := 2000000) (disch := omega) only [go_sem, ↓reduceIte, Nat.reduceEqDiff, Nat.reduceAdd, Nat.reduceMul, Nat.reduceSub, Int.reduceToNat, Int.reduceAdd, Int.reduceSub, Int.reduceMul, Int.reduceNeg] | with_reducible refine vIf_t ?_ | with_reducible refine vIf_f ?_)); refine vCall_eq (h1) (by simp (disch := omega) only [go_sem, Nat.reduceAdd]) rfl (by first | exact Or.inl rfl | exact Or.inr ⟨rfl, rfl⟩ | (apply Or.inr; simp only [go_sem])) ?_; (repeat (first | simp (maxSteps := 2000000) (disch := omega) only [go_sem, ↓reduceIte, Nat.reduceEqDiff, Nat.reduceAdd, Nat.reduceMul, Nat.reduceSub, Int.reduceToNat, Int.reduceAdd, Int.reduceSub, Int.reduceMul, Int.reduceNeg] | with_reducible refine vIf_t ?_ | with_reducible refine vIf_f ?_)))
  (refine vCallX_of ?_; (repeat (first | simp (maxSteps := 2000000) (disch := omega) only [go_sem, ↓reduceIte, Nat.reduceEqDiff, Nat.reduceAdd, Nat.reduceMul, Nat.reduceSub, Int.reduceToNat, Int.reduceAdd, Int.reduceSub, Int.reduceMul, Int.reduceNeg] | with_reducible refine vIf_t ?_ | with_reducible refine vIf_f ?_)); refine vCall_eq (ha) (by simp (disch := omega) only [go_sem, Nat.reduceAdd]) rfl (by first | exact Or.inl rfl | exact Or.inr ⟨rfl, rfl⟩ | (apply Or.inr; simp only [go_sem])) ?_; (repeat (first | simp (maxSteps := 2000000) (disch := omega) only [go_sem, ↓reduceIte, Nat.reduceEqDiff, Nat.reduceAdd, Nat.reduceMul, Nat.reduceSub, Int.reduceToNat, Int.reduceAdd, Int.reduceSub, Int.reduceMul, Int.reduceNeg] | with_reducible refine vIf_t ?_ | with_reducible refine vIf_f ?_)))
  (refine retK_of ?_; (repeat (first | simp (maxSteps := 2000000) (disch := omega) only [go_sem, ↓reduceIte, Nat.reduceEqDiff, Nat.reduceAdd, Nat.reduceMul, Nat.reduceSub, Int.reduceToNat, Int.reduceAdd, Int.reduceSub, Int.reduceMul, Int.reduceNeg] | with_reducible refine vIf_t ?_ | with_reducible refine vIf_f ?_)))
theorem isForce_ok (n : Int) : ACalls Tryd.prog 83 [I n] [] (fun r o => r = B (decide (0 ≤ n ∧ n ≤ 12)) ∧ o = []) := by
  refine ACalls.of_vc Tryd.func83 rfl (by decide) 5 rfl [.tmp 2] rfl (by simp) ?_
  (repeat (first | simp (maxSteps := 2000000) (disch := omega) only [go_sem, ↓reduceIte, Nat.reduceEqDiff, Nat.reduceAdd, Nat.reduceMul, Nat.reduceSub, Int.reduceToNat, Int.reduceAdd, Int.reduceSub, Int.reduceMul, Int.reduceNeg] | with_reducible refine vIf_t ?_ | with_reducible refine vIf_f ?_))
  (refine vCallX_of ?_; (repeat (first | simp (maxSteps := 2000000) (disch := omega) only [go_sem, ↓reduceIte, Nat.reduceEqDiff, Nat.reduceAdd, Nat.reduceMul, Nat.reduceSub, Int.reduceToNat, Int.reduceAdd, Int.reduceSub, Int.reduceMul, Int.reduceNeg] | with_reducible refine vIf_t ?_ | with_reducible refine vIf_f ?_)); refine vCall_eq (in_ok n 0 12) (by simp (disch := omega) only [go_sem, Nat.reduceAdd]) rfl (by first | exact Or.inl rfl | exact Or.inr ⟨rfl, rfl⟩ | (apply Or.inr; simp only [go_sem])) ?_; (repeat (first | simp (maxSteps := 2000000) (disch := omega) only [go_sem, ↓reduceIte, Nat.reduceEqDiff, Nat.reduceAdd, Nat.reduceMul, Nat.reduceSub, Int.reduceToNat, Int.reduceAdd, Int.reduceSub, Int.reduceMul, Int.reduceNeg] | with_reducible refine vIf_t ?_ | with_reducible refine vIf_f ?_)))
  (refine retK_of ?_; (repeat (first | simp (maxSteps := 2000000) (disch := omega) only [go_sem, ↓reduceIte, Nat.reduceEqDiff, Nat.reduceAdd, Nat.reduceMul, Nat.reduceSub, Int.reduceToNat, Int.reduceAdd, Int.reduceSub, Int.reduceMul, Int.reduceNeg] | with_reducible refine vIf_t ?_ | with_reducible refine vIf_f ?_)))
/-- what a mill lifts -/
def rtM (m : Ml) (f : Int) : Int := if m.lo ≤ f ∧ f ≤ m.hi then m.rate * (f - m.lo + 1) / (m.hi - m.lo + 1) else 0
theorem rtM_bd {m : Ml} (h : OkM m) (f : Int) : 0 ≤ rtM m f ∧ rtM m f ≤ m.rate ∧ (f = m.hi → rtM m f = m.rate) ∧ (¬ (m.lo ≤ f ∧ f ≤ m.hi) → rtM m f = 0) := by
  obtain ⟨l, r, w⟩ := h
  unfold rtM
  by_cases c : m.lo ≤ f ∧ f ≤ m.hi
  · rw [if_pos c]
    have d : 0 < m.hi - m.lo + 1 := by omega
    have m1 : 0 ≤ m.rate * (f - m.lo + 1) := Int.mul_nonneg (by omega) (by omega)
    have m2 : m.rate * (f - m.lo + 1) ≤ m.rate * (m.hi - m.lo + 1) := Int.mul_le_mul_of_nonneg_left (by omega) (by omega)
    refine ⟨Int.ediv_nonneg m1 (by omega), ?_, fun e => ?_, fun e => absurd c e⟩
    · have := Int.ediv_le_ediv d m2
      rwa [Int.mul_ediv_cancel _ (by omega)] at this
    · rw [e, Int.mul_ediv_cancel _ (by omega)]
  · rw [if_neg c]
    exact ⟨by omega, by omega, fun e => absurd ⟨by omega, by omega⟩ c, fun _ => rfl⟩
theorem rate_ok (m : Ml) (h : OkM m) (f : Int) (hf : 0 ≤ f ∧ f ≤ 12) : ACalls Tryd.prog 84 [.agg m.cells, I f] [] (fun r o => r = I (rtM m f) ∧ o = []) := by
  refine ACalls.of_vc Tryd.func84 rfl (by decide) 27 rfl [.tmp 4] rfl (by simp) ?_
  obtain ⟨l, r, w⟩ := h
  have h1 := in_ok f m.lo m.hi
  unfold Ml.cells rtM
  by_cases c : m.lo ≤ f ∧ f ≤ m.hi
  · rw [decide_eq_true c] at h1
    rw [if_pos c]
    have m1 : 0 ≤ m.rate * (f - m.lo + 1) := Int.mul_nonneg (by omega) (by omega)
    have m2 : m.rate * (f - m.lo + 1) ≤ 10000 * 12 := Int.mul_le_mul (by omega) (by omega) (by omega) (by omega)
    have ht : (m.rate * (f - m.lo + 1)).tdiv (m.hi - m.lo + 1) = m.rate * (f - m.lo + 1) / (m.hi - m.lo + 1) := Int.tdiv_eq_ediv_of_nonneg m1
    have q1 : 0 ≤ m.rate * (f - m.lo + 1) / (m.hi - m.lo + 1) := Int.ediv_nonneg m1 (by omega)
    have q2 : m.rate * (f - m.lo + 1) / (m.hi - m.lo + 1) ≤ m.rate * (f - m.lo + 1) := Int.ediv_le_self _ m1
    (repeat (first | simp (maxSteps := 2000000) (disch := omega) only [go_sem, ↓reduceIte, Nat.reduceEqDiff, Nat.reduceAdd, Nat.reduceMul, Nat.reduceSub, Int.reduceToNat, Int.reduceAdd, Int.reduceSub, Int.reduceMul, Int.reduceNeg] | with_reducible refine vIf_t ?_ | with_reducible refine vIf_f ?_))
    (refine vCallX_of ?_; (repeat (first | simp (maxSteps := 2000000) (disch := omega) only [go_sem, ↓reduceIte, Nat.reduceEqDiff, Nat.reduceAdd, Nat.reduceMul, Nat.reduceSub, Int.reduceToNat, Int.reduceAdd, Int.reduceSub, Int.reduceMul, Int.reduceNeg] | with_reducible refine vIf_t ?_ | with_reducible refine vIf_f ?_)); refine vCall_eq (h1) (by simp (disch := omega) only [go_sem, Nat.reduceAdd]) rfl (by first | exact Or.inl rfl | exact Or.inr ⟨rfl, rfl⟩ | (apply Or.inr; simp only [go_sem])) ?_; (repeat (first | simp (maxSteps := 2000000) (disch := omega) only [go_sem, ↓reduceIte, Nat.reduceEqDiff, Nat.reduceAdd, Nat.reduceMul, Nat.reduceSub, Int.reduceToNat, Int.reduceAdd, Int.reduceSub, Int.reduceMul, Int.reduceNeg] | with_reducible refine vIf_t ?_ | with_reducible refine vIf_f ?_)))
    (try (repeat (first | simp (maxSteps := 2000000) (disch := omega) only [go_sem, ↓reduceIte, Nat.reduceEqDiff, Nat.reduceAdd, Nat.reduceMul, Nat.reduceSub, Int.reduceToNat, Int.reduceAdd, Int.reduceSub, Int.reduceMul, Int.reduceNeg, ht] | with_reducible refine vIf_t ?_ | with_reducible refine vIf_f ?_)))
    (refine retK_of ?_; (repeat (first | simp (maxSteps := 2000000) (disch := omega) only [go_sem, ↓reduceIte, Nat.reduceEqDiff, Nat.reduceAdd, Nat.reduceMul, Nat.reduceSub, Int.reduceToNat, Int.reduceAdd, Int.reduceSub, Int.reduceMul, Int.reduceNeg] | with_reducible refine vIf_t ?_ | with_reducible refine vIf_f ?_)))
  · rw [decide_eq_false c] at h1
    rw [if_neg c]
    (repeat (first | simp (maxSteps := 2000000) (disch := omega) only [go_sem, ↓reduceIte, Nat.reduceEqDiff, Nat.reduceAdd, Nat.reduceMul, Nat.reduceSub, Int.reduceToNat, Int.reduceAdd, Int.reduceSub, Int.reduceMul, Int.reduceNeg] | with_reducible refine vIf_t ?_ | with_reducible refine vIf_f ?_))
    (refine vCallX_of ?_; (repeat (first | simp (maxSteps := 2000000) (disch := omega) only [go_sem, ↓reduceIte, Nat.reduceEqDiff, Nat.reduceAdd, Nat.reduceMul, Nat.reduceSub, Int.reduceToNat, Int.reduceAdd, Int.reduceSub, Int.reduceMul, Int.reduceNeg] | with_reducible refine vIf_t ?_ | with_reducible refine vIf_f ?_)); refine vCall_eq (h1) (by simp (disch := omega) only [go_sem, Nat.reduceAdd]) rfl (by first | exact Or.inl rfl | exact Or.inr ⟨rfl, rfl⟩ | (apply Or.inr; simp only [go_sem])) ?_; (repeat (first | simp (maxSteps := 2000000) (disch := omega) only [go_sem, ↓reduceIte, Nat.reduceEqDiff, Nat.reduceAdd, Nat.reduceMul, Nat.reduceSub, Int.reduceToNat, Int.reduceAdd, Int.reduceSub, Int.reduceMul, Int.reduceNeg] | with_reducible refine vIf_t ?_ | with_reducible refine vIf_f ?_)))
    (refine retK_of ?_; (repeat (first | simp (maxSteps := 2000000) (disch := omega) only [go_sem, ↓reduceIte, Nat.reduceEqDiff, Nat.reduceAdd, Nat.reduceMul, Nat.reduceSub, Int.reduceToNat, Int.reduceAdd, Int.reduceSub, Int.reduceMul, Int.reduceNeg] | with_reducible refine vIf_t ?_ | with_reducible refine vIf_f ?_)))
theorem millRate_ok (m : Ml) (h : OkM m) (f : Int) (hf : 0 ≤ f ∧ f ≤ 12) : ACalls Tryd.prog 38 [.agg m.cells, I f] [] (fun r o => r = .tup [I (rtM m f), I 0] ∧ o = []) := by
  refine ACalls.of_vc Tryd.func38 rfl (by decide) 17 rfl [.tmp 4, .tmp 5] rfl (by simp) ?_
  have h1 := validMill_ok m h
  have h2 := isForce_ok f
  have h3 := rate_ok m h f hf
  rw [decide_eq_true hf] at h2
  unfold Ml.cells at *
  (repeat (first | simp (maxSteps := 2000000) (disch := omega) only [go_sem, ↓reduceIte, Nat.reduceEqDiff, Nat.reduceAdd, Nat.reduceMul, Nat.reduceSub, Int.reduceToNat, Int.reduceAdd, Int.reduceSub, Int.reduceMul, Int.reduceNeg] | with_reducible refine vIf_t ?_ | with_reducible refine vIf_f ?_))
  (refine vCallX_of ?_; (repeat (first | simp (maxSteps := 2000000) (disch := omega) only [go_sem, ↓reduceIte, Nat.reduceEqDiff, Nat.reduceAdd, Nat.reduceMul, Nat.reduceSub, Int.reduceToNat, Int.reduceAdd, Int.reduceSub, Int.reduceMul, Int.reduceNeg] | with_reducible refine vIf_t ?_ | with_reducible refine vIf_f ?_)); refine vCall_eq (h1) (by simp (disch := omega) only [go_sem, Nat.reduceAdd]) rfl (by first | exact Or.inl rfl | exact Or.inr ⟨rfl, rfl⟩ | (apply Or.inr; simp only [go_sem])) ?_; (repeat (first | simp (maxSteps := 2000000) (disch := omega) only [go_sem, ↓reduceIte, Nat.reduceEqDiff, Nat.reduceAdd, Nat.reduceMul, Nat.reduceSub, Int.reduceToNat, Int.reduceAdd, Int.reduceSub, Int.reduceMul, Int.reduceNeg] | with_reducible refine vIf_t ?_ | with_reducible refine vIf_f ?_)))
  (refine vCallX_of ?_; (repeat (first | simp (maxSteps := 2000000) (disch := omega) only [go_sem, ↓reduceIte, Nat.reduceEqDiff, Nat.reduceAdd, Nat.reduceMul, Nat.reduceSub, Int.reduceToNat, Int.reduceAdd, Int.reduceSub, Int.reduceMul, Int.reduceNeg] | with_reducible refine vIf_t ?_ | with_reducible refine vIf_f ?_)); refine vCall_eq (h2) (by simp (disch := omega) only [go_sem, Nat.reduceAdd]) rfl (by first | exact Or.inl rfl | exact Or.inr ⟨rfl, rfl⟩ | (apply Or.inr; simp only [go_sem])) ?_; (repeat (first | simp (maxSteps := 2000000) (disch := omega) only [go_sem, ↓reduceIte, Nat.reduceEqDiff, Nat.reduceAdd, Nat.reduceMul, Nat.reduceSub, Int.reduceToNat, Int.reduceAdd, Int.reduceSub, Int.reduceMul, Int.reduceNeg] | with_reducible refine vIf_t ?_ | with_reducible refine vIf_f ?_)))
  (refine vCallX_of ?_; (repeat (first | simp (maxSteps := 2000000) (disch := omega) only [go_sem, ↓reduceIte, Nat.reduceEqDiff, Nat.reduceAdd, Nat.reduceMul, Nat.reduceSub, Int.reduceToNat, Int.reduceAdd, Int.reduceSub, Int.reduceMul, Int.reduceNeg] | with_reducible refine vIf_t ?_ | with_reducible refine vIf_f ?_)); refine vCall_eq (h3) (by simp (disch := omega) only [go_sem, Nat.reduceAdd]) rfl (by first | exact Or.inl rfl | exact Or.inr ⟨rfl, rfl⟩ | (apply Or.inr; simp only [go_sem])) ?_; (repeat (first | simp (maxSteps := 2000000) (disch := omega) only [go_sem, ↓reduceIte, Nat.reduceEqDiff, Nat.reduceAdd, Nat.reduceMul, Nat.reduceSub, Int.reduceToNat, Int.reduceAdd, Int.reduceSub, Int.reduceMul, Int.reduceNeg] | with_reducible refine vIf_t ?_ | with_reducible refine vIf_f ?_)))
  (refine retK_of ?_; (repeat (first | simp (maxSteps := 2000000) (disch := omega) only [go_sem, ↓reduceIte, Nat.reduceEqDiff, Nat.reduceAdd, Nat.reduceMul, Nat.reduceSub, Int.reduceToNat, Int.reduceAdd, Int.reduceSub, Int.reduceMul, Int.reduceNeg] | with_reducible refine vIf_t ?_ | with_reducible refine vIf_f ?_)))
/-- the sum of the rates of the first mills -/
def rsK (ms : List Ml) (f : Int) : Nat → Int
  | 0 => 0
  | k + 1 => rsK ms f k + rtM (gMl ms k) f
def rsL (ms : List Ml) (f : Int) : List Int := ms.map fun m => rtM m f
theorem rsK_bd {ms : List Ml} (X : MlX ms) (f : Int) (k : Nat) (h : k ≤ ms.length) : 0 ≤ rsK ms f k ∧ rsK ms f k ≤ 10000 * k := by
  induction k with
  | zero => simp [rsK]
  | succ k ih =>
    have := ih (by omega)
    have hb := rtM_bd (X.e k (by omega)) f
    have hr := (X.e k (by omega)).r
    simp only [rsK]
    omega
/-- the sums of the first stages -/
def stL (xs : List (List Ml)) (f : Int) : List Int := xs.map fun ms => rsK ms f ms.length
theorem stL_len (xs : List (List Ml)) (f : Int) : (stL xs f).length = xs.length := by simp [stL]
theorem stL_get (xs : List (List Ml)) (f : Int) (i : Nat) (h : i < xs.length) : gi (stL xs f) i = rsK (qMl xs i) f (qMl xs i).length := by
  simp [stL, gi, qMl, h]
theorem stL_bd {xs : List (List Ml)} (X : StX xs) (f : Int) (i : Nat) (h : i < xs.length) : 0 ≤ gi (stL xs f) i ∧ gi (stL xs f) i ≤ 80000 := by
  rw [stL_get xs f i h]
  have := rsK_bd (X.e i h) f _ (Nat.le_refl _)
  have := (X.e i h).n
  omega
theorem stL_take (xs : List (List Ml)) (f : Int) (k : Nat) (h : k < xs.length) : (stL xs f).take (k + 1) = (stL xs f).take k ++ [rsK (qMl xs k) f (qMl xs k).length] := by
  rw [take_succ_gi _ _ (by rw [stL_len]; exact h), stL_get xs f k h]
/-- the least of the first numbers -/
def lsK (xs : List Int) : Nat → Int
  | 0 => gi xs 0
  | k + 1 => if gi xs k < lsK xs k then gi xs k else lsK xs k
theorem lsK_le (xs : List Int) (k : Nat) (i : Nat) (h : i < k ∨ i = 0) : lsK xs k ≤ gi xs i := by
  induction k with
  | zero =>
    obtain rfl : i = 0 := by omega
    exact Int.le_refl _
  | succ k ih =>
    simp only [lsK]
    by_cases e : i = k
    · subst e; split <;> omega
    · have := ih (by omega); split <;> omega
theorem lsK_at (xs : List Int) (k : Nat) (hl : 0 < xs.length) (hk : k ≤ xs.length) : ∃ i, i < xs.length ∧ gi xs i = lsK xs k := by
  induction k with
  | zero => exact ⟨0, hl, rfl⟩
  | succ k ih =>
    simp only [lsK]
    split
    · exact ⟨k, by omega, rfl⟩
    · exact ih (by omega)
theorem least_okM (xs : List Int) (hl : 0 < xs.length ∧ xs.length ≤ 10000000) : ACalls Tryd.prog 78 [iS xs] [] (fun r o => r = I (lsK xs xs.length) ∧ o = []) := by
  refine ACalls.of_vc Tryd.func78 rfl (by decide) 20 rfl [.tmp 2] rfl (by simp) ?_
  unfold iS
  (repeat (first | simp (maxSteps := 2000000) (disch := omega) only [go_sem, ↓reduceIte, Nat.reduceEqDiff, Nat.reduceAdd, Nat.reduceMul, Nat.reduceSub, Int.reduceToNat, Int.reduceAdd, Int.reduceSub, Int.reduceMul, Int.reduceNeg] | with_reducible refine vIf_t ?_ | with_reducible refine vIf_f ?_))
  refine vcLoop_invF (fun k : Nat => k ≤ xs.length) (fun k => ⟨20, 0, [(11, I k), (10, I xs.length), (9, .sl xs.length (ints xs)), (3, I (lsK xs k))], []⟩) (fun k => xs.length - k) 0 (by omega) (by rw [show lsK xs 0 = gi xs 0 from rfl]; (first | (refine leF_s ?_; ((repeat (first | simp (maxSteps := 2000000) (disch := omega) only [go_sem, ↓reduceIte, Nat.reduceEqDiff, Nat.reduceAdd, Nat.reduceMul, Nat.reduceSub, Int.reduceToNat, Int.reduceAdd, Int.reduceSub, Int.reduceMul, Int.reduceNeg] | with_reducible refine vIf_t ?_ | with_reducible refine vIf_f ?_)); all_goals (try simp); all_goals (try omega)); done) | (refine leF_p ?_; ((repeat (first | simp (maxSteps := 2000000) (disch := omega) only [go_sem, ↓reduceIte, Nat.reduceEqDiff, Nat.reduceAdd, Nat.reduceMul, Nat.reduceSub, Int.reduceToNat, Int.reduceAdd, Int.reduceSub, Int.reduceMul, Int.reduceNeg] | with_reducible refine vIf_t ?_ | with_reducible refine vIf_f ?_)); all_goals (try simp); all_goals (try omega)); done))) ?_
  intro k hk
  (repeat (first | simp (maxSteps := 2000000) (disch := omega) only [go_sem, ↓reduceIte, Nat.reduceEqDiff, Nat.reduceAdd, Nat.reduceMul, Nat.reduceSub, Int.reduceToNat, Int.reduceAdd, Int.reduceSub, Int.reduceMul, Int.reduceNeg] | with_reducible refine vIf_t ?_ | with_reducible refine vIf_f ?_))
  refine vIf_dec (fun h => ?_) (fun h => ?_)
  · (repeat (first | simp (maxSteps := 2000000) (disch := omega) only [go_sem, ↓reduceIte, Nat.reduceEqDiff, Nat.reduceAdd, Nat.reduceMul, Nat.reduceSub, Int.reduceToNat, Int.reduceAdd, Int.reduceSub, Int.reduceMul, Int.reduceNeg] | with_reducible refine vIf_t ?_ | with_reducible refine vIf_f ?_))
    refine againF (k + 1) (by omega) (by omega) ?_
    simp only [lsK]
    (first | (refine leF_s ?_; ((repeat (first | simp (maxSteps := 2000000) (disch := omega) only [go_sem, ↓reduceIte, Nat.reduceEqDiff, Nat.reduceAdd, Nat.reduceMul, Nat.reduceSub, Int.reduceToNat, Int.reduceAdd, Int.reduceSub, Int.reduceMul, Int.reduceNeg] | with_reducible refine vIf_t ?_ | with_reducible refine vIf_f ?_)); all_goals (try simp); all_goals (try omega)); done) | (refine leF_p ?_; ((repeat (first | simp (maxSteps := 2000000) (disch := omega) only [go_sem, ↓reduceIte, Nat.reduceEqDiff, Nat.reduceAdd, Nat.reduceMul, Nat.reduceSub, Int.reduceToNat, Int.reduceAdd, Int.reduceSub, Int.reduceMul, Int.reduceNeg] | with_reducible refine vIf_t ?_ | with_reducible refine vIf_f ?_)); all_goals (try simp); all_goals (try omega)); done))
  · (repeat (first | simp (maxSteps := 2000000) (disch := omega) only [go_sem, ↓reduceIte, Nat.reduceEqDiff, Nat.reduceAdd, Nat.reduceMul, Nat.reduceSub, Int.reduceToNat, Int.reduceAdd, Int.reduceSub, Int.reduceMul, Int.reduceNeg] | with_reducible refine vIf_t ?_ | with_reducible refine vIf_f ?_))
    (refine retK_of ?_; (repeat (first | simp (maxSteps := 2000000) (disch := omega) only [go_sem, ↓reduceIte, Nat.reduceEqDiff, Nat.reduceAdd, Nat.reduceMul, Nat.reduceSub, Int.reduceToNat, Int.reduceAdd, Int.reduceSub, Int.reduceMul, Int.reduceNeg] | with_reducible refine vIf_t ?_ | with_reducible refine vIf_f ?_)))
    rw [show k = xs.length by omega]
end Go.Proofs.YtneokdflhleidaaDoor

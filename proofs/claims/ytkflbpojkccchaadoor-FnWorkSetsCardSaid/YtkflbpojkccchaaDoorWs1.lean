/- tasks: what is valid; starts; clay -/
import Derived.Test.YtkflbpojkccchaaDoorLeI
import Derived.Test.YtkflbpojkccchaaDoorX4
import Derived.Test.YtkflbpojkccchaaDoorBil1
import Derived.Test.YtkflbpojkccchaaDoorHasI
set_option linter.unusedVariables false
set_option linter.unusedSimpArgs false
namespace Go.Proofs.YtkflbpojkccchaaDoor
open Go.AG

structure Tk where
  dy : Int
  co : Int
  cl : Int
  af : List Int
  deriving Inhabited, DecidableEq
def Tk.cells (d : Tk) : List V := [.sc (.int .i64 d.dy), .sc (.int .i64 d.co), .sc (.int .i64 d.cl), .sl (d.af).length (ints (d.af))]
def cTk (ds : List Tk) : List V := ds.flatMap Tk.cells
def gTk (ds : List Tk) (i : Nat) : Tk := ds.getD i default
theorem gTk_lt (ds : List Tk) (i : Nat) (h : i < ds.length) : gTk ds i = ds[i] := by simp [gTk, h]
theorem gTk_mem (ds : List Tk) (i : Nat) (h : i < ds.length) : gTk ds i ∈ ds := by rw [gTk_lt ds i h]; exact List.getElem_mem h
theorem gTk_take_succ (ds : List Tk) (i : Nat) (h : i < ds.length) : ds.take (i + 1) = ds.take i ++ [gTk ds i] := by rw [List.take_succ_eq_append_getElem h, gTk_lt ds i h]
theorem gTk_set_same (ds : List Tk) (i : Nat) (d : Tk) (h : i < ds.length) : gTk (ds.set i d) i = d := by simp [gTk, h]
theorem gTk_set_ne (ds : List Tk) (i j : Nat) (d : Tk) (h : i ≠ j) : gTk (ds.set i d) j = gTk ds j := by simp [gTk, h]
theorem gTk_app_l (xs ys : List Tk) (i : Nat) (h : i < xs.length) : gTk (xs ++ ys) i = gTk xs i := by simp [gTk, List.getElem?_append_left h]
theorem gTk_app_r (xs ys : List Tk) (i : Nat) (h : xs.length ≤ i) : gTk (xs ++ ys) i = gTk ys (i - xs.length) := by simp [gTk, List.getElem?_append_right h]
theorem cTk_eq (ds : List Tk) : cTk ds = (ds.map Tk.cells).flatten := by rw [cTk, List.flatMap_def]
@[go_sem] theorem length_cTk (ds : List Tk) : (cTk ds).length = ds.length * 4 := (rsLen Tk.cells 4 (fun _ => rfl) ds)
@[go_sem] theorem cTk_nil : cTk [] = [] := rfl
@[go_sem] theorem cTk_append (xs ys : List Tk) : cTk xs ++ cTk ys = cTk (xs ++ ys) := by simp [cTk]
theorem cTk_one (d : Tk) : cTk [d] = d.cells := by simp [cTk]
@[go_sem] theorem cTk_snoc (xs : List Tk) (dy : Int) (co : Int) (cl : Int) (af : List Int) : cTk xs ++ [.sc (.int .i64 dy), .sc (.int .i64 co), .sc (.int .i64 cl), .sl (af).length (ints (af))] = cTk (xs ++ [⟨dy, co, cl, af⟩]) := by simp [cTk, Tk.cells]
@[go_sem] theorem cTk_take (ds : List Tk) (n : Nat) : (cTk ds).take (n * 4) = cTk (ds.take n) := rsTake Tk.cells 4 (fun _ => rfl) ds n
@[go_sem] theorem cTk_take_all (ds : List Tk) (n : Nat) (h : ds.length * 4 ≤ n) : (cTk ds).take n = cTk ds := List.take_of_length_le (by rw [length_cTk]; exact h)
@[go_sem] theorem cTk_drop (ds : List Tk) (n : Nat) : (cTk ds).drop (n * 4) = cTk (ds.drop n) := rsDrop Tk.cells 4 (fun _ => rfl) ds n
@[go_sem high] theorem vPart_cTk (ds : List Tk) (i : Nat) (K : V → Prop) : vPart true 4 (cTk ds) (i * 4) K = grd (i < ds.length) (K (.agg [.sc (.int .i64 (gTk ds i).dy), .sc (.int .i64 (gTk ds i).co), .sc (.int .i64 (gTk ds i).cl), .sl ((gTk ds i).af).length (ints ((gTk ds i).af))])) := rsPart Tk.cells 4 (fun _ => rfl) (by omega) ds i K
@[go_sem] theorem cTk_at (ds : List Tk) (n : Nat) (h : n < ds.length) : (cTk (ds.drop n)).take 4 = [.sc (.int .i64 (gTk ds n).dy), .sc (.int .i64 (gTk ds n).co), .sc (.int .i64 (gTk ds n).cl), .sl ((gTk ds n).af).length (ints ((gTk ds n).af))] := by rw [List.drop_eq_getElem_cons h, gTk_lt ds n h]; rfl
@[go_sem] theorem cTk_at0 (ds : List Tk) (h : 0 < ds.length) : (cTk ds).take 4 = [.sc (.int .i64 (gTk ds 0).dy), .sc (.int .i64 (gTk ds 0).co), .sc (.int .i64 (gTk ds 0).cl), .sl ((gTk ds 0).af).length (ints ((gTk ds 0).af))] := by cases ds with | nil => simp at h | cons x r => rfl
@[go_sem] theorem vAt_cTk_0 (ds : List Tk) (i : Nat) (K : V → Prop) : vAt (cTk ds) (i * 4) K = grd (i < ds.length) (K (.sc (.int .i64 (gTk ds i).dy))) := rsAt Tk.cells 4 (fun _ => rfl) ds i 0 (by omega) (fun d => .sc (.int .i64 d.dy)) (fun _ => rfl) K
@[go_sem] theorem wr_cTk_0 (ds : List Tk) (i : Nat) (x : Int) (h : i < ds.length) : wr (cTk ds) (i * 4) [.sc (.int .i64 x)] = cTk (ds.set i {gTk ds i with dy := x}) := rsWr Tk.cells 4 (fun _ => rfl) ds i 0 (by omega) h _ _ rfl
@[go_sem] theorem vAt_cTk_1 (ds : List Tk) (i : Nat) (K : V → Prop) : vAt (cTk ds) (i * 4 + 1) K = grd (i < ds.length) (K (.sc (.int .i64 (gTk ds i).co))) := rsAt Tk.cells 4 (fun _ => rfl) ds i 1 (by omega) (fun d => .sc (.int .i64 d.co)) (fun _ => rfl) K
@[go_sem] theorem wr_cTk_1 (ds : List Tk) (i : Nat) (x : Int) (h : i < ds.length) : wr (cTk ds) (i * 4 + 1) [.sc (.int .i64 x)] = cTk (ds.set i {gTk ds i with co := x}) := rsWr Tk.cells 4 (fun _ => rfl) ds i 1 (by omega) h _ _ rfl
@[go_sem] theorem vAt_cTk_2 (ds : List Tk) (i : Nat) (K : V → Prop) : vAt (cTk ds) (i * 4 + 2) K = grd (i < ds.length) (K (.sc (.int .i64 (gTk ds i).cl))) := rsAt Tk.cells 4 (fun _ => rfl) ds i 2 (by omega) (fun d => .sc (.int .i64 d.cl)) (fun _ => rfl) K
@[go_sem] theorem wr_cTk_2 (ds : List Tk) (i : Nat) (x : Int) (h : i < ds.length) : wr (cTk ds) (i * 4 + 2) [.sc (.int .i64 x)] = cTk (ds.set i {gTk ds i with cl := x}) := rsWr Tk.cells 4 (fun _ => rfl) ds i 2 (by omega) h _ _ rfl
@[go_sem] theorem vAt_cTk_3 (ds : List Tk) (i : Nat) (K : V → Prop) : vAt (cTk ds) (i * 4 + 3) K = grd (i < ds.length) (K (.sl ((gTk ds i).af).length (ints ((gTk ds i).af)))) := rsAt Tk.cells 4 (fun _ => rfl) ds i 3 (by omega) (fun d => .sl (d.af).length (ints (d.af))) (fun _ => rfl) K
@[go_sem] theorem wr_cTk_3 (ds : List Tk) (i : Nat) (x : List Int) (h : i < ds.length) : wr (cTk ds) (i * 4 + 3) [.sl (x).length (ints (x))] = cTk (ds.set i {gTk ds i with af := x}) := rsWr Tk.cells 4 (fun _ => rfl) ds i 3 (by omega) h _ _ rfl
@[go_sem] theorem wr_cTk_0_set (ds : List Tk) (i i0 : Nat) (d : Tk) (x : Int) (h : i < ds.length) : wr (cTk (ds.set i0 d)) (i * 4) [.sc (.int .i64 x)] = cTk ((ds.set i0 d).set i {gTk (ds.set i0 d) i with dy := x}) := wr_cTk_0 _ _ _ (by rw [List.length_set]; exact h)
@[go_sem] theorem wr_cTk_1_set (ds : List Tk) (i i0 : Nat) (d : Tk) (x : Int) (h : i < ds.length) : wr (cTk (ds.set i0 d)) (i * 4 + 1) [.sc (.int .i64 x)] = cTk ((ds.set i0 d).set i {gTk (ds.set i0 d) i with co := x}) := wr_cTk_1 _ _ _ (by rw [List.length_set]; exact h)
@[go_sem] theorem wr_cTk_2_set (ds : List Tk) (i i0 : Nat) (d : Tk) (x : Int) (h : i < ds.length) : wr (cTk (ds.set i0 d)) (i * 4 + 2) [.sc (.int .i64 x)] = cTk ((ds.set i0 d).set i {gTk (ds.set i0 d) i with cl := x}) := wr_cTk_2 _ _ _ (by rw [List.length_set]; exact h)
@[go_sem] theorem wr_cTk_3_set (ds : List Tk) (i i0 : Nat) (d : Tk) (x : List Int) (h : i < ds.length) : wr (cTk (ds.set i0 d)) (i * 4 + 3) [.sl (x).length (ints (x))] = cTk ((ds.set i0 d).set i {gTk (ds.set i0 d) i with af := x}) := wr_cTk_3 _ _ _ (by rw [List.length_set]; exact h)
attribute [go_sem] gTk_set_same
@[go_sem] theorem wr_cTk_all (ds : List Tk) (i : Nat) (dy : Int) (co : Int) (cl : Int) (af : List Int) (h : i < ds.length) : wr (cTk ds) (i * 4) [.sc (.int .i64 dy), .sc (.int .i64 co), .sc (.int .i64 cl), .sl (af).length (ints (af))] = cTk (ds.set i ⟨dy, co, cl, af⟩) := rsWrAll Tk.cells 4 (fun _ => rfl) ds i h ⟨dy, co, cl, af⟩
@[go_sem] theorem imm_cTk (ds : List Tk) : V.immL (cTk ds) = true := by induction ds with | nil => rfl | cons x xs ih => exact ih
@[go_sem] theorem one_cTk (ds : List Tk) : V.oneL (cTk ds) = true := by induction ds with | nil => rfl | cons x xs ih => exact ih
@[go_sem] theorem noref_cTk (ds : List Tk) : V.norefL (cTk ds) = true := by induction ds with | nil => rfl | cons x xs ih => exact ih
@[go_sem] theorem kill_cTk (p : Nat → Bool) (ds : List Tk) : V.killL p (cTk ds) = cTk ds := killL_noref p _ (noref_cTk ds)
@[go_sem] theorem frz_cTk (f : Nat → Option Ob) (ds : List Tk) : V.frzL f (cTk ds) = cTk ds := frzL_noref f _ (noref_cTk ds)
@[go_sem] theorem ren_cTk (g : Nat → Nat) (ds : List Tk) : V.renL g (cTk ds) = cTk ds := by induction ds with | nil => rfl | cons x xs ih => exact congrArg (x.cells ++ ·) ih
@[go_sem] theorem cTk_rep0 (d : Tk) : cTk (List.replicate 0 d) = [] := rfl
@[go_sem] theorem wr_cTk_rep1 (d : Tk) (dy : Int) (co : Int) (cl : Int) (af : List Int) : wr (cTk (List.replicate 1 d)) 0 [.sc (.int .i64 dy), .sc (.int .i64 co), .sc (.int .i64 cl), .sl (af).length (ints (af))] = cTk [⟨dy, co, cl, af⟩] := rfl
@[go_sem] theorem cTk_take1 (d : Tk) : (cTk [d]).take 4 = cTk [d] := rfl
structure TkO (ts : List Tk) (i : Nat) : Prop where
  d : 1 ≤ (gTk ts i).dy ∧ (gTk ts i).dy ≤ 1000
  c : 0 ≤ (gTk ts i).co ∧ (gTk ts i).co ≤ 1000000
  y : 0 ≤ (gTk ts i).cl ∧ (gTk ts i).cl ≤ 10000
  n : (gTk ts i).af.length ≤ 12
  r : risesB (gTk ts i).af 0 ((i : Int) - 1) = true
structure TkX (ts : List Tk) : Prop where
  n : ts.length ≤ 8
  e : ∀ i, i < ts.length → TkO ts i
theorem alone_ok (t : Tk) (h : (1 ≤ t.dy ∧ t.dy ≤ 1000) ∧ (0 ≤ t.co ∧ t.co ≤ 1000000) ∧ (0 ≤ t.cl ∧ t.cl ≤ 10000)) : ACalls Tryd.prog 32 [.agg t.cells] [] (fun r o => r = B true ∧ o = []) := by
  refine ACalls.of_vc Tryd.func32 rfl (by decide) 16 rfl [.tmp 2] rfl (by simp) ?_
  have h1 := in_ok t.dy 1 1000
  have h2 := in_ok t.co 0 1000000
  have h3 := in_ok t.cl 0 10000
  rw [decide_eq_true h.1] at h1
  rw [decide_eq_true h.2.1] at h2
  rw [decide_eq_true h.2.2] at h3
  unfold Tk.cells
  (repeat (first | simp (maxSteps := 2000000) (disch := omega) only [go_sem, ↓reduceIte, Nat.reduceEqDiff, Nat.reduceAdd, Nat.reduceMul, Nat.reduceSub, Int.reduceToNat, Int.reduceAdd, Int.reduceSub, Int.reduceMul, Int.reduceNeg] | with_reducible refine vIf_t ?_ | with_reducible refine vIf_f ?_))
  (refine vCallX_of ?_; (repeat (first | simp (maxSteps := 2000000) (disch := omega) only [go_sem, ↓reduceIte, Nat.reduceEqDiff, Nat.reduceAdd, Nat.reduceMul, Nat.reduceSub, Int.reduceToNat, Int.reduceAdd, Int.reduceSub, Int.reduceMul, Int.reduceNeg] | with_reducible refine vIf_t ?_ | with_reducible refine vIf_f ?_)); refine vCall_eq (h1) (by simp (disch := omega) only [go_sem, Nat.reduceAdd]) rfl (by first | exact Or.inl rfl | exact Or.inr ⟨rfl, rfl⟩ | (apply Or.inr; simp only [go_sem])) ?_; (repeat (first | simp (maxSteps := 2000000) (disch := omega) only [go_sem, ↓reduceIte, Nat.reduceEqDiff, Nat.reduceAdd, Nat.reduceMul, Nat.reduceSub, Int.reduceToNat, Int.reduceAdd, Int.reduceSub, Int.reduceMul, Int.reduceNeg] | with_reducible refine vIf_t ?_ | with_reducible refine vIf_f ?_)))
  (refine vCallX_of ?_; (repeat (first | simp (maxSteps := 2000000) (disch := omega) only [go_sem, ↓reduceIte, Nat.reduceEqDiff, Nat.reduceAdd, Nat.reduceMul, Nat.reduceSub, Int.reduceToNat, Int.reduceAdd, Int.reduceSub, Int.reduceMul, Int.reduceNeg] | with_reducible refine vIf_t ?_ | with_reducible refine vIf_f ?_)); refine vCall_eq (h2) (by simp (disch := omega) only [go_sem, Nat.reduceAdd]) rfl (by first | exact Or.inl rfl | exact Or.inr ⟨rfl, rfl⟩ | (apply Or.inr; simp only [go_sem])) ?_; (repeat (first | simp (maxSteps := 2000000) (disch := omega) only [go_sem, ↓reduceIte, Nat.reduceEqDiff, Nat.reduceAdd, Nat.reduceMul, Nat.reduceSub, Int.reduceToNat, Int.reduceAdd, Int.reduceSub, Int.reduceMul, Int.reduceNeg] | with_reducible refine vIf_t ?_ | with_reducible refine vIf_f ?_)))
  (refine vCallX_of ?_; (repeat (first | simp (maxSteps := 2000000) (disch := omega) only [go_sem, ↓reduceIte, Nat.reduceEqDiff, Nat.reduceAdd, Nat.reduceMul, Nat.reduceSub, Int.reduceToNat, Int.reduceAdd, Int.reduceSub, Int.reduceMul, Int.reduceNeg] | with_reducible refine vIf_t ?_ | with_reducible refine vIf_f ?_)); refine vCall_eq (h3) (by simp (disch := omega) only [go_sem, Nat.reduceAdd]) rfl (by first | exact Or.inl rfl | exact Or.inr ⟨rfl, rfl⟩ | (apply Or.inr; simp only [go_sem])) ?_; (repeat (first | simp (maxSteps := 2000000) (disch := omega) only [go_sem, ↓reduceIte, Nat.reduceEqDiff, Nat.reduceAdd, Nat.reduceMul, Nat.reduceSub, Int.reduceToNat, Int.reduceAdd, Int.reduceSub, Int.reduceMul, Int.reduceNeg] | with_reducible refine vIf_t ?_ | with_reducible refine vIf_f ?_)))
  (refine retK_of ?_; (repeat (first | simp (maxSteps := 2000000) (disch := omega) only [go_sem, ↓reduceIte, Nat.reduceEqDiff, Nat.reduceAdd, Nat.reduceMul, Nat.reduceSub, Int.reduceToNat, Int.reduceAdd, Int.reduceSub, Int.reduceMul, Int.reduceNeg] | with_reducible refine vIf_t ?_ | with_reducible refine vIf_f ?_)))
theorem validTk_ok (ts : List Tk) (X : TkX ts) : ACalls Tryd.prog 19 [.sl ts.length (cTk ts)] [] (fun r o => r = B true ∧ o = []) := by
  refine ACalls.of_vc Tryd.func19 rfl (by decide) 27 rfl [.tmp 2] rfl (by simp) ?_
  have hn := X.n
  (repeat (first | simp (maxSteps := 2000000) (disch := omega) only [go_sem, ↓reduceIte, Nat.reduceEqDiff, Nat.reduceAdd, Nat.reduceMul, Nat.reduceSub, Int.reduceToNat, Int.reduceAdd, Int.reduceSub, Int.reduceMul, Int.reduceNeg] | with_reducible refine vIf_t ?_ | with_reducible refine vIf_f ?_))
  refine vcLoop_invF (fun k : Nat => k ≤ ts.length) (fun k => ⟨27, 0, [(7, I k), (5, .sl ts.length (cTk ts)), (0, .sl ts.length (cTk ts)), (6, I ts.length)], []⟩) (fun k => ts.length - k) 0 (by omega) (by (first | (refine leF_s ?_; ((repeat (first | simp (maxSteps := 2000000) (disch := omega) only [go_sem, ↓reduceIte, Nat.reduceEqDiff, Nat.reduceAdd, Nat.reduceMul, Nat.reduceSub, Int.reduceToNat, Int.reduceAdd, Int.reduceSub, Int.reduceMul, Int.reduceNeg] | with_reducible refine vIf_t ?_ | with_reducible refine vIf_f ?_)); all_goals (try simp); all_goals (try omega)); done) | (refine leF_p ?_; ((repeat (first | simp (maxSteps := 2000000) (disch := omega) only [go_sem, ↓reduceIte, Nat.reduceEqDiff, Nat.reduceAdd, Nat.reduceMul, Nat.reduceSub, Int.reduceToNat, Int.reduceAdd, Int.reduceSub, Int.reduceMul, Int.reduceNeg] | with_reducible refine vIf_t ?_ | with_reducible refine vIf_f ?_)); all_goals (try simp); all_goals (try omega)); done))) ?_
  intro k hk
  (repeat (first | simp (maxSteps := 2000000) (disch := omega) only [go_sem, ↓reduceIte, Nat.reduceEqDiff, Nat.reduceAdd, Nat.reduceMul, Nat.reduceSub, Int.reduceToNat, Int.reduceAdd, Int.reduceSub, Int.reduceMul, Int.reduceNeg] | with_reducible refine vIf_t ?_ | with_reducible refine vIf_f ?_))
  refine vIf_dec (fun h => ?_) (fun h => ?_)
  · have hkl : k < ts.length := by omega
    have e := X.e k hkl
    have h1 := alone_ok (gTk ts k) ⟨e.d, e.c, e.y⟩
    have h2 := rise_ok (gTk ts k).af 0 ((k : Int) - 1) (by have := e.n; omega)
    rw [e.r] at h2
    unfold Tk.cells at h1
    unfold iS at h2
    (repeat (first | simp (maxSteps := 2000000) (disch := omega) only [go_sem, ↓reduceIte, Nat.reduceEqDiff, Nat.reduceAdd, Nat.reduceMul, Nat.reduceSub, Int.reduceToNat, Int.reduceAdd, Int.reduceSub, Int.reduceMul, Int.reduceNeg] | with_reducible refine vIf_t ?_ | with_reducible refine vIf_f ?_))
    (refine vCallX_of ?_; (repeat (first | simp (maxSteps := 2000000) (disch := omega) only [go_sem, ↓reduceIte, Nat.reduceEqDiff, Nat.reduceAdd, Nat.reduceMul, Nat.reduceSub, Int.reduceToNat, Int.reduceAdd, Int.reduceSub, Int.reduceMul, Int.reduceNeg] | with_reducible refine vIf_t ?_ | with_reducible refine vIf_f ?_)); refine vCall_eq (h1) (by simp (disch := omega) only [go_sem, Nat.reduceAdd]) rfl (by first | exact Or.inl rfl | exact Or.inr ⟨rfl, rfl⟩ | (apply Or.inr; simp only [go_sem])) ?_; (repeat (first | simp (maxSteps := 2000000) (disch := omega) only [go_sem, ↓reduceIte, Nat.reduceEqDiff, Nat.reduceAdd, Nat.reduceMul, Nat.reduceSub, Int.reduceToNat, Int.reduceAdd, Int.reduceSub, Int.reduceMul, Int.reduceNeg] | with_reducible refine vIf_t ?_ | with_reducible refine vIf_f ?_)))
    (refine vCallX_of ?_; (repeat (first | simp (maxSteps := 2000000) (disch := omega) only [go_sem, ↓reduceIte, Nat.reduceEqDiff, Nat.reduceAdd, Nat.reduceMul, Nat.reduceSub, Int.reduceToNat, Int.reduceAdd, Int.reduceSub, Int.reduceMul, Int.reduceNeg] | with_reducible refine vIf_t ?_ | with_reducible refine vIf_f ?_)); refine vCall_eq (h2) (by simp (disch := omega) only [go_sem, Nat.reduceAdd]) rfl (by first | exact Or.inl rfl | exact Or.inr ⟨rfl, rfl⟩ | (apply Or.inr; simp only [go_sem])) ?_; (repeat (first | simp (maxSteps := 2000000) (disch := omega) only [go_sem, ↓reduceIte, Nat.reduceEqDiff, Nat.reduceAdd, Nat.reduceMul, Nat.reduceSub, Int.reduceToNat, Int.reduceAdd, Int.reduceSub, Int.reduceMul, Int.reduceNeg] | with_reducible refine vIf_t ?_ | with_reducible refine vIf_f ?_)))
    refine againF (k + 1) (by omega) (by omega) (by (first | (refine leF_s ?_; ((repeat (first | simp (maxSteps := 2000000) (disch := omega) only [go_sem, ↓reduceIte, Nat.reduceEqDiff, Nat.reduceAdd, Nat.reduceMul, Nat.reduceSub, Int.reduceToNat, Int.reduceAdd, Int.reduceSub, Int.reduceMul, Int.reduceNeg] | with_reducible refine vIf_t ?_ | with_reducible refine vIf_f ?_)); all_goals (try simp); all_goals (try omega)); done) | (refine leF_p ?_; ((repeat (first | simp (maxSteps := 2000000) (disch := omega) only [go_sem, ↓reduceIte, Nat.reduceEqDiff, Nat.reduceAdd, Nat.reduceMul, Nat.reduceSub, Int.reduceToNat, Int.reduceAdd, Int.reduceSub, Int.reduceMul, Int.reduceNeg] | with_reducible refine vIf_t ?_ | with_reducible refine vIf_f ?_)); all_goals (try simp); all_goals (try omega)); done)))
  · (repeat (first | simp (maxSteps := 2000000) (disch := omega) only [go_sem, ↓reduceIte, Nat.reduceEqDiff, Nat.reduceAdd, Nat.reduceMul, Nat.reduceSub, Int.reduceToNat, Int.reduceAdd, Int.reduceSub, Int.reduceMul, Int.reduceNeg] | with_reducible refine vIf_t ?_ | with_reducible refine vIf_f ?_))
    (refine retK_of ?_; (repeat (first | simp (maxSteps := 2000000) (disch := omega) only [go_sem, ↓reduceIte, Nat.reduceEqDiff, Nat.reduceAdd, Nat.reduceMul, Nat.reduceSub, Int.reduceToNat, Int.reduceAdd, Int.reduceSub, Int.reduceMul, Int.reduceNeg] | with_reducible refine vIf_t ?_ | with_reducible refine vIf_f ?_)))
theorem dayCode_ok (ts : List Tk) (X : TkX ts) (d : Int) (hd : 0 ≤ d ∧ d ≤ 100000) : ACalls Tryd.prog 31 [.sl ts.length (cTk ts), I d] [] (fun r o => r = I 0 ∧ o = []) := by
  refine ACalls.of_vc Tryd.func31 rfl (by decide) 13 rfl [.tmp 4] rfl (by simp) ?_
  have h1 := validTk_ok ts X
  have h2 := validDay_ok d
  rw [decide_eq_true hd] at h2
  (repeat (first | simp (maxSteps := 2000000) (disch := omega) only [go_sem, ↓reduceIte, Nat.reduceEqDiff, Nat.reduceAdd, Nat.reduceMul, Nat.reduceSub, Int.reduceToNat, Int.reduceAdd, Int.reduceSub, Int.reduceMul, Int.reduceNeg] | with_reducible refine vIf_t ?_ | with_reducible refine vIf_f ?_))
  (refine vCallX_of ?_; (repeat (first | simp (maxSteps := 2000000) (disch := omega) only [go_sem, ↓reduceIte, Nat.reduceEqDiff, Nat.reduceAdd, Nat.reduceMul, Nat.reduceSub, Int.reduceToNat, Int.reduceAdd, Int.reduceSub, Int.reduceMul, Int.reduceNeg] | with_reducible refine vIf_t ?_ | with_reducible refine vIf_f ?_)); refine vCall_eq (h1) (by simp (disch := omega) only [go_sem, Nat.reduceAdd]) rfl (by first | exact Or.inl rfl | exact Or.inr ⟨rfl, rfl⟩ | (apply Or.inr; simp only [go_sem])) ?_; (repeat (first | simp (maxSteps := 2000000) (disch := omega) only [go_sem, ↓reduceIte, Nat.reduceEqDiff, Nat.reduceAdd, Nat.reduceMul, Nat.reduceSub, Int.reduceToNat, Int.reduceAdd, Int.reduceSub, Int.reduceMul, Int.reduceNeg] | with_reducible refine vIf_t ?_ | with_reducible refine vIf_f ?_)))
  (refine vCallX_of ?_; (repeat (first | simp (maxSteps := 2000000) (disch := omega) only [go_sem, ↓reduceIte, Nat.reduceEqDiff, Nat.reduceAdd, Nat.reduceMul, Nat.reduceSub, Int.reduceToNat, Int.reduceAdd, Int.reduceSub, Int.reduceMul, Int.reduceNeg] | with_reducible refine vIf_t ?_ | with_reducible refine vIf_f ?_)); refine vCall_eq (h2) (by simp (disch := omega) only [go_sem, Nat.reduceAdd]) rfl (by first | exact Or.inl rfl | exact Or.inr ⟨rfl, rfl⟩ | (apply Or.inr; simp only [go_sem])) ?_; (repeat (first | simp (maxSteps := 2000000) (disch := omega) only [go_sem, ↓reduceIte, Nat.reduceEqDiff, Nat.reduceAdd, Nat.reduceMul, Nat.reduceSub, Int.reduceToNat, Int.reduceAdd, Int.reduceSub, Int.reduceMul, Int.reduceNeg] | with_reducible refine vIf_t ?_ | with_reducible refine vIf_f ?_)))
  (refine retK_of ?_; (repeat (first | simp (maxSteps := 2000000) (disch := omega) only [go_sem, ↓reduceIte, Nat.reduceEqDiff, Nat.reduceAdd, Nat.reduceMul, Nat.reduceSub, Int.reduceToNat, Int.reduceAdd, Int.reduceSub, Int.reduceMul, Int.reduceNeg] | with_reducible refine vIf_t ?_ | with_reducible refine vIf_f ?_)))
end Go.Proofs.YtkflbpojkccchaaDoor

/- dikes: valid, clay, the weakest section -/
import Derived.Test.YtcmkkejcnomcdaaAgT
import Derived.Test.YtcmkkejcnomcdaaAgZ
import Derived.Test.YtcmkkejcnomcdaaBas
set_option linter.unusedVariables false
set_option linter.unusedSimpArgs false
namespace Go.Proofs.Ytcmkkejcnomcdaa
open Go.AG

structure Sct where
  ln : Int
  cr : Int
  deriving Inhabited, DecidableEq
def Sct.cells (d : Sct) : List V := [.sc (.int .i64 d.ln), .sc (.int .i64 d.cr)]
def cSct (ds : List Sct) : List V := ds.flatMap Sct.cells
def gSct (ds : List Sct) (i : Nat) : Sct := ds.getD i default
theorem gSct_lt (ds : List Sct) (i : Nat) (h : i < ds.length) : gSct ds i = ds[i] := by simp [gSct, h]
theorem gSct_mem (ds : List Sct) (i : Nat) (h : i < ds.length) : gSct ds i ∈ ds := by rw [gSct_lt ds i h]; exact List.getElem_mem h
theorem gSct_take_succ (ds : List Sct) (i : Nat) (h : i < ds.length) : ds.take (i + 1) = ds.take i ++ [gSct ds i] := by rw [List.take_succ_eq_append_getElem h, gSct_lt ds i h]
theorem gSct_set_same (ds : List Sct) (i : Nat) (d : Sct) (h : i < ds.length) : gSct (ds.set i d) i = d := by simp [gSct, h]
theorem gSct_set_ne (ds : List Sct) (i j : Nat) (d : Sct) (h : i ≠ j) : gSct (ds.set i d) j = gSct ds j := by simp [gSct, h]
theorem gSct_app_l (xs ys : List Sct) (i : Nat) (h : i < xs.length) : gSct (xs ++ ys) i = gSct xs i := by simp [gSct, List.getElem?_append_left h]
theorem gSct_app_r (xs ys : List Sct) (i : Nat) (h : xs.length ≤ i) : gSct (xs ++ ys) i = gSct ys (i - xs.length) := by simp [gSct, List.getElem?_append_right h]
theorem cSct_eq (ds : List Sct) : cSct ds = (ds.map Sct.cells).flatten := by rw [cSct, List.flatMap_def]
@[go_sem] theorem length_cSct (ds : List Sct) : (cSct ds).length = ds.length * 2 := (rsLen Sct.cells 2 (fun _ => rfl) ds)
@[go_sem] theorem cSct_nil : cSct [] = [] := rfl
@[go_sem] theorem cSct_append (xs ys : List Sct) : cSct xs ++ cSct ys = cSct (xs ++ ys) := by simp [cSct]
theorem cSct_one (d : Sct) : cSct [d] = d.cells := by simp [cSct]
@[go_sem] theorem cSct_snoc (xs : List Sct) (ln : Int) (cr : Int) : cSct xs ++ [.sc (.int .i64 ln), .sc (.int .i64 cr)] = cSct (xs ++ [⟨ln, cr⟩]) := by simp [cSct, Sct.cells]
@[go_sem] theorem cSct_take (ds : List Sct) (n : Nat) : (cSct ds).take (n * 2) = cSct (ds.take n) := rsTake Sct.cells 2 (fun _ => rfl) ds n
@[go_sem] theorem cSct_take_all (ds : List Sct) (n : Nat) (h : ds.length * 2 ≤ n) : (cSct ds).take n = cSct ds := List.take_of_length_le (by rw [length_cSct]; exact h)
@[go_sem] theorem cSct_drop (ds : List Sct) (n : Nat) : (cSct ds).drop (n * 2) = cSct (ds.drop n) := rsDrop Sct.cells 2 (fun _ => rfl) ds n
@[go_sem high] theorem vPart_cSct (ds : List Sct) (i : Nat) (K : V → Prop) : vPart true 2 (cSct ds) (i * 2) K = grd (i < ds.length) (K (.agg [.sc (.int .i64 (gSct ds i).ln), .sc (.int .i64 (gSct ds i).cr)])) := rsPart Sct.cells 2 (fun _ => rfl) (by omega) ds i K
@[go_sem] theorem cSct_at (ds : List Sct) (n : Nat) (h : n < ds.length) : (cSct (ds.drop n)).take 2 = [.sc (.int .i64 (gSct ds n).ln), .sc (.int .i64 (gSct ds n).cr)] := by rw [List.drop_eq_getElem_cons h, gSct_lt ds n h]; rfl
@[go_sem] theorem cSct_at0 (ds : List Sct) (h : 0 < ds.length) : (cSct ds).take 2 = [.sc (.int .i64 (gSct ds 0).ln), .sc (.int .i64 (gSct ds 0).cr)] := by cases ds with | nil => simp at h | cons x r => rfl
@[go_sem] theorem vAt_cSct_0 (ds : List Sct) (i : Nat) (K : V → Prop) : vAt (cSct ds) (i * 2) K = grd (i < ds.length) (K (.sc (.int .i64 (gSct ds i).ln))) := rsAt Sct.cells 2 (fun _ => rfl) ds i 0 (by omega) (fun d => .sc (.int .i64 d.ln)) (fun _ => rfl) K
@[go_sem] theorem wr_cSct_0 (ds : List Sct) (i : Nat) (x : Int) (h : i < ds.length) : wr (cSct ds) (i * 2) [.sc (.int .i64 x)] = cSct (ds.set i {gSct ds i with ln := x}) := rsWr Sct.cells 2 (fun _ => rfl) ds i 0 (by omega) h _ _ rfl
@[go_sem] theorem vAt_cSct_1 (ds : List Sct) (i : Nat) (K : V → Prop) : vAt (cSct ds) (i * 2 + 1) K = grd (i < ds.length) (K (.sc (.int .i64 (gSct ds i).cr))) := rsAt Sct.cells 2 (fun _ => rfl) ds i 1 (by omega) (fun d => .sc (.int .i64 d.cr)) (fun _ => rfl) K
@[go_sem] theorem wr_cSct_1 (ds : List Sct) (i : Nat) (x : Int) (h : i < ds.length) : wr (cSct ds) (i * 2 + 1) [.sc (.int .i64 x)] = cSct (ds.set i {gSct ds i with cr := x}) := rsWr Sct.cells 2 (fun _ => rfl) ds i 1 (by omega) h _ _ rfl
@[go_sem] theorem wr_cSct_0_set (ds : List Sct) (i i0 : Nat) (d : Sct) (x : Int) (h : i < ds.length) : wr (cSct (ds.set i0 d)) (i * 2) [.sc (.int .i64 x)] = cSct ((ds.set i0 d).set i {gSct (ds.set i0 d) i with ln := x}) := wr_cSct_0 _ _ _ (by rw [List.length_set]; exact h)
@[go_sem] theorem wr_cSct_1_set (ds : List Sct) (i i0 : Nat) (d : Sct) (x : Int) (h : i < ds.length) : wr (cSct (ds.set i0 d)) (i * 2 + 1) [.sc (.int .i64 x)] = cSct ((ds.set i0 d).set i {gSct (ds.set i0 d) i with cr := x}) := wr_cSct_1 _ _ _ (by rw [List.length_set]; exact h)
attribute [go_sem] gSct_set_same
@[go_sem] theorem wr_cSct_all (ds : List Sct) (i : Nat) (ln : Int) (cr : Int) (h : i < ds.length) : wr (cSct ds) (i * 2) [.sc (.int .i64 ln), .sc (.int .i64 cr)] = cSct (ds.set i ⟨ln, cr⟩) := rsWrAll Sct.cells 2 (fun _ => rfl) ds i h ⟨ln, cr⟩
@[go_sem] theorem imm_cSct (ds : List Sct) : V.immL (cSct ds) = true := by induction ds with | nil => rfl | cons x xs ih => exact ih
@[go_sem] theorem one_cSct (ds : List Sct) : V.oneL (cSct ds) = true := by induction ds with | nil => rfl | cons x xs ih => exact ih
@[go_sem] theorem noref_cSct (ds : List Sct) : V.norefL (cSct ds) = true := by induction ds with | nil => rfl | cons x xs ih => exact ih
@[go_sem] theorem flat_cSct (ds : List Sct) : V.flatL (cSct ds) = true := by induction ds with | nil => rfl | cons x xs ih => exact ih
@[go_sem] theorem kill_cSct (p : Nat → Bool) (ds : List Sct) : V.killL p (cSct ds) = cSct ds := killL_noref p _ (noref_cSct ds)
@[go_sem] theorem frz_cSct (f : Nat → Option Ob) (ds : List Sct) : V.frzL f (cSct ds) = cSct ds := frzL_noref f _ (noref_cSct ds)
@[go_sem] theorem ren_cSct (g : Nat → Nat) (ds : List Sct) : V.renL g (cSct ds) = cSct ds := by induction ds with | nil => rfl | cons x xs ih => exact congrArg (x.cells ++ ·) ih
@[go_sem] theorem reps_cSct (n : Nat) : reps n [V.sc (.int .i64 0), V.sc (.int .i64 0)] = cSct (List.replicate n ⟨0, 0⟩) := rsReps Sct.cells n ⟨0, 0⟩
@[go_sem] theorem map_cSct_inj (xs ys : List Sct) : (cSct xs = cSct ys) = (xs = ys) := propext ⟨rsInj Sct.cells 2 (fun _ => rfl) (by omega) (fun a b h => by cases a; cases b; simpa [Sct.cells] using h) xs ys, fun h => by rw [h]⟩
@[go_sem] theorem cSct_rep0 (d : Sct) : cSct (List.replicate 0 d) = [] := rfl
@[go_sem] theorem wr_cSct_rep1 (d : Sct) (ln : Int) (cr : Int) : wr (cSct (List.replicate 1 d)) 0 [.sc (.int .i64 ln), .sc (.int .i64 cr)] = cSct [⟨ln, cr⟩] := rfl
@[go_sem] theorem cSct_take1 (d : Sct) : (cSct [d]).take 2 = cSct [d] := rfl
attribute [local go_sem] beq_self_eq_true bne_self_eq_false Bool.not_true Bool.not_false
def lnB (n : Int) : Bool := decide (1 ≤ n ∧ n ≤ 10000)
def sctB (s : Sct) : Bool := lnB s.ln && lvB s.cr
def dkB (ds : List Sct) : Bool := decide (1 ≤ (ds.length : Int) ∧ (ds.length : Int) ≤ 30) && ds.all sctB
structure DkF (ds : List Sct) : Prop where
  n : 1 ≤ ds.length ∧ ds.length ≤ 30
  l : ∀ i, i < ds.length → 1 ≤ (gSct ds i).ln ∧ (gSct ds i).ln ≤ 10000
  c : ∀ i, i < ds.length → -2000 ≤ (gSct ds i).cr ∧ (gSct ds i).cr ≤ 2000
theorem dkB_f {ds : List Sct} (h : dkB ds = true) : DkF ds := by
  simp only [dkB, Bool.and_eq_true, decide_eq_true_eq, List.all_eq_true] at h
  obtain ⟨h1, h2⟩ := h
  have h3 := fun i hi => h2 (gSct ds i) (gSct_mem ds i hi)
  simp only [sctB, lnB, lvB, Bool.and_eq_true, decide_eq_true_eq] at h3
  exact ⟨by omega, fun i hi => (h3 i hi).1, fun i hi => (h3 i hi).2⟩
theorem dkB_of {ds : List Sct} (f : DkF ds) : dkB ds = true := by
  simp only [dkB, Bool.and_eq_true, decide_eq_true_eq, List.all_eq_true]
  refine ⟨by have := f.n; omega, fun x hx => ?_⟩
  obtain ⟨i, hi, rfl⟩ := List.mem_iff_getElem.1 hx
  have e := gSct_lt ds i hi
  rw [← e]
  simp only [sctB, lnB, lvB, Bool.and_eq_true, decide_eq_true_eq]
  exact ⟨f.l i hi, f.c i hi⟩
theorem isSect_ok (a b : Int) : ACalls Try.prog 107 [.agg [I a, I b]] [] (fun r o => r = B (sctB ⟨a, b⟩) ∧ o = []) := by
  refine ACalls.of_vc Try.func107 rfl (by decide) 11 rfl [.tmp 2] rfl (by simp) ?_
  have h1 := in_ok a 1 10000
  have h2 := bLev_ok b
  rw [show decide (1 ≤ a ∧ a ≤ 10000) = lnB a from rfl] at h1
  unfold sctB
  (repeat (first | simp (maxSteps := 2000000) (disch := omega) only [go_sem, ↓reduceIte, Nat.reduceEqDiff, Nat.reduceAdd, Nat.reduceMul, Nat.reduceSub, Int.reduceToNat, Int.reduceAdd, Int.reduceSub, Int.reduceMul, Int.reduceNeg] | with_reducible refine vIf_t ?_ | with_reducible refine vIf_f ?_))
  (refine vCallX_of ?_; (repeat (first | simp (maxSteps := 2000000) (disch := omega) only [go_sem, ↓reduceIte, Nat.reduceEqDiff, Nat.reduceAdd, Nat.reduceMul, Nat.reduceSub, Int.reduceToNat, Int.reduceAdd, Int.reduceSub, Int.reduceMul, Int.reduceNeg] | with_reducible refine vIf_t ?_ | with_reducible refine vIf_f ?_)); refine vCall_eq (h1) (by simp (disch := omega) only [go_sem, Nat.reduceAdd]) rfl (by first | exact Or.inl rfl | exact Or.inr ⟨rfl, rfl⟩ | (apply Or.inr; simp only [go_sem])) ?_; (repeat (first | simp (maxSteps := 2000000) (disch := omega) only [go_sem, ↓reduceIte, Nat.reduceEqDiff, Nat.reduceAdd, Nat.reduceMul, Nat.reduceSub, Int.reduceToNat, Int.reduceAdd, Int.reduceSub, Int.reduceMul, Int.reduceNeg] | with_reducible refine vIf_t ?_ | with_reducible refine vIf_f ?_)))
  cases e1 : lnB a with
  | true =>
    (try (repeat (first | simp (maxSteps := 2000000) (disch := omega) only [go_sem, ↓reduceIte, Nat.reduceEqDiff, Nat.reduceAdd, Nat.reduceMul, Nat.reduceSub, Int.reduceToNat, Int.reduceAdd, Int.reduceSub, Int.reduceMul, Int.reduceNeg, e1] | with_reducible refine vIf_t ?_ | with_reducible refine vIf_f ?_)))
    (refine vCallX_of ?_; (repeat (first | simp (maxSteps := 2000000) (disch := omega) only [go_sem, ↓reduceIte, Nat.reduceEqDiff, Nat.reduceAdd, Nat.reduceMul, Nat.reduceSub, Int.reduceToNat, Int.reduceAdd, Int.reduceSub, Int.reduceMul, Int.reduceNeg] | with_reducible refine vIf_t ?_ | with_reducible refine vIf_f ?_)); refine vCall_eq (h2) (by simp (disch := omega) only [go_sem, Nat.reduceAdd]) rfl (by first | exact Or.inl rfl | exact Or.inr ⟨rfl, rfl⟩ | (apply Or.inr; simp only [go_sem])) ?_; (repeat (first | simp (maxSteps := 2000000) (disch := omega) only [go_sem, ↓reduceIte, Nat.reduceEqDiff, Nat.reduceAdd, Nat.reduceMul, Nat.reduceSub, Int.reduceToNat, Int.reduceAdd, Int.reduceSub, Int.reduceMul, Int.reduceNeg] | with_reducible refine vIf_t ?_ | with_reducible refine vIf_f ?_)))
    (try (repeat (first | simp (maxSteps := 2000000) (disch := omega) only [go_sem, ↓reduceIte, Nat.reduceEqDiff, Nat.reduceAdd, Nat.reduceMul, Nat.reduceSub, Int.reduceToNat, Int.reduceAdd, Int.reduceSub, Int.reduceMul, Int.reduceNeg, e1] | with_reducible refine vIf_t ?_ | with_reducible refine vIf_f ?_)))
    (refine retK_of ?_; (repeat (first | simp (maxSteps := 2000000) (disch := omega) only [go_sem, ↓reduceIte, Nat.reduceEqDiff, Nat.reduceAdd, Nat.reduceMul, Nat.reduceSub, Int.reduceToNat, Int.reduceAdd, Int.reduceSub, Int.reduceMul, Int.reduceNeg] | with_reducible refine vIf_t ?_ | with_reducible refine vIf_f ?_)))
    try simp [e1]
  | false =>
    (try (repeat (first | simp (maxSteps := 2000000) (disch := omega) only [go_sem, ↓reduceIte, Nat.reduceEqDiff, Nat.reduceAdd, Nat.reduceMul, Nat.reduceSub, Int.reduceToNat, Int.reduceAdd, Int.reduceSub, Int.reduceMul, Int.reduceNeg, e1] | with_reducible refine vIf_t ?_ | with_reducible refine vIf_f ?_)))
    (refine retK_of ?_; (repeat (first | simp (maxSteps := 2000000) (disch := omega) only [go_sem, ↓reduceIte, Nat.reduceEqDiff, Nat.reduceAdd, Nat.reduceMul, Nat.reduceSub, Int.reduceToNat, Int.reduceAdd, Int.reduceSub, Int.reduceMul, Int.reduceNeg] | with_reducible refine vIf_t ?_ | with_reducible refine vIf_f ?_)))
    try simp [e1]
theorem allSct_snoc (q : Sct → Bool) (xs : List Sct) (k : Nat) (h : k < xs.length) (he : (xs.take k).all q = true) (hq : q (gSct xs k) = true) : (xs.take (k + 1)).all q = true := by
  rw [gSct_take_succ xs k h, List.all_append, he]; simp [hq]
theorem allSct_no (q : Sct → Bool) (xs : List Sct) (k : Nat) (h : k < xs.length) (hq : q (gSct xs k) = false) : xs.all q = false := by
  rw [List.all_eq_false]
  exact ⟨gSct xs k, gSct_mem xs k h, by simp [hq]⟩
theorem allSct_ok (f : FuncId) (caps : List V) (q : Sct → Bool) (xs : List Sct) (hf : ∀ x ∈ xs, ACalls Try.prog f (.agg x.cells :: caps) [] (fun r o => r = B (q x) ∧ o = [])) (hc : V.norefL caps = true) (hl : xs.length ≤ 10000000) :
    ACalls Try.prog 106 [.sl xs.length (cSct xs), .fn f caps] [] (fun r o => r = B (xs.all q) ∧ o = []) := by
  refine ACalls.of_vc Try.func106 rfl (by decide) 18 rfl [.tmp 4] rfl (by simp) ?_
  (repeat (first | simp (maxSteps := 2000000) (disch := omega) only [go_sem, ↓reduceIte, Nat.reduceEqDiff, Nat.reduceAdd, Nat.reduceMul, Nat.reduceSub, Int.reduceToNat, Int.reduceAdd, Int.reduceSub, Int.reduceMul, Int.reduceNeg] | with_reducible refine vIf_t ?_ | with_reducible refine vIf_f ?_))
  refine vcLoop_inv (fun k : Nat => k ≤ xs.length ∧ (xs.take k).all q = true) (fun k => ⟨18, 0, [(9, I k), (8, I xs.length), (7, .sl xs.length (cSct xs)), (1, .fn f caps)], []⟩) (fun k => xs.length - k) 0 (by simp) (by (repeat (first | simp (maxSteps := 2000000) (disch := omega) only [go_sem, ↓reduceIte, Nat.reduceEqDiff, Nat.reduceAdd, Nat.reduceMul, Nat.reduceSub, Int.reduceToNat, Int.reduceAdd, Int.reduceSub, Int.reduceMul, Int.reduceNeg, killL_noref _ _ hc] | with_reducible refine vIf_t ?_ | with_reducible refine vIf_f ?_)); all_goals (try simp)) ?_
  intro k ⟨hk, he⟩
  (repeat (first | simp (maxSteps := 2000000) (disch := omega) only [go_sem, ↓reduceIte, Nat.reduceEqDiff, Nat.reduceAdd, Nat.reduceMul, Nat.reduceSub, Int.reduceToNat, Int.reduceAdd, Int.reduceSub, Int.reduceMul, Int.reduceNeg] | with_reducible refine vIf_t ?_ | with_reducible refine vIf_f ?_))
  refine vIf_dec (fun h => ?_) (fun h => ?_)
  · have hq := hf (gSct xs k) (gSct_mem xs k (by omega))
    unfold Sct.cells at hq
    (repeat (first | simp (maxSteps := 2000000) (disch := omega) only [go_sem, ↓reduceIte, Nat.reduceEqDiff, Nat.reduceAdd, Nat.reduceMul, Nat.reduceSub, Int.reduceToNat, Int.reduceAdd, Int.reduceSub, Int.reduceMul, Int.reduceNeg] | with_reducible refine vIf_t ?_ | with_reducible refine vIf_f ?_))
    refine vCallX_of ?_
    (repeat (first | simp (maxSteps := 2000000) (disch := omega) only [go_sem, ↓reduceIte, Nat.reduceEqDiff, Nat.reduceAdd, Nat.reduceMul, Nat.reduceSub, Int.reduceToNat, Int.reduceAdd, Int.reduceSub, Int.reduceMul, Int.reduceNeg] | with_reducible refine vIf_t ?_ | with_reducible refine vIf_f ?_))
    refine vCall_eq hq (by (repeat (first | simp (maxSteps := 2000000) (disch := omega) only [go_sem, ↓reduceIte, Nat.reduceEqDiff, Nat.reduceAdd, Nat.reduceMul, Nat.reduceSub, Int.reduceToNat, Int.reduceAdd, Int.reduceSub, Int.reduceMul, Int.reduceNeg, frzL_noref _ _ hc] | with_reducible refine vIf_t ?_ | with_reducible refine vIf_f ?_))) (by (repeat (first | simp (maxSteps := 2000000) (disch := omega) only [go_sem, ↓reduceIte, Nat.reduceEqDiff, Nat.reduceAdd, Nat.reduceMul, Nat.reduceSub, Int.reduceToNat, Int.reduceAdd, Int.reduceSub, Int.reduceMul, Int.reduceNeg, hc] | with_reducible refine vIf_t ?_ | with_reducible refine vIf_f ?_))) (Or.inl (by (repeat (first | simp (maxSteps := 2000000) (disch := omega) only [go_sem, ↓reduceIte, Nat.reduceEqDiff, Nat.reduceAdd, Nat.reduceMul, Nat.reduceSub, Int.reduceToNat, Int.reduceAdd, Int.reduceSub, Int.reduceMul, Int.reduceNeg, hc] | with_reducible refine vIf_t ?_ | with_reducible refine vIf_f ?_)))) ?_
    (repeat (first | simp (maxSteps := 2000000) (disch := omega) only [go_sem, ↓reduceIte, Nat.reduceEqDiff, Nat.reduceAdd, Nat.reduceMul, Nat.reduceSub, Int.reduceToNat, Int.reduceAdd, Int.reduceSub, Int.reduceMul, Int.reduceNeg] | with_reducible refine vIf_t ?_ | with_reducible refine vIf_f ?_))
    refine vIf_not (fun h3 => ?_) (fun h3 => ?_)
    · (repeat (first | simp (maxSteps := 2000000) (disch := omega) only [go_sem, ↓reduceIte, Nat.reduceEqDiff, Nat.reduceAdd, Nat.reduceMul, Nat.reduceSub, Int.reduceToNat, Int.reduceAdd, Int.reduceSub, Int.reduceMul, Int.reduceNeg] | with_reducible refine vIf_t ?_ | with_reducible refine vIf_f ?_))
      (refine retK_of ?_; (repeat (first | simp (maxSteps := 2000000) (disch := omega) only [go_sem, ↓reduceIte, Nat.reduceEqDiff, Nat.reduceAdd, Nat.reduceMul, Nat.reduceSub, Int.reduceToNat, Int.reduceAdd, Int.reduceSub, Int.reduceMul, Int.reduceNeg] | with_reducible refine vIf_t ?_ | with_reducible refine vIf_f ?_)))
      rw [allSct_no q xs k (by omega) h3]
    · (repeat (first | simp (maxSteps := 2000000) (disch := omega) only [go_sem, ↓reduceIte, Nat.reduceEqDiff, Nat.reduceAdd, Nat.reduceMul, Nat.reduceSub, Int.reduceToNat, Int.reduceAdd, Int.reduceSub, Int.reduceMul, Int.reduceNeg] | with_reducible refine vIf_t ?_ | with_reducible refine vIf_f ?_))
      refine again (k + 1) ⟨by omega, allSct_snoc q xs k (by omega) he h3⟩ (by omega) ?_
      (repeat (first | simp (maxSteps := 2000000) (disch := omega) only [go_sem, ↓reduceIte, Nat.reduceEqDiff, Nat.reduceAdd, Nat.reduceMul, Nat.reduceSub, Int.reduceToNat, Int.reduceAdd, Int.reduceSub, Int.reduceMul, Int.reduceNeg, killL_noref _ _ hc] | with_reducible refine vIf_t ?_ | with_reducible refine vIf_f ?_))
  · (repeat (first | simp (maxSteps := 2000000) (disch := omega) only [go_sem, ↓reduceIte, Nat.reduceEqDiff, Nat.reduceAdd, Nat.reduceMul, Nat.reduceSub, Int.reduceToNat, Int.reduceAdd, Int.reduceSub, Int.reduceMul, Int.reduceNeg] | with_reducible refine vIf_t ?_ | with_reducible refine vIf_f ?_))
    (refine retK_of ?_; (repeat (first | simp (maxSteps := 2000000) (disch := omega) only [go_sem, ↓reduceIte, Nat.reduceEqDiff, Nat.reduceAdd, Nat.reduceMul, Nat.reduceSub, Int.reduceToNat, Int.reduceAdd, Int.reduceSub, Int.reduceMul, Int.reduceNeg] | with_reducible refine vIf_t ?_ | with_reducible refine vIf_f ?_)))
    rw [List.take_of_length_le (by omega)] at he
    simp [he]
theorem sizeSct_ok (xs : List V) (n : Nat) : ACalls Try.prog 80 [.sl n xs] [] (fun r o => r = I n ∧ o = []) := by
  refine ACalls.of_vc Try.func80 rfl (by decide) 5 rfl [.tmp 2] rfl (by simp) ?_
  (repeat (first | simp (maxSteps := 2000000) (disch := omega) only [go_sem, ↓reduceIte, Nat.reduceEqDiff, Nat.reduceAdd, Nat.reduceMul, Nat.reduceSub, Int.reduceToNat, Int.reduceAdd, Int.reduceSub, Int.reduceMul, Int.reduceNeg] | with_reducible refine vIf_t ?_ | with_reducible refine vIf_f ?_))
  (refine retK_of ?_; (repeat (first | simp (maxSteps := 2000000) (disch := omega) only [go_sem, ↓reduceIte, Nat.reduceEqDiff, Nat.reduceAdd, Nat.reduceMul, Nat.reduceSub, Int.reduceToNat, Int.reduceAdd, Int.reduceSub, Int.reduceMul, Int.reduceNeg] | with_reducible refine vIf_t ?_ | with_reducible refine vIf_f ?_)))
theorem validDike_ok (ds : List Sct) (hl : ds.length ≤ 10000000) : ACalls Try.prog 67 [.sl ds.length (cSct ds)] [] (fun r o => r = B (dkB ds) ∧ o = []) := by
  refine ACalls.of_vc Try.func67 rfl (by decide) 10 rfl [.tmp 2] rfl (by simp) ?_
  have h1 := sizeSct_ok (cSct ds) ds.length
  have h2 := in_ok ds.length 1 30
  have h3 := allSct_ok 107 [] sctB ds (fun x _ => isSect_ok x.ln x.cr) rfl hl
  unfold dkB
  (repeat (first | simp (maxSteps := 2000000) (disch := omega) only [go_sem, ↓reduceIte, Nat.reduceEqDiff, Nat.reduceAdd, Nat.reduceMul, Nat.reduceSub, Int.reduceToNat, Int.reduceAdd, Int.reduceSub, Int.reduceMul, Int.reduceNeg] | with_reducible refine vIf_t ?_ | with_reducible refine vIf_f ?_))
  (refine vCallX_of ?_; (repeat (first | simp (maxSteps := 2000000) (disch := omega) only [go_sem, ↓reduceIte, Nat.reduceEqDiff, Nat.reduceAdd, Nat.reduceMul, Nat.reduceSub, Int.reduceToNat, Int.reduceAdd, Int.reduceSub, Int.reduceMul, Int.reduceNeg] | with_reducible refine vIf_t ?_ | with_reducible refine vIf_f ?_)); refine vCall_eq (h1) (by simp (disch := omega) only [go_sem, Nat.reduceAdd]) rfl (by first | exact Or.inl rfl | exact Or.inr ⟨rfl, rfl⟩ | (apply Or.inr; simp only [go_sem])) ?_; (repeat (first | simp (maxSteps := 2000000) (disch := omega) only [go_sem, ↓reduceIte, Nat.reduceEqDiff, Nat.reduceAdd, Nat.reduceMul, Nat.reduceSub, Int.reduceToNat, Int.reduceAdd, Int.reduceSub, Int.reduceMul, Int.reduceNeg] | with_reducible refine vIf_t ?_ | with_reducible refine vIf_f ?_)))
  (refine vCallX_of ?_; (repeat (first | simp (maxSteps := 2000000) (disch := omega) only [go_sem, ↓reduceIte, Nat.reduceEqDiff, Nat.reduceAdd, Nat.reduceMul, Nat.reduceSub, Int.reduceToNat, Int.reduceAdd, Int.reduceSub, Int.reduceMul, Int.reduceNeg] | with_reducible refine vIf_t ?_ | with_reducible refine vIf_f ?_)); refine vCall_eq (h2) (by simp (disch := omega) only [go_sem, Nat.reduceAdd]) rfl (by first | exact Or.inl rfl | exact Or.inr ⟨rfl, rfl⟩ | (apply Or.inr; simp only [go_sem])) ?_; (repeat (first | simp (maxSteps := 2000000) (disch := omega) only [go_sem, ↓reduceIte, Nat.reduceEqDiff, Nat.reduceAdd, Nat.reduceMul, Nat.reduceSub, Int.reduceToNat, Int.reduceAdd, Int.reduceSub, Int.reduceMul, Int.reduceNeg] | with_reducible refine vIf_t ?_ | with_reducible refine vIf_f ?_)))
  cases e1 : decide (1 ≤ (ds.length : Int) ∧ (ds.length : Int) ≤ 30) with
  | true =>
    (try (repeat (first | simp (maxSteps := 2000000) (disch := omega) only [go_sem, ↓reduceIte, Nat.reduceEqDiff, Nat.reduceAdd, Nat.reduceMul, Nat.reduceSub, Int.reduceToNat, Int.reduceAdd, Int.reduceSub, Int.reduceMul, Int.reduceNeg, e1] | with_reducible refine vIf_t ?_ | with_reducible refine vIf_f ?_)))
    (refine vCallX_of ?_; (repeat (first | simp (maxSteps := 2000000) (disch := omega) only [go_sem, ↓reduceIte, Nat.reduceEqDiff, Nat.reduceAdd, Nat.reduceMul, Nat.reduceSub, Int.reduceToNat, Int.reduceAdd, Int.reduceSub, Int.reduceMul, Int.reduceNeg] | with_reducible refine vIf_t ?_ | with_reducible refine vIf_f ?_)); refine vCall_eq (h3) (by simp (disch := omega) only [go_sem, Nat.reduceAdd]) rfl (by first | exact Or.inl rfl | exact Or.inr ⟨rfl, rfl⟩ | (apply Or.inr; simp only [go_sem])) ?_; (repeat (first | simp (maxSteps := 2000000) (disch := omega) only [go_sem, ↓reduceIte, Nat.reduceEqDiff, Nat.reduceAdd, Nat.reduceMul, Nat.reduceSub, Int.reduceToNat, Int.reduceAdd, Int.reduceSub, Int.reduceMul, Int.reduceNeg] | with_reducible refine vIf_t ?_ | with_reducible refine vIf_f ?_)))
    (try (repeat (first | simp (maxSteps := 2000000) (disch := omega) only [go_sem, ↓reduceIte, Nat.reduceEqDiff, Nat.reduceAdd, Nat.reduceMul, Nat.reduceSub, Int.reduceToNat, Int.reduceAdd, Int.reduceSub, Int.reduceMul, Int.reduceNeg, e1] | with_reducible refine vIf_t ?_ | with_reducible refine vIf_f ?_)))
    (refine retK_of ?_; (repeat (first | simp (maxSteps := 2000000) (disch := omega) only [go_sem, ↓reduceIte, Nat.reduceEqDiff, Nat.reduceAdd, Nat.reduceMul, Nat.reduceSub, Int.reduceToNat, Int.reduceAdd, Int.reduceSub, Int.reduceMul, Int.reduceNeg] | with_reducible refine vIf_t ?_ | with_reducible refine vIf_f ?_)))
    try simp [e1]
  | false =>
    (try (repeat (first | simp (maxSteps := 2000000) (disch := omega) only [go_sem, ↓reduceIte, Nat.reduceEqDiff, Nat.reduceAdd, Nat.reduceMul, Nat.reduceSub, Int.reduceToNat, Int.reduceAdd, Int.reduceSub, Int.reduceMul, Int.reduceNeg, e1] | with_reducible refine vIf_t ?_ | with_reducible refine vIf_f ?_)))
    (refine retK_of ?_; (repeat (first | simp (maxSteps := 2000000) (disch := omega) only [go_sem, ↓reduceIte, Nat.reduceEqDiff, Nat.reduceAdd, Nat.reduceMul, Nat.reduceSub, Int.reduceToNat, Int.reduceAdd, Int.reduceSub, Int.reduceMul, Int.reduceNeg] | with_reducible refine vIf_t ?_ | with_reducible refine vIf_f ?_)))
    try simp [e1]
theorem dkB_no {ds : List Sct} (k : Nat) (h : k < ds.length) (hs : sctB (gSct ds k) = false) : dkB ds = false := by
  unfold dkB
  rw [allSct_no sctB ds k h hs, Bool.and_false]
theorem l07Ok_ok (ds : List Sct) (hl : ds.length ≤ 10000000) : ACalls Try.prog 69 [.sl ds.length (cSct ds)] [] (fun r o => r = B (dkB ds) ∧ o = []) := by
  refine ACalls.of_vc Try.func69 rfl (by decide) 29 rfl [.tmp 2] rfl (by simp) ?_
  (repeat (first | simp (maxSteps := 2000000) (disch := omega) only [go_sem, ↓reduceIte, Nat.reduceEqDiff, Nat.reduceAdd, Nat.reduceMul, Nat.reduceSub, Int.reduceToNat, Int.reduceAdd, Int.reduceSub, Int.reduceMul, Int.reduceNeg] | with_reducible refine vIf_t ?_ | with_reducible refine vIf_f ?_))
  refine vcLoop_invF (fun k : Nat => k ≤ ds.length ∧ (ds.take k).all sctB = true) (fun k => ⟨29, 0, [(3, I k), (0, .sl ds.length (cSct ds))], []⟩) (fun k => ds.length - k) 0 ⟨by omega, rfl⟩ (by (first | (refine leF_s ?_; ((repeat (first | simp (maxSteps := 2000000) (disch := omega) only [go_sem, ↓reduceIte, Nat.reduceEqDiff, Nat.reduceAdd, Nat.reduceMul, Nat.reduceSub, Int.reduceToNat, Int.reduceAdd, Int.reduceSub, Int.reduceMul, Int.reduceNeg] | with_reducible refine vIf_t ?_ | with_reducible refine vIf_f ?_)); all_goals (try simp); all_goals (try omega)); done) | (refine leF_p ?_; ((repeat (first | simp (maxSteps := 2000000) (disch := omega) only [go_sem, ↓reduceIte, Nat.reduceEqDiff, Nat.reduceAdd, Nat.reduceMul, Nat.reduceSub, Int.reduceToNat, Int.reduceAdd, Int.reduceSub, Int.reduceMul, Int.reduceNeg] | with_reducible refine vIf_t ?_ | with_reducible refine vIf_f ?_)); all_goals (try simp); all_goals (try omega)); done))) ?_
  rintro k ⟨hk, he⟩
  (repeat (first | simp (maxSteps := 2000000) (disch := omega) only [go_sem, ↓reduceIte, Nat.reduceEqDiff, Nat.reduceAdd, Nat.reduceMul, Nat.reduceSub, Int.reduceToNat, Int.reduceAdd, Int.reduceSub, Int.reduceMul, Int.reduceNeg] | with_reducible refine vIf_t ?_ | with_reducible refine vIf_f ?_))
  refine vIf_dec (fun h => ?_) (fun h => ?_)
  · have hkl : k < ds.length := by omega
    have h1 := inS_ok (gSct ds k).ln 1 10000
    have h2 := bLevS_ok (gSct ds k).cr
    rw [show decide (1 ≤ (gSct ds k).ln ∧ (gSct ds k).ln ≤ 10000) = lnB (gSct ds k).ln from rfl] at h1
    (repeat (first | simp (maxSteps := 2000000) (disch := omega) only [go_sem, ↓reduceIte, Nat.reduceEqDiff, Nat.reduceAdd, Nat.reduceMul, Nat.reduceSub, Int.reduceToNat, Int.reduceAdd, Int.reduceSub, Int.reduceMul, Int.reduceNeg] | with_reducible refine vIf_t ?_ | with_reducible refine vIf_f ?_))
    (refine vCallX_of ?_; (repeat (first | simp (maxSteps := 2000000) (disch := omega) only [go_sem, ↓reduceIte, Nat.reduceEqDiff, Nat.reduceAdd, Nat.reduceMul, Nat.reduceSub, Int.reduceToNat, Int.reduceAdd, Int.reduceSub, Int.reduceMul, Int.reduceNeg] | with_reducible refine vIf_t ?_ | with_reducible refine vIf_f ?_)); refine vCall_eq (h1) (by simp (disch := omega) only [go_sem, Nat.reduceAdd]) rfl (by first | exact Or.inl rfl | exact Or.inr ⟨rfl, rfl⟩ | (apply Or.inr; simp only [go_sem])) ?_; (repeat (first | simp (maxSteps := 2000000) (disch := omega) only [go_sem, ↓reduceIte, Nat.reduceEqDiff, Nat.reduceAdd, Nat.reduceMul, Nat.reduceSub, Int.reduceToNat, Int.reduceAdd, Int.reduceSub, Int.reduceMul, Int.reduceNeg] | with_reducible refine vIf_t ?_ | with_reducible refine vIf_f ?_)))
    cases e1 : lnB (gSct ds k).ln with
    | true =>
      (try (repeat (first | simp (maxSteps := 2000000) (disch := omega) only [go_sem, ↓reduceIte, Nat.reduceEqDiff, Nat.reduceAdd, Nat.reduceMul, Nat.reduceSub, Int.reduceToNat, Int.reduceAdd, Int.reduceSub, Int.reduceMul, Int.reduceNeg, e1] | with_reducible refine vIf_t ?_ | with_reducible refine vIf_f ?_)))
      (refine vCallX_of ?_; (repeat (first | simp (maxSteps := 2000000) (disch := omega) only [go_sem, ↓reduceIte, Nat.reduceEqDiff, Nat.reduceAdd, Nat.reduceMul, Nat.reduceSub, Int.reduceToNat, Int.reduceAdd, Int.reduceSub, Int.reduceMul, Int.reduceNeg] | with_reducible refine vIf_t ?_ | with_reducible refine vIf_f ?_)); refine vCall_eq (h2) (by simp (disch := omega) only [go_sem, Nat.reduceAdd]) rfl (by first | exact Or.inl rfl | exact Or.inr ⟨rfl, rfl⟩ | (apply Or.inr; simp only [go_sem])) ?_; (repeat (first | simp (maxSteps := 2000000) (disch := omega) only [go_sem, ↓reduceIte, Nat.reduceEqDiff, Nat.reduceAdd, Nat.reduceMul, Nat.reduceSub, Int.reduceToNat, Int.reduceAdd, Int.reduceSub, Int.reduceMul, Int.reduceNeg] | with_reducible refine vIf_t ?_ | with_reducible refine vIf_f ?_)))
      cases e2 : lvB (gSct ds k).cr with
      | true =>
        (try (repeat (first | simp (maxSteps := 2000000) (disch := omega) only [go_sem, ↓reduceIte, Nat.reduceEqDiff, Nat.reduceAdd, Nat.reduceMul, Nat.reduceSub, Int.reduceToNat, Int.reduceAdd, Int.reduceSub, Int.reduceMul, Int.reduceNeg, e1, e2] | with_reducible refine vIf_t ?_ | with_reducible refine vIf_f ?_)))
        have hq : sctB (gSct ds k) = true := by unfold sctB; rw [e1, e2]; rfl
        refine againF (k + 1) ⟨by omega, allSct_snoc sctB ds k hkl he hq⟩ (by omega) (by (first | (refine leF_s ?_; ((repeat (first | simp (maxSteps := 2000000) (disch := omega) only [go_sem, ↓reduceIte, Nat.reduceEqDiff, Nat.reduceAdd, Nat.reduceMul, Nat.reduceSub, Int.reduceToNat, Int.reduceAdd, Int.reduceSub, Int.reduceMul, Int.reduceNeg] | with_reducible refine vIf_t ?_ | with_reducible refine vIf_f ?_)); all_goals (try simp); all_goals (try omega)); done) | (refine leF_p ?_; ((repeat (first | simp (maxSteps := 2000000) (disch := omega) only [go_sem, ↓reduceIte, Nat.reduceEqDiff, Nat.reduceAdd, Nat.reduceMul, Nat.reduceSub, Int.reduceToNat, Int.reduceAdd, Int.reduceSub, Int.reduceMul, Int.reduceNeg] | with_reducible refine vIf_t ?_ | with_reducible refine vIf_f ?_)); all_goals (try simp); all_goals (try omega)); done)))
      | false =>
        rw [dkB_no k hkl (by unfold sctB; rw [e1, e2]; rfl)]
        (try (repeat (first | simp (maxSteps := 2000000) (disch := omega) only [go_sem, ↓reduceIte, Nat.reduceEqDiff, Nat.reduceAdd, Nat.reduceMul, Nat.reduceSub, Int.reduceToNat, Int.reduceAdd, Int.reduceSub, Int.reduceMul, Int.reduceNeg, e1, e2] | with_reducible refine vIf_t ?_ | with_reducible refine vIf_f ?_)))
        (refine retK_of ?_; (repeat (first | simp (maxSteps := 2000000) (disch := omega) only [go_sem, ↓reduceIte, Nat.reduceEqDiff, Nat.reduceAdd, Nat.reduceMul, Nat.reduceSub, Int.reduceToNat, Int.reduceAdd, Int.reduceSub, Int.reduceMul, Int.reduceNeg] | with_reducible refine vIf_t ?_ | with_reducible refine vIf_f ?_)))
    | false =>
      rw [dkB_no k hkl (by unfold sctB; rw [e1]; rfl)]
      (try (repeat (first | simp (maxSteps := 2000000) (disch := omega) only [go_sem, ↓reduceIte, Nat.reduceEqDiff, Nat.reduceAdd, Nat.reduceMul, Nat.reduceSub, Int.reduceToNat, Int.reduceAdd, Int.reduceSub, Int.reduceMul, Int.reduceNeg, e1] | with_reducible refine vIf_t ?_ | with_reducible refine vIf_f ?_)))
      (refine retK_of ?_; (repeat (first | simp (maxSteps := 2000000) (disch := omega) only [go_sem, ↓reduceIte, Nat.reduceEqDiff, Nat.reduceAdd, Nat.reduceMul, Nat.reduceSub, Int.reduceToNat, Int.reduceAdd, Int.reduceSub, Int.reduceMul, Int.reduceNeg] | with_reducible refine vIf_t ?_ | with_reducible refine vIf_f ?_)))
  · have ek : k = ds.length := by omega
    subst ek
    rw [List.take_length] at he
    have h2 := inS_ok ds.length 1 30
    unfold dkB
    rw [he, Bool.and_true]
    (repeat (first | simp (maxSteps := 2000000) (disch := omega) only [go_sem, ↓reduceIte, Nat.reduceEqDiff, Nat.reduceAdd, Nat.reduceMul, Nat.reduceSub, Int.reduceToNat, Int.reduceAdd, Int.reduceSub, Int.reduceMul, Int.reduceNeg] | with_reducible refine vIf_t ?_ | with_reducible refine vIf_f ?_))
    (refine vCallX_of ?_; (repeat (first | simp (maxSteps := 2000000) (disch := omega) only [go_sem, ↓reduceIte, Nat.reduceEqDiff, Nat.reduceAdd, Nat.reduceMul, Nat.reduceSub, Int.reduceToNat, Int.reduceAdd, Int.reduceSub, Int.reduceMul, Int.reduceNeg] | with_reducible refine vIf_t ?_ | with_reducible refine vIf_f ?_)); refine vCall_eq (h2) (by simp (disch := omega) only [go_sem, Nat.reduceAdd]) rfl (by first | exact Or.inl rfl | exact Or.inr ⟨rfl, rfl⟩ | (apply Or.inr; simp only [go_sem])) ?_; (repeat (first | simp (maxSteps := 2000000) (disch := omega) only [go_sem, ↓reduceIte, Nat.reduceEqDiff, Nat.reduceAdd, Nat.reduceMul, Nat.reduceSub, Int.reduceToNat, Int.reduceAdd, Int.reduceSub, Int.reduceMul, Int.reduceNeg] | with_reducible refine vIf_t ?_ | with_reducible refine vIf_f ?_)))
    (refine retK_of ?_; (repeat (first | simp (maxSteps := 2000000) (disch := omega) only [go_sem, ↓reduceIte, Nat.reduceEqDiff, Nat.reduceAdd, Nat.reduceMul, Nat.reduceSub, Int.reduceToNat, Int.reduceAdd, Int.reduceSub, Int.reduceMul, Int.reduceNeg] | with_reducible refine vIf_t ?_ | with_reducible refine vIf_f ?_)))
/-- the code for a dike and a level -/
def dcC (ds : List Sct) (v : Int) : Int := if dkB ds = true then if lvB v = true then 0 else 2 else 1
theorem dcC_0 {ds : List Sct} {v : Int} (h : dcC ds v = 0) : DkF ds ∧ (-2000 ≤ v ∧ v ≤ 2000) := by
  unfold dcC at h
  split at h
  · rename_i h1
    split at h
    · rename_i h2
      exact ⟨dkB_f h1, by simpa [lvB] using h2⟩
    · omega
  · omega
theorem isDikeAt_ok (ds : List Sct) (v : Int) (hl : ds.length ≤ 10000000) : ACalls Try.prog 78 [.sl ds.length (cSct ds), I v] [] (fun r o => r = I (dcC ds v) ∧ o = []) := by
  refine ACalls.of_vc Try.func78 rfl (by decide) 13 rfl [.tmp 4] rfl (by simp) ?_
  have h1 := validDike_ok ds hl
  have h2 := bLev_ok v
  unfold dcC
  (repeat (first | simp (maxSteps := 2000000) (disch := omega) only [go_sem, ↓reduceIte, Nat.reduceEqDiff, Nat.reduceAdd, Nat.reduceMul, Nat.reduceSub, Int.reduceToNat, Int.reduceAdd, Int.reduceSub, Int.reduceMul, Int.reduceNeg] | with_reducible refine vIf_t ?_ | with_reducible refine vIf_f ?_))
  (refine vCallX_of ?_; (repeat (first | simp (maxSteps := 2000000) (disch := omega) only [go_sem, ↓reduceIte, Nat.reduceEqDiff, Nat.reduceAdd, Nat.reduceMul, Nat.reduceSub, Int.reduceToNat, Int.reduceAdd, Int.reduceSub, Int.reduceMul, Int.reduceNeg] | with_reducible refine vIf_t ?_ | with_reducible refine vIf_f ?_)); refine vCall_eq (h1) (by simp (disch := omega) only [go_sem, Nat.reduceAdd]) rfl (by first | exact Or.inl rfl | exact Or.inr ⟨rfl, rfl⟩ | (apply Or.inr; simp only [go_sem])) ?_; (repeat (first | simp (maxSteps := 2000000) (disch := omega) only [go_sem, ↓reduceIte, Nat.reduceEqDiff, Nat.reduceAdd, Nat.reduceMul, Nat.reduceSub, Int.reduceToNat, Int.reduceAdd, Int.reduceSub, Int.reduceMul, Int.reduceNeg] | with_reducible refine vIf_t ?_ | with_reducible refine vIf_f ?_)))
  cases e1 : dkB ds with
  | true =>
    (try (repeat (first | simp (maxSteps := 2000000) (disch := omega) only [go_sem, ↓reduceIte, Nat.reduceEqDiff, Nat.reduceAdd, Nat.reduceMul, Nat.reduceSub, Int.reduceToNat, Int.reduceAdd, Int.reduceSub, Int.reduceMul, Int.reduceNeg, e1] | with_reducible refine vIf_t ?_ | with_reducible refine vIf_f ?_)))
    (refine vCallX_of ?_; (repeat (first | simp (maxSteps := 2000000) (disch := omega) only [go_sem, ↓reduceIte, Nat.reduceEqDiff, Nat.reduceAdd, Nat.reduceMul, Nat.reduceSub, Int.reduceToNat, Int.reduceAdd, Int.reduceSub, Int.reduceMul, Int.reduceNeg] | with_reducible refine vIf_t ?_ | with_reducible refine vIf_f ?_)); refine vCall_eq (h2) (by simp (disch := omega) only [go_sem, Nat.reduceAdd]) rfl (by first | exact Or.inl rfl | exact Or.inr ⟨rfl, rfl⟩ | (apply Or.inr; simp only [go_sem])) ?_; (repeat (first | simp (maxSteps := 2000000) (disch := omega) only [go_sem, ↓reduceIte, Nat.reduceEqDiff, Nat.reduceAdd, Nat.reduceMul, Nat.reduceSub, Int.reduceToNat, Int.reduceAdd, Int.reduceSub, Int.reduceMul, Int.reduceNeg] | with_reducible refine vIf_t ?_ | with_reducible refine vIf_f ?_)))
    cases e2 : lvB v with
    | true =>
      (try (repeat (first | simp (maxSteps := 2000000) (disch := omega) only [go_sem, ↓reduceIte, Nat.reduceEqDiff, Nat.reduceAdd, Nat.reduceMul, Nat.reduceSub, Int.reduceToNat, Int.reduceAdd, Int.reduceSub, Int.reduceMul, Int.reduceNeg, e2] | with_reducible refine vIf_t ?_ | with_reducible refine vIf_f ?_)))
      (refine retK_of ?_; (repeat (first | simp (maxSteps := 2000000) (disch := omega) only [go_sem, ↓reduceIte, Nat.reduceEqDiff, Nat.reduceAdd, Nat.reduceMul, Nat.reduceSub, Int.reduceToNat, Int.reduceAdd, Int.reduceSub, Int.reduceMul, Int.reduceNeg] | with_reducible refine vIf_t ?_ | with_reducible refine vIf_f ?_)))
      try rfl
    | false =>
      (try (repeat (first | simp (maxSteps := 2000000) (disch := omega) only [go_sem, ↓reduceIte, Nat.reduceEqDiff, Nat.reduceAdd, Nat.reduceMul, Nat.reduceSub, Int.reduceToNat, Int.reduceAdd, Int.reduceSub, Int.reduceMul, Int.reduceNeg, e2] | with_reducible refine vIf_t ?_ | with_reducible refine vIf_f ?_)))
      (refine retK_of ?_; (repeat (first | simp (maxSteps := 2000000) (disch := omega) only [go_sem, ↓reduceIte, Nat.reduceEqDiff, Nat.reduceAdd, Nat.reduceMul, Nat.reduceSub, Int.reduceToNat, Int.reduceAdd, Int.reduceSub, Int.reduceMul, Int.reduceNeg] | with_reducible refine vIf_t ?_ | with_reducible refine vIf_f ?_)))
      try rfl
  | false =>
    (try (repeat (first | simp (maxSteps := 2000000) (disch := omega) only [go_sem, ↓reduceIte, Nat.reduceEqDiff, Nat.reduceAdd, Nat.reduceMul, Nat.reduceSub, Int.reduceToNat, Int.reduceAdd, Int.reduceSub, Int.reduceMul, Int.reduceNeg, e1] | with_reducible refine vIf_t ?_ | with_reducible refine vIf_f ?_)))
    (refine retK_of ?_; (repeat (first | simp (maxSteps := 2000000) (disch := omega) only [go_sem, ↓reduceIte, Nat.reduceEqDiff, Nat.reduceAdd, Nat.reduceMul, Nat.reduceSub, Int.reduceToNat, Int.reduceAdd, Int.reduceSub, Int.reduceMul, Int.reduceNeg] | with_reducible refine vIf_t ?_ | with_reducible refine vIf_f ?_)))
    try rfl
theorem l07Code_ok (ds : List Sct) (v : Int) (hl : ds.length ≤ 10000000) : ACalls Try.prog 82 [.sl ds.length (cSct ds), I v] [] (fun r o => r = I (dcC ds v) ∧ o = []) := by
  refine ACalls.of_vc Try.func82 rfl (by decide) 11 rfl [.tmp 4] rfl (by simp) ?_
  have h1 := l07Ok_ok ds hl
  have h2 := bLevS_ok v
  unfold dcC
  (repeat (first | simp (maxSteps := 2000000) (disch := omega) only [go_sem, ↓reduceIte, Nat.reduceEqDiff, Nat.reduceAdd, Nat.reduceMul, Nat.reduceSub, Int.reduceToNat, Int.reduceAdd, Int.reduceSub, Int.reduceMul, Int.reduceNeg] | with_reducible refine vIf_t ?_ | with_reducible refine vIf_f ?_))
  (refine vCallX_of ?_; (repeat (first | simp (maxSteps := 2000000) (disch := omega) only [go_sem, ↓reduceIte, Nat.reduceEqDiff, Nat.reduceAdd, Nat.reduceMul, Nat.reduceSub, Int.reduceToNat, Int.reduceAdd, Int.reduceSub, Int.reduceMul, Int.reduceNeg] | with_reducible refine vIf_t ?_ | with_reducible refine vIf_f ?_)); refine vCall_eq (h1) (by simp (disch := omega) only [go_sem, Nat.reduceAdd]) rfl (by first | exact Or.inl rfl | exact Or.inr ⟨rfl, rfl⟩ | (apply Or.inr; simp only [go_sem])) ?_; (repeat (first | simp (maxSteps := 2000000) (disch := omega) only [go_sem, ↓reduceIte, Nat.reduceEqDiff, Nat.reduceAdd, Nat.reduceMul, Nat.reduceSub, Int.reduceToNat, Int.reduceAdd, Int.reduceSub, Int.reduceMul, Int.reduceNeg] | with_reducible refine vIf_t ?_ | with_reducible refine vIf_f ?_)))
  cases e1 : dkB ds with
  | true =>
    (try (repeat (first | simp (maxSteps := 2000000) (disch := omega) only [go_sem, ↓reduceIte, Nat.reduceEqDiff, Nat.reduceAdd, Nat.reduceMul, Nat.reduceSub, Int.reduceToNat, Int.reduceAdd, Int.reduceSub, Int.reduceMul, Int.reduceNeg, e1] | with_reducible refine vIf_t ?_ | with_reducible refine vIf_f ?_)))
    (refine vCallX_of ?_; (repeat (first | simp (maxSteps := 2000000) (disch := omega) only [go_sem, ↓reduceIte, Nat.reduceEqDiff, Nat.reduceAdd, Nat.reduceMul, Nat.reduceSub, Int.reduceToNat, Int.reduceAdd, Int.reduceSub, Int.reduceMul, Int.reduceNeg] | with_reducible refine vIf_t ?_ | with_reducible refine vIf_f ?_)); refine vCall_eq (h2) (by simp (disch := omega) only [go_sem, Nat.reduceAdd]) rfl (by first | exact Or.inl rfl | exact Or.inr ⟨rfl, rfl⟩ | (apply Or.inr; simp only [go_sem])) ?_; (repeat (first | simp (maxSteps := 2000000) (disch := omega) only [go_sem, ↓reduceIte, Nat.reduceEqDiff, Nat.reduceAdd, Nat.reduceMul, Nat.reduceSub, Int.reduceToNat, Int.reduceAdd, Int.reduceSub, Int.reduceMul, Int.reduceNeg] | with_reducible refine vIf_t ?_ | with_reducible refine vIf_f ?_)))
    cases e2 : lvB v with
    | true =>
      (try (repeat (first | simp (maxSteps := 2000000) (disch := omega) only [go_sem, ↓reduceIte, Nat.reduceEqDiff, Nat.reduceAdd, Nat.reduceMul, Nat.reduceSub, Int.reduceToNat, Int.reduceAdd, Int.reduceSub, Int.reduceMul, Int.reduceNeg, e2] | with_reducible refine vIf_t ?_ | with_reducible refine vIf_f ?_)))
      (refine retK_of ?_; (repeat (first | simp (maxSteps := 2000000) (disch := omega) only [go_sem, ↓reduceIte, Nat.reduceEqDiff, Nat.reduceAdd, Nat.reduceMul, Nat.reduceSub, Int.reduceToNat, Int.reduceAdd, Int.reduceSub, Int.reduceMul, Int.reduceNeg] | with_reducible refine vIf_t ?_ | with_reducible refine vIf_f ?_)))
      try rfl
    | false =>
      (try (repeat (first | simp (maxSteps := 2000000) (disch := omega) only [go_sem, ↓reduceIte, Nat.reduceEqDiff, Nat.reduceAdd, Nat.reduceMul, Nat.reduceSub, Int.reduceToNat, Int.reduceAdd, Int.reduceSub, Int.reduceMul, Int.reduceNeg, e2] | with_reducible refine vIf_t ?_ | with_reducible refine vIf_f ?_)))
      (refine retK_of ?_; (repeat (first | simp (maxSteps := 2000000) (disch := omega) only [go_sem, ↓reduceIte, Nat.reduceEqDiff, Nat.reduceAdd, Nat.reduceMul, Nat.reduceSub, Int.reduceToNat, Int.reduceAdd, Int.reduceSub, Int.reduceMul, Int.reduceNeg] | with_reducible refine vIf_t ?_ | with_reducible refine vIf_f ?_)))
      try rfl
  | false =>
    (try (repeat (first | simp (maxSteps := 2000000) (disch := omega) only [go_sem, ↓reduceIte, Nat.reduceEqDiff, Nat.reduceAdd, Nat.reduceMul, Nat.reduceSub, Int.reduceToNat, Int.reduceAdd, Int.reduceSub, Int.reduceMul, Int.reduceNeg, e1] | with_reducible refine vIf_t ?_ | with_reducible refine vIf_f ?_)))
    (refine retK_of ?_; (repeat (first | simp (maxSteps := 2000000) (disch := omega) only [go_sem, ↓reduceIte, Nat.reduceEqDiff, Nat.reduceAdd, Nat.reduceMul, Nat.reduceSub, Int.reduceToNat, Int.reduceAdd, Int.reduceSub, Int.reduceMul, Int.reduceNeg] | with_reducible refine vIf_t ?_ | with_reducible refine vIf_f ?_)))
    try rfl
/-! clay -/
def shO (norm : Int) (s : Sct) : Int := if 0 < norm - s.cr then norm - s.cr else 0
def ckK (norm : Int) (ds : List Sct) : Nat → Int
  | 0 => 0
  | k + 1 => ckK norm ds k + (gSct ds k).ln * shO norm (gSct ds k)
def clay (norm : Int) (ds : List Sct) : Int := (8 * ckK norm ds ds.length + 99) / 100
theorem ck_bd {ds : List Sct} (f : DkF ds) (norm : Int) (hn : -2001 ≤ norm ∧ norm ≤ 2001) (k : Nat) (hk : k ≤ ds.length) : 0 ≤ ckK norm ds k ∧ ckK norm ds k ≤ 40010000 * (k : Int) := by
  induction k with
  | zero => simp [ckK]
  | succ k ih =>
    have i := ih (by omega)
    have l := f.l k (by omega)
    have c := f.c k (by omega)
    have hs : 0 ≤ shO norm (gSct ds k) ∧ shO norm (gSct ds k) ≤ 4001 := by unfold shO; split <;> omega
    have h1 := Int.mul_nonneg (show 0 ≤ (gSct ds k).ln by omega) hs.1
    have h2 := Int.mul_le_mul l.2 hs.2 hs.1 (by omega)
    simp only [ckK]
    push_cast
    omega
theorem shO_bd {ds : List Sct} (f : DkF ds) (norm : Int) (hn : -2001 ≤ norm ∧ norm ≤ 2001) (k : Nat) (hk : k < ds.length) : (0 ≤ shO norm (gSct ds k) ∧ shO norm (gSct ds k) ≤ 4001) ∧ 0 ≤ (gSct ds k).ln * shO norm (gSct ds k) ∧ (gSct ds k).ln * shO norm (gSct ds k) ≤ 40010000 := by
  have l := f.l k (by omega)
  have c := f.c k (by omega)
  have hs : 0 ≤ shO norm (gSct ds k) ∧ shO norm (gSct ds k) ≤ 4001 := by unfold shO; split <;> omega
  have h1 := Int.mul_nonneg (show 0 ≤ (gSct ds k).ln by omega) hs.1
  have h2 := Int.mul_le_mul l.2 hs.2 hs.1 (by omega)
  exact ⟨hs, h1, by omega⟩
def wkS (ds : List Sct) : Nat → Nat
  | 0 => 0
  | k + 1 => if (gSct ds k).cr < (gSct ds (wkS ds k)).cr then k else wkS ds k
theorem wkS_lt (ds : List Sct) (k : Nat) (h : 1 ≤ k) : wkS ds k < k := by
  induction k with
  | zero => omega
  | succ k ih =>
    simp only [wkS]
    split
    · omega
    · by_cases h0 : k = 0
      · subst h0; simp [wkS]
      · have := ih (by omega); omega
theorem wkS_le (ds : List Sct) (k : Nat) (i : Nat) (h : i < k) : (gSct ds (wkS ds k)).cr ≤ (gSct ds i).cr := by
  induction k with
  | zero => omega
  | succ k ih =>
    simp only [wkS]
    by_cases e : i = k
    · subst e; split <;> omega
    · have := ih (by omega)
      split <;> omega
end Go.Proofs.Ytcmkkejcnomcdaa

/- the breach: codes, closing, the least stones -/
import Derived.Test.YtbgjkjiepkopkaaGreatDoorBre1
import Derived.Test.YtbgjkjiepkopkaaGreatDoorArgs
set_option linter.unusedVariables false
set_option linter.unusedSimpArgs false
namespace Go.Proofs.YtbgjkjiepkopkaaGreatDoor
open Go.AG

/-! hour after hour -/
noncomputable def brK (c : Cv) (b : Bre) (xs : List Int) (n : Int) : Nat → Bre
  | 0 => b
  | k + 1 => brS c (brK c b xs n k) (gi xs k) n
noncomputable def brT (c : Cv) (b : Bre) (xs : List Int) (n : Int) : Nat → Int
  | 0 => 0
  | k + 1 => brT c b xs n k + brC c (brK c b xs n k) (gi xs k) n
structure BrX (c : Cv) (b : Bre) (xs : List Int) : Prop where
  b : BrF c b
  ok : okC c = true
  x : ∀ y ∈ xs, -2000 ≤ y ∧ y ≤ 2000
  n : xs.length ≤ 100
theorem BrX.g {c : Cv} {b : Bre} {xs : List Int} (h : BrX c b xs) (k : Nat) (hk : k < xs.length) : -2000 ≤ gi xs k ∧ gi xs k ≤ 2000 := h.x _ (gi_mem xs k hk)
theorem brK_f {c : Cv} {b : Bre} {xs : List Int} (h : BrX c b xs) (n : Int) (hn : 0 ≤ n) (k : Nat) (hk : k ≤ xs.length) : BrF c (brK c b xs n k) := by
  induction k with
  | zero => exact h.b
  | succ k ih => exact brS_f (ih (by omega)) _ _ (h.g k (by omega)) hn
theorem brT_bd {c : Cv} {b : Bre} {xs : List Int} (h : BrX c b xs) (n : Int) (hn : 0 ≤ n ∧ n ≤ 1000) (k : Nat) (hk : k ≤ xs.length) : 0 ≤ brT c b xs n k ∧ brT c b xs n k ≤ n * k ∧ brT c b xs n k ≤ 1000 * (k : Int) ∧ b.wd ≤ brT c b xs n k + (brK c b xs n k).wd := by
  induction k with
  | zero => simp [brT, brK]
  | succ k ih =>
    obtain ⟨i1, i2, i3, i4⟩ := ih (by omega)
    have hf := brK_f h n hn.1 k (by omega)
    have h1 := brC_bd hf (gi xs k) n (h.g k (by omega)) hn.1
    have h2 := brW_bd hf (gi xs k) (h.g k (by omega))
    have h3 := h.b.wd
    have e : n * ((k + 1 : Nat) : Int) = n * (k : Int) + n := by push_cast; rw [Int.mul_add, Int.mul_one]
    rw [e]
    have e3 : brT c b xs n (k + 1) = brT c b xs n k + brC c (brK c b xs n k) (gi xs k) n := rfl
    have e4 : (brK c b xs n (k + 1)).wd = if brW c (brK c b xs n k) (gi xs k) - brC c (brK c b xs n k) (gi xs k) n < 1000 then brW c (brK c b xs n k) (gi xs k) - brC c (brK c b xs n k) (gi xs k) n else 1000 := rfl
    rw [e3, e4]
    refine ⟨by omega, by omega, by push_cast; omega, ?_⟩
    split <;> omega
theorem brK_wt {c : Cv} {b : Bre} {xs : List Int} (h : BrX c b xs) (n : Int) (hn : 0 ≤ n) (j k : Nat) (hjk : j ≤ k) (hk : k ≤ xs.length) : (brK c b xs n j).wt ≤ (brK c b xs n k).wt := by
  induction k with
  | zero => rw [show j = 0 by omega]; exact Int.le_refl _
  | succ k ih =>
    by_cases e : j = k + 1
    · rw [e]; exact Int.le_refl _
    · have := ih (by omega) (by omega)
      have h1 := brIn_bd (brK_f h n hn k (by omega)) (gi xs k) (h.g k (by omega))
      have e4 : (brK c b xs n (k + 1)).wt = (brK c b xs n k).wt + brIn c (brK c b xs n k) (gi xs k) := rfl
      omega
/-- the first hour at which it is closed -/
noncomputable def brZ (c : Cv) (b : Bre) (xs : List Int) (n : Int) : Nat → Option Nat
  | 0 => none
  | k + 1 => match brZ c b xs n k with | some j => some j | none => if (brK c b xs n k).wd = 0 then some k else none
theorem brZ_keep {c : Cv} {b : Bre} {xs : List Int} {n : Int} {k m j : Nat} (h : brZ c b xs n k = some j) (hk : k ≤ m) : brZ c b xs n m = some j := by
  induction m with
  | zero => rw [← h, show k = 0 by omega]
  | succ m ih =>
    by_cases e : k = m + 1
    · rw [← e]; exact h
    · rw [brZ, ih (by omega)]
theorem brZ_some {c : Cv} {b : Bre} {xs : List Int} {n : Int} {k j : Nat} (h : brZ c b xs n k = some j) : j < k ∧ (brK c b xs n j).wd = 0 ∧ brZ c b xs n j = none := by
  induction k with
  | zero => rw [brZ] at h; cases h
  | succ k ih =>
    rw [brZ] at h
    cases h1 : brZ c b xs n k with
    | some i => rw [h1] at h; cases h; obtain ⟨a, b, d⟩ := ih h1; exact ⟨by omega, b, d⟩
    | none =>
      rw [h1] at h
      simp only at h
      split at h
      · cases h; rename_i h2; exact ⟨by omega, h2, h1⟩
      · cases h
theorem brZ_none {c : Cv} {b : Bre} {xs : List Int} {n : Int} {k j : Nat} (h : brZ c b xs n k = none) (hj : j < k) : (brK c b xs n j).wd ≠ 0 := by
  intro h0
  have : ∃ i, brZ c b xs n (j + 1) = some i := by
    rw [brZ]
    cases h1 : brZ c b xs n j with
    | some i => exact ⟨i, rfl⟩
    | none => simp only; rw [if_pos h0]; exact ⟨_, rfl⟩
  obtain ⟨i, hi⟩ := this
  rw [brZ_keep hi (by omega)] at h
  cases h
def zH (R : Option Nat) : Int := match R with | some k => k | none => -1
noncomputable def zT (c : Cv) (b : Bre) (xs : List Int) (n : Int) (R : Option Nat) : Int := match R with | some k => brT c b xs n k | none => 0
/-! codes -/
theorem areLev_ok (xs : List Int) (hx : ∀ y ∈ xs, -2000 ≤ y ∧ y ≤ 2000) (hn : xs.length ≤ 10000000) : ACalls Tryz.prog 37 [.sl xs.length (ints xs)] [] (fun r o => r = B true ∧ o = []) := by
  refine ACalls.of_vc Tryz.func37 rfl (by decide) 5 rfl [.tmp 2] rfl (by simp) ?_
  have ha := all_ok 27 [] (fun n => decide (-2000 ≤ n ∧ n ≤ 2000)) xs (fun x _ => valLev_ok x) rfl hn
  rw [show xs.all (fun n => decide (-2000 ≤ n ∧ n ≤ 2000)) = true from List.all_eq_true.2 fun y hy => decide_eq_true (hx y hy)] at ha
  unfold iS at ha
  (repeat (first | simp (maxSteps := 2000000) (disch := omega) only [go_sem, ↓reduceIte, Nat.reduceEqDiff, Nat.reduceAdd, Nat.reduceMul, Nat.reduceSub, Int.reduceToNat, Int.reduceAdd, Int.reduceSub, Int.reduceMul, Int.reduceNeg] | with_reducible refine vIf_t ?_ | with_reducible refine vIf_f ?_))
  (refine vCallX_of ?_; (repeat (first | simp (maxSteps := 2000000) (disch := omega) only [go_sem, ↓reduceIte, Nat.reduceEqDiff, Nat.reduceAdd, Nat.reduceMul, Nat.reduceSub, Int.reduceToNat, Int.reduceAdd, Int.reduceSub, Int.reduceMul, Int.reduceNeg] | with_reducible refine vIf_t ?_ | with_reducible refine vIf_f ?_)); refine vCall_eq (ha) (by simp (disch := omega) only [go_sem, Nat.reduceAdd]) rfl (by first | exact Or.inl rfl | exact Or.inr ⟨rfl, rfl⟩ | (apply Or.inr; simp only [go_sem])) ?_; (repeat (first | simp (maxSteps := 2000000) (disch := omega) only [go_sem, ↓reduceIte, Nat.reduceEqDiff, Nat.reduceAdd, Nat.reduceMul, Nat.reduceSub, Int.reduceToNat, Int.reduceAdd, Int.reduceSub, Int.reduceMul, Int.reduceNeg] | with_reducible refine vIf_t ?_ | with_reducible refine vIf_f ?_)))
  (refine retK_of ?_; (repeat (first | simp (maxSteps := 2000000) (disch := omega) only [go_sem, ↓reduceIte, Nat.reduceEqDiff, Nat.reduceAdd, Nat.reduceMul, Nat.reduceSub, Int.reduceToNat, Int.reduceAdd, Int.reduceSub, Int.reduceMul, Int.reduceNeg] | with_reducible refine vIf_t ?_ | with_reducible refine vIf_f ?_)))
theorem valBre_ok (c : Cv) (b : Bre) (h : BrF c b) (hok : okC c = true) : ACalls Tryz.prog 36 [.agg c.cells, .agg b.cells] [] (fun r o => r = B true ∧ o = []) := by
  refine ACalls.of_vc Tryz.func36 rfl (by decide) 25 rfl [.tmp 4] rfl (by simp) ?_
  have f := h.f
  have h2 := f.n2
  have h12 := f.n12
  have hvn := f.vn
  have hc := validC_ok c (by omega) (by omega)
  have hla := last_ok c.vl (by omega)
  have hin := in_ok b.wt 0 (gi c.vl (c.lv.length - 1))
  have hiw := in_ok b.wd 0 1000
  have hle := valLev_ok b.sl
  rw [decide_eq_true h.sl] at hle
  rw [decide_eq_true h.wd] at hiw
  rw [decide_eq_true h.wt] at hin
  rw [hok] at hc
  rw [show gi c.vl (c.vl.length - 1) = gi c.vl (c.lv.length - 1) by rw [hvn]] at hla
  unfold Cv.cells Bre.cells at *
  (repeat (first | simp (maxSteps := 2000000) (disch := omega) only [go_sem, ↓reduceIte, Nat.reduceEqDiff, Nat.reduceAdd, Nat.reduceMul, Nat.reduceSub, Int.reduceToNat, Int.reduceAdd, Int.reduceSub, Int.reduceMul, Int.reduceNeg] | with_reducible refine vIf_t ?_ | with_reducible refine vIf_f ?_))
  (refine vDraw_sch 18 [(0, false), (1, false), (2, false), (3, false), (4, false), (5, false), (6, false), (7, false), (8, false), (9, false), (10, false), (11, false), (12, false), (13, false), (14, false), (15, false), (16, false), (17, false)] mixed (by kernel_rfl) ?_; simp only [List.cons_append, List.nil_append, List.map_cons, List.map_nil, nthO_zero, nthO_succ, List.drop_succ_cons, List.drop_zero, List.drop_nil]; (repeat (first | simp (maxSteps := 2000000) (disch := omega) only [go_sem, ↓reduceIte, Nat.reduceEqDiff, Nat.reduceAdd, Nat.reduceMul, Nat.reduceSub, Int.reduceToNat, Int.reduceAdd, Int.reduceSub, Int.reduceMul, Int.reduceNeg] | with_reducible refine vIf_t ?_ | with_reducible refine vIf_f ?_)))
  (refine vsCallX_of ?_; (try (repeat (first | simp (maxSteps := 2000000) (disch := omega) only [go_sem, ↓reduceIte, Nat.reduceEqDiff, Nat.reduceAdd, Nat.reduceMul, Nat.reduceSub, Int.reduceToNat, Int.reduceAdd, Int.reduceSub, Int.reduceMul, Int.reduceNeg] | with_reducible refine vIf_t ?_ | with_reducible refine vIf_f ?_))); refine vCall_eq (hc) (by simp (disch := omega) only [go_sem, Nat.reduceAdd]) rfl (by first | exact Or.inl rfl | exact Or.inr ⟨rfl, rfl⟩ | (apply Or.inr; simp only [go_sem])) ?_; (try (repeat (first | simp (maxSteps := 2000000) (disch := omega) only [go_sem, ↓reduceIte, Nat.reduceEqDiff, Nat.reduceAdd, Nat.reduceMul, Nat.reduceSub, Int.reduceToNat, Int.reduceAdd, Int.reduceSub, Int.reduceMul, Int.reduceNeg] | with_reducible refine vIf_t ?_ | with_reducible refine vIf_f ?_))))
  (refine vsCallX_of ?_; (try (repeat (first | simp (maxSteps := 2000000) (disch := omega) only [go_sem, ↓reduceIte, Nat.reduceEqDiff, Nat.reduceAdd, Nat.reduceMul, Nat.reduceSub, Int.reduceToNat, Int.reduceAdd, Int.reduceSub, Int.reduceMul, Int.reduceNeg] | with_reducible refine vIf_t ?_ | with_reducible refine vIf_f ?_))); refine vCall_eq (hiw) (by simp (disch := omega) only [go_sem, Nat.reduceAdd]) rfl (by first | exact Or.inl rfl | exact Or.inr ⟨rfl, rfl⟩ | (apply Or.inr; simp only [go_sem])) ?_; (try (repeat (first | simp (maxSteps := 2000000) (disch := omega) only [go_sem, ↓reduceIte, Nat.reduceEqDiff, Nat.reduceAdd, Nat.reduceMul, Nat.reduceSub, Int.reduceToNat, Int.reduceAdd, Int.reduceSub, Int.reduceMul, Int.reduceNeg] | with_reducible refine vIf_t ?_ | with_reducible refine vIf_f ?_))))
  (refine vsCallX_of ?_; (try (repeat (first | simp (maxSteps := 2000000) (disch := omega) only [go_sem, ↓reduceIte, Nat.reduceEqDiff, Nat.reduceAdd, Nat.reduceMul, Nat.reduceSub, Int.reduceToNat, Int.reduceAdd, Int.reduceSub, Int.reduceMul, Int.reduceNeg] | with_reducible refine vIf_t ?_ | with_reducible refine vIf_f ?_))); refine vCall_eq (hle) (by simp (disch := omega) only [go_sem, Nat.reduceAdd]) rfl (by first | exact Or.inl rfl | exact Or.inr ⟨rfl, rfl⟩ | (apply Or.inr; simp only [go_sem])) ?_; (try (repeat (first | simp (maxSteps := 2000000) (disch := omega) only [go_sem, ↓reduceIte, Nat.reduceEqDiff, Nat.reduceAdd, Nat.reduceMul, Nat.reduceSub, Int.reduceToNat, Int.reduceAdd, Int.reduceSub, Int.reduceMul, Int.reduceNeg] | with_reducible refine vIf_t ?_ | with_reducible refine vIf_f ?_))))
  (refine vsCallX_of ?_; (try (repeat (first | simp (maxSteps := 2000000) (disch := omega) only [go_sem, ↓reduceIte, Nat.reduceEqDiff, Nat.reduceAdd, Nat.reduceMul, Nat.reduceSub, Int.reduceToNat, Int.reduceAdd, Int.reduceSub, Int.reduceMul, Int.reduceNeg] | with_reducible refine vIf_t ?_ | with_reducible refine vIf_f ?_))); refine vCall_eq (hla) (by simp (disch := omega) only [go_sem, Nat.reduceAdd]) rfl (by first | exact Or.inl rfl | exact Or.inr ⟨rfl, rfl⟩ | (apply Or.inr; simp only [go_sem])) ?_; (try (repeat (first | simp (maxSteps := 2000000) (disch := omega) only [go_sem, ↓reduceIte, Nat.reduceEqDiff, Nat.reduceAdd, Nat.reduceMul, Nat.reduceSub, Int.reduceToNat, Int.reduceAdd, Int.reduceSub, Int.reduceMul, Int.reduceNeg] | with_reducible refine vIf_t ?_ | with_reducible refine vIf_f ?_))))
  (refine vCallX_of ?_; (repeat (first | simp (maxSteps := 2000000) (disch := omega) only [go_sem, ↓reduceIte, Nat.reduceEqDiff, Nat.reduceAdd, Nat.reduceMul, Nat.reduceSub, Int.reduceToNat, Int.reduceAdd, Int.reduceSub, Int.reduceMul, Int.reduceNeg] | with_reducible refine vIf_t ?_ | with_reducible refine vIf_f ?_)); refine vCall_eq (hin) (by simp (disch := omega) only [go_sem, Nat.reduceAdd]) rfl (by first | exact Or.inl rfl | exact Or.inr ⟨rfl, rfl⟩ | (apply Or.inr; simp only [go_sem])) ?_; (repeat (first | simp (maxSteps := 2000000) (disch := omega) only [go_sem, ↓reduceIte, Nat.reduceEqDiff, Nat.reduceAdd, Nat.reduceMul, Nat.reduceSub, Int.reduceToNat, Int.reduceAdd, Int.reduceSub, Int.reduceMul, Int.reduceNeg] | with_reducible refine vIf_t ?_ | with_reducible refine vIf_f ?_)))
  (refine retK_of ?_; (repeat (first | simp (maxSteps := 2000000) (disch := omega) only [go_sem, ↓reduceIte, Nat.reduceEqDiff, Nat.reduceAdd, Nat.reduceMul, Nat.reduceSub, Int.reduceToNat, Int.reduceAdd, Int.reduceSub, Int.reduceMul, Int.reduceNeg] | with_reducible refine vIf_t ?_ | with_reducible refine vIf_f ?_)))
theorem breCode_ok (c : Cv) (b : Bre) (xs : List Int) (h : BrX c b xs) : ACalls Tryz.prog 20 [.agg c.cells, .agg b.cells, .sl xs.length (ints xs)] [] (fun r o => r = I 0 ∧ o = []) := by
  refine ACalls.of_vc Tryz.func20 rfl (by decide) 21 rfl [.tmp 6] rfl (by simp) ?_
  have hv := valBre_ok c b h.b h.ok
  have hl := areLev_ok xs h.x (by have := h.n; omega)
  have hn := h.n
  unfold Cv.cells Bre.cells at *
  (repeat (first | simp (maxSteps := 2000000) (disch := omega) only [go_sem, ↓reduceIte, Nat.reduceEqDiff, Nat.reduceAdd, Nat.reduceMul, Nat.reduceSub, Int.reduceToNat, Int.reduceAdd, Int.reduceSub, Int.reduceMul, Int.reduceNeg] | with_reducible refine vIf_t ?_ | with_reducible refine vIf_f ?_))
  (refine vCallX_of ?_; (repeat (first | simp (maxSteps := 2000000) (disch := omega) only [go_sem, ↓reduceIte, Nat.reduceEqDiff, Nat.reduceAdd, Nat.reduceMul, Nat.reduceSub, Int.reduceToNat, Int.reduceAdd, Int.reduceSub, Int.reduceMul, Int.reduceNeg] | with_reducible refine vIf_t ?_ | with_reducible refine vIf_f ?_)); refine vCall_eq (hv) (by simp (disch := omega) only [go_sem, Nat.reduceAdd]) rfl (by first | exact Or.inl rfl | exact Or.inr ⟨rfl, rfl⟩ | (apply Or.inr; simp only [go_sem])) ?_; (repeat (first | simp (maxSteps := 2000000) (disch := omega) only [go_sem, ↓reduceIte, Nat.reduceEqDiff, Nat.reduceAdd, Nat.reduceMul, Nat.reduceSub, Int.reduceToNat, Int.reduceAdd, Int.reduceSub, Int.reduceMul, Int.reduceNeg] | with_reducible refine vIf_t ?_ | with_reducible refine vIf_f ?_)))
  (refine vCallX_of ?_; (repeat (first | simp (maxSteps := 2000000) (disch := omega) only [go_sem, ↓reduceIte, Nat.reduceEqDiff, Nat.reduceAdd, Nat.reduceMul, Nat.reduceSub, Int.reduceToNat, Int.reduceAdd, Int.reduceSub, Int.reduceMul, Int.reduceNeg] | with_reducible refine vIf_t ?_ | with_reducible refine vIf_f ?_)); refine vCall_eq (hl) (by simp (disch := omega) only [go_sem, Nat.reduceAdd]) rfl (by first | exact Or.inl rfl | exact Or.inr ⟨rfl, rfl⟩ | (apply Or.inr; simp only [go_sem])) ?_; (repeat (first | simp (maxSteps := 2000000) (disch := omega) only [go_sem, ↓reduceIte, Nat.reduceEqDiff, Nat.reduceAdd, Nat.reduceMul, Nat.reduceSub, Int.reduceToNat, Int.reduceAdd, Int.reduceSub, Int.reduceMul, Int.reduceNeg] | with_reducible refine vIf_t ?_ | with_reducible refine vIf_f ?_)))
  (refine retK_of ?_; (repeat (first | simp (maxSteps := 2000000) (disch := omega) only [go_sem, ↓reduceIte, Nat.reduceEqDiff, Nat.reduceAdd, Nat.reduceMul, Nat.reduceSub, Int.reduceToNat, Int.reduceAdd, Int.reduceSub, Int.reduceMul, Int.reduceNeg] | with_reducible refine vIf_t ?_ | with_reducible refine vIf_f ?_)))
theorem areStones_ok (n : Int) (hn : 0 ≤ n ∧ n ≤ 1000) : ACalls Tryz.prog 22 [I n] [] (fun r o => r = B true ∧ o = []) := by
  refine ACalls.of_vc Tryz.func22 rfl (by decide) 5 rfl [.tmp 2] rfl (by simp) ?_
  have hi := in_ok n 0 1000
  rw [decide_eq_true hn] at hi
  (repeat (first | simp (maxSteps := 2000000) (disch := omega) only [go_sem, ↓reduceIte, Nat.reduceEqDiff, Nat.reduceAdd, Nat.reduceMul, Nat.reduceSub, Int.reduceToNat, Int.reduceAdd, Int.reduceSub, Int.reduceMul, Int.reduceNeg] | with_reducible refine vIf_t ?_ | with_reducible refine vIf_f ?_))
  (refine vCallX_of ?_; (repeat (first | simp (maxSteps := 2000000) (disch := omega) only [go_sem, ↓reduceIte, Nat.reduceEqDiff, Nat.reduceAdd, Nat.reduceMul, Nat.reduceSub, Int.reduceToNat, Int.reduceAdd, Int.reduceSub, Int.reduceMul, Int.reduceNeg] | with_reducible refine vIf_t ?_ | with_reducible refine vIf_f ?_)); refine vCall_eq (hi) (by simp (disch := omega) only [go_sem, Nat.reduceAdd]) rfl (by first | exact Or.inl rfl | exact Or.inr ⟨rfl, rfl⟩ | (apply Or.inr; simp only [go_sem])) ?_; (repeat (first | simp (maxSteps := 2000000) (disch := omega) only [go_sem, ↓reduceIte, Nat.reduceEqDiff, Nat.reduceAdd, Nat.reduceMul, Nat.reduceSub, Int.reduceToNat, Int.reduceAdd, Int.reduceSub, Int.reduceMul, Int.reduceNeg] | with_reducible refine vIf_t ?_ | with_reducible refine vIf_f ?_)))
  (refine retK_of ?_; (repeat (first | simp (maxSteps := 2000000) (disch := omega) only [go_sem, ↓reduceIte, Nat.reduceEqDiff, Nat.reduceAdd, Nat.reduceMul, Nat.reduceSub, Int.reduceToNat, Int.reduceAdd, Int.reduceSub, Int.reduceMul, Int.reduceNeg] | with_reducible refine vIf_t ?_ | with_reducible refine vIf_f ?_)))
/-- the water stays low -/
def brL (c : Cv) (b : Bre) (xs : List Int) (lev n : Int) : Prop := lvx c (brK c b xs n xs.length).wt ≤ lev
end Go.Proofs.YtbgjkjiepkopkaaGreatDoor

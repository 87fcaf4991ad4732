/- trial -/
import Derived.Test.YtjgjnedenapemaaGreatDoorX3
set_option linter.unusedVariables false
set_option linter.unusedSimpArgs false
namespace Go.Proofs.YtjgjnedenapemaaGreatDoor
open Go.AG

def rok (xs : List Int) (lo hi : Int) (j : Nat) : Bool := decide (lo ≤ gi xs j ∧ gi xs j ≤ hi) && !(decide (0 < j ∧ gi xs j ≤ gi xs ((j : Int)-1).toNat))
theorem rok_yes (xs : List Int) (lo hi : Int) (k : Nat) (h1 : lo ≤ gi xs k ∧ gi xs k ≤ hi) (h2 : (k : Int) ≤ 0 ∨ gi xs ((k : Int) - 1).toNat < gi xs k) : rok xs lo hi k = true := by
  unfold rok
  rw [decide_eq_true h1, decide_eq_false (by omega)]
  rfl
theorem rok_no (xs : List Int) (lo hi : Int) (k : Nat) (h : ¬(lo ≤ gi xs k ∧ gi xs k ≤ hi) ∨ (0 < (k : Int) ∧ gi xs k ≤ gi xs ((k : Int) - 1).toNat)) : rok xs lo hi k = false := by
  unfold rok
  rcases h with h | h
  · rw [decide_eq_false h]; rfl
  · rw [decide_eq_true (p := 0 < k ∧ _) ⟨by omega, h.2⟩]; simp
theorem rok_snoc (xs : List Int) (lo hi : Int) (k : Nat) (he : ∀ j, j < k → rok xs lo hi j = true) (h : rok xs lo hi k = true) : ∀ j, j < k + 1 → rok xs lo hi j = true := by
  intro j hj
  rcases Nat.lt_succ_iff_lt_or_eq.1 hj with h1 | h1
  · exact he j h1
  · rw [h1]; exact h
def risesB (xs : List Int) (lo hi : Int) : Bool := decide (∀ j, j < xs.length → rok xs lo hi j = true)
theorem risesB_no (xs : List Int) (lo hi : Int) (k : Nat) (hk : k < xs.length) (h : rok xs lo hi k = false) : V.sc (.bool false) = B (risesB xs lo hi) := by
  have : risesB xs lo hi = false := by
    unfold risesB
    rw [decide_eq_false_iff_not]
    intro h2
    rw [h2 k hk] at h
    cases h
  rw [this]
theorem risesB_yes (xs : List Int) (lo hi : Int) (k : Nat) (hk : xs.length ≤ k) (h : ∀ j, j < k → rok xs lo hi j = true) : V.sc (.bool true) = B (risesB xs lo hi) := by
  have : risesB xs lo hi = true := by
    unfold risesB
    rw [decide_eq_true_eq]
    exact fun j hj => h j (by omega)
  rw [this]

theorem riseS_ok (xs : List Int) (lo hi : Int) (hl : xs.length ≤ 10000000) : ACalls Tryz.prog 102 [iS xs, I lo, I hi] [] (fun r o => r = B (risesB xs lo hi) ∧ o = []) := by
  refine ACalls.of_vc Tryz.func102 rfl (by decide) 38 rfl [.tmp 6] rfl (by simp) ?_
  unfold iS
  (repeat (first | simp (maxSteps := 2000000) (disch := omega) only [go_sem, ↓reduceIte] | with_reducible refine vIf_t ?_ | with_reducible refine vIf_f ?_))
  refine vcLoop_inv (fun k : Nat => k ≤ xs.length ∧ ∀ j, j < k → rok xs lo hi j = true) (fun k => ⟨38, 0, [(7, I k), (0, .sl xs.length (ints xs)), (1, I lo), (2, I hi)], []⟩) (fun k => xs.length - k) 0 (by simp) (by (repeat (first | simp (maxSteps := 2000000) (disch := omega) only [go_sem, ↓reduceIte] | with_reducible refine vIf_t ?_ | with_reducible refine vIf_f ?_))) ?_
  intro k ⟨hk, he⟩
  (repeat (first | simp (maxSteps := 2000000) (disch := omega) only [go_sem, ↓reduceIte] | with_reducible refine vIf_t ?_ | with_reducible refine vIf_f ?_))
  refine vIf_dec (fun h => ?_) (fun h => ?_)
  · (repeat (first | simp (maxSteps := 2000000) (disch := omega) only [go_sem, ↓reduceIte] | with_reducible refine vIf_t ?_ | with_reducible refine vIf_f ?_))
    (refine vDraw_of mixed (by kernel_rfl) ?_; (repeat (first | simp (maxSteps := 2000000) (disch := omega) only [go_sem, ↓reduceIte] | with_reducible refine vIf_t ?_ | with_reducible refine vIf_f ?_)))
    (refine vqCall_eq (inS_ok (gi xs k) lo hi) (by simp (disch := omega) only [go_sem]) rfl ?_; (repeat (first | simp (maxSteps := 2000000) (disch := omega) only [go_sem, ↓reduceIte] | with_reducible refine vIf_t ?_ | with_reducible refine vIf_f ?_)))
    repeat' (first | (with_reducible refine vGuard_any (fun h => ?_) (fun h => ?_) <;> (try simp only [ne_eq, Bool.not_eq_true, Bool.not_eq_false, decide_eq_true_eq, decide_eq_false_iff_not, Bool.not_eq_eq_eq_not, Bool.not_true, Bool.not_false, beq_iff_eq, bne_iff_ne, beq_eq_false_iff_ne, bne_eq_false_iff_eq, Bool.and_eq_true, Bool.and_eq_false_imp, Int.not_le, Int.not_lt, Nat.not_le, Nat.not_lt] at h) <;> ((repeat (first | simp (maxSteps := 2000000) (disch := omega) only [go_sem, ↓reduceIte, h] | with_reducible refine vIf_t ?_ | with_reducible refine vIf_f ?_)))) | (with_reducible refine vIf_bool (fun h => ?_) (fun h => ?_) <;> (try simp only [ne_eq, Bool.not_eq_true, Bool.not_eq_false, decide_eq_true_eq, decide_eq_false_iff_not, Bool.not_eq_eq_eq_not, Bool.not_true, Bool.not_false, beq_iff_eq, bne_iff_ne, beq_eq_false_iff_ne, bne_eq_false_iff_eq, Bool.and_eq_true, Bool.and_eq_false_imp, Int.not_le, Int.not_lt, Nat.not_le, Nat.not_lt] at h) <;> ((repeat (first | simp (maxSteps := 2000000) (disch := omega) only [go_sem, ↓reduceIte, h] | with_reducible refine vIf_t ?_ | with_reducible refine vIf_f ?_)))) | (with_reducible refine vqGuard_any (fun h => ?_) (fun h => ?_) <;> (try simp only [ne_eq, Bool.not_eq_true, Bool.not_eq_false, decide_eq_true_eq, decide_eq_false_iff_not, Bool.not_eq_eq_eq_not, Bool.not_true, Bool.not_false, beq_iff_eq, bne_iff_ne, beq_eq_false_iff_ne, bne_eq_false_iff_eq, Bool.and_eq_true, Bool.and_eq_false_imp, Int.not_le, Int.not_lt, Nat.not_le, Nat.not_lt] at h) <;> ((repeat (first | simp (maxSteps := 2000000) (disch := omega) only [go_sem, ↓reduceIte, h] | with_reducible refine vIf_t ?_ | with_reducible refine vIf_f ?_)))) | (with_reducible refine retK_of ?_; (repeat (first | simp (maxSteps := 2000000) (disch := omega) only [go_sem, ↓reduceIte] | with_reducible refine vIf_t ?_ | with_reducible refine vIf_f ?_))))
    any_goals (exact risesB_no xs lo hi k (by omega) (rok_no xs lo hi k (by omega)))
    all_goals (refine again (k + 1) ⟨by omega, rok_snoc xs lo hi k he (rok_yes xs lo hi k (by omega) (by omega))⟩ (by omega) ?_; (repeat (first | simp (maxSteps := 2000000) (disch := omega) only [go_sem, ↓reduceIte] | with_reducible refine vIf_t ?_ | with_reducible refine vIf_f ?_)))
  · (repeat (first | simp (maxSteps := 2000000) (disch := omega) only [go_sem, ↓reduceIte] | with_reducible refine vIf_t ?_ | with_reducible refine vIf_f ?_))
    (refine retK_of ?_; (repeat (first | simp (maxSteps := 2000000) (disch := omega) only [go_sem, ↓reduceIte] | with_reducible refine vIf_t ?_ | with_reducible refine vIf_f ?_)))
    exact risesB_yes xs lo hi k (by omega) he

theorem rise_ok (xs : List Int) (lo hi : Int) (hl : xs.length ≤ 10000000) : ACalls Tryz.prog 97 [iS xs, I lo, I hi] [] (fun r o => r = B (risesB xs lo hi) ∧ o = []) := by
  refine ACalls.of_vc Tryz.func97 rfl (by decide) 35 rfl [.tmp 6] rfl (by simp) ?_
  unfold iS
  (repeat (first | simp (maxSteps := 2000000) (disch := omega) only [go_sem, ↓reduceIte] | with_reducible refine vIf_t ?_ | with_reducible refine vIf_f ?_))
  refine vcLoop_inv (fun k : Nat => k ≤ xs.length ∧ ∀ j, j < k → rok xs lo hi j = true) (fun k => ⟨35, 0, [(11, I k), (9, .sl xs.length (ints xs)), (10, I xs.length), (0, .sl xs.length (ints xs)), (1, I lo), (2, I hi)], []⟩) (fun k => xs.length - k) 0 (by simp) (by (repeat (first | simp (maxSteps := 2000000) (disch := omega) only [go_sem, ↓reduceIte] | with_reducible refine vIf_t ?_ | with_reducible refine vIf_f ?_))) ?_
  intro k ⟨hk, he⟩
  (repeat (first | simp (maxSteps := 2000000) (disch := omega) only [go_sem, ↓reduceIte] | with_reducible refine vIf_t ?_ | with_reducible refine vIf_f ?_))
  refine vIf_dec (fun h => ?_) (fun h => ?_)
  · (repeat (first | simp (maxSteps := 2000000) (disch := omega) only [go_sem, ↓reduceIte] | with_reducible refine vIf_t ?_ | with_reducible refine vIf_f ?_))
    (refine vCallX_of ?_; (repeat (first | simp (maxSteps := 2000000) (disch := omega) only [go_sem, ↓reduceIte] | with_reducible refine vIf_t ?_ | with_reducible refine vIf_f ?_)); refine vCall_eq (in_ok (gi xs k) lo hi) (by simp (disch := omega) only [go_sem]) rfl (by first | exact Or.inl rfl | exact Or.inr ⟨rfl, rfl⟩ | (apply Or.inr; simp only [go_sem])) ?_; (repeat (first | simp (maxSteps := 2000000) (disch := omega) only [go_sem, ↓reduceIte] | with_reducible refine vIf_t ?_ | with_reducible refine vIf_f ?_)))
    repeat' (first | (with_reducible refine vGuard_any (fun h => ?_) (fun h => ?_) <;> (try simp only [ne_eq, Bool.not_eq_true, Bool.not_eq_false, decide_eq_true_eq, decide_eq_false_iff_not, Bool.not_eq_eq_eq_not, Bool.not_true, Bool.not_false, beq_iff_eq, bne_iff_ne, beq_eq_false_iff_ne, bne_eq_false_iff_eq, Bool.and_eq_true, Bool.and_eq_false_imp, Int.not_le, Int.not_lt, Nat.not_le, Nat.not_lt] at h) <;> ((repeat (first | simp (maxSteps := 2000000) (disch := omega) only [go_sem, ↓reduceIte, h] | with_reducible refine vIf_t ?_ | with_reducible refine vIf_f ?_)))) | (with_reducible refine vIf_bool (fun h => ?_) (fun h => ?_) <;> (try simp only [ne_eq, Bool.not_eq_true, Bool.not_eq_false, decide_eq_true_eq, decide_eq_false_iff_not, Bool.not_eq_eq_eq_not, Bool.not_true, Bool.not_false, beq_iff_eq, bne_iff_ne, beq_eq_false_iff_ne, bne_eq_false_iff_eq, Bool.and_eq_true, Bool.and_eq_false_imp, Int.not_le, Int.not_lt, Nat.not_le, Nat.not_lt] at h) <;> ((repeat (first | simp (maxSteps := 2000000) (disch := omega) only [go_sem, ↓reduceIte, h] | with_reducible refine vIf_t ?_ | with_reducible refine vIf_f ?_)))) | (with_reducible refine vqGuard_any (fun h => ?_) (fun h => ?_) <;> (try simp only [ne_eq, Bool.not_eq_true, Bool.not_eq_false, decide_eq_true_eq, decide_eq_false_iff_not, Bool.not_eq_eq_eq_not, Bool.not_true, Bool.not_false, beq_iff_eq, bne_iff_ne, beq_eq_false_iff_ne, bne_eq_false_iff_eq, Bool.and_eq_true, Bool.and_eq_false_imp, Int.not_le, Int.not_lt, Nat.not_le, Nat.not_lt] at h) <;> ((repeat (first | simp (maxSteps := 2000000) (disch := omega) only [go_sem, ↓reduceIte, h] | with_reducible refine vIf_t ?_ | with_reducible refine vIf_f ?_)))) | (with_reducible refine retK_of ?_; (repeat (first | simp (maxSteps := 2000000) (disch := omega) only [go_sem, ↓reduceIte] | with_reducible refine vIf_t ?_ | with_reducible refine vIf_f ?_))))
    any_goals (exact risesB_no xs lo hi k (by omega) (rok_no xs lo hi k (by omega)))
    all_goals (refine again (k + 1) ⟨by omega, rok_snoc xs lo hi k he (rok_yes xs lo hi k (by omega) (by omega))⟩ (by omega) ?_; (repeat (first | simp (maxSteps := 2000000) (disch := omega) only [go_sem, ↓reduceIte] | with_reducible refine vIf_t ?_ | with_reducible refine vIf_f ?_)))
  · (repeat (first | simp (maxSteps := 2000000) (disch := omega) only [go_sem, ↓reduceIte] | with_reducible refine vIf_t ?_ | with_reducible refine vIf_f ?_))
    (refine retK_of ?_; (repeat (first | simp (maxSteps := 2000000) (disch := omega) only [go_sem, ↓reduceIte] | with_reducible refine vIf_t ?_ | with_reducible refine vIf_f ?_)))
    exact risesB_yes xs lo hi k (by omega) he
end Go.Proofs.YtjgjnedenapemaaGreatDoor

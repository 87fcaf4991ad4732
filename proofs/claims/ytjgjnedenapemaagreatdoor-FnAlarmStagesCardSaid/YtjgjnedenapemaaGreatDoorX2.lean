/- trial -/
import Derived.Test.YtjgjnedenapemaaGreatDoorAgT
set_option linter.unusedVariables false
set_option linter.unusedSimpArgs false
namespace Go.Proofs.YtjgjnedenapemaaGreatDoor
open Go.AG

theorem all_ok (f : FuncId) (caps : List V) (q : Int → Bool) (xs : List Int) (hf : ∀ x ∈ xs, ACalls Tryz.prog f (I x :: caps) [] (fun r o => r = B (q x) ∧ o = [])) (hc : V.norefL caps = true) (hl : xs.length ≤ 10000000) :
    ACalls Tryz.prog 122 [iS xs, .fn f caps] [] (fun r o => r = B (xs.all q) ∧ o = []) := by
  refine ACalls.of_vc Tryz.func122 rfl (by decide) 18 rfl [.tmp 4] rfl (by simp) ?_
  unfold iS
  (repeat (first | simp (maxSteps := 2000000) (disch := omega) only [go_sem, ↓reduceIte] | with_reducible refine vIf_t ?_ | with_reducible refine vIf_f ?_))
  refine vcLoop_inv (fun k : Nat => k ≤ xs.length ∧ (xs.take k).all q = true) (fun k => ⟨18, 0, [(9, I k), (8, I xs.length), (7, .sl xs.length (ints xs)), (1, .fn f caps)], []⟩) (fun k => xs.length - k) 0 (by simp) (by (repeat (first | simp (maxSteps := 2000000) (disch := omega) only [go_sem, ↓reduceIte, killL_noref _ _ hc] | with_reducible refine vIf_t ?_ | with_reducible refine vIf_f ?_)); all_goals (try simp)) ?_
  intro k ⟨hk, he⟩
  (repeat (first | simp (maxSteps := 2000000) (disch := omega) only [go_sem, ↓reduceIte] | with_reducible refine vIf_t ?_ | with_reducible refine vIf_f ?_))
  refine vIf_dec (fun h => ?_) (fun h => ?_)
  · (repeat (first | simp (maxSteps := 2000000) (disch := omega) only [go_sem, ↓reduceIte] | with_reducible refine vIf_t ?_ | with_reducible refine vIf_f ?_))
    refine vCallX_of ?_
    (repeat (first | simp (maxSteps := 2000000) (disch := omega) only [go_sem, ↓reduceIte] | with_reducible refine vIf_t ?_ | with_reducible refine vIf_f ?_))
    refine vCall_eq (hf (gi xs k) (gi_mem xs k (by omega))) (by (repeat (first | simp (maxSteps := 2000000) (disch := omega) only [go_sem, ↓reduceIte, frzL_noref _ _ hc] | with_reducible refine vIf_t ?_ | with_reducible refine vIf_f ?_))) (by (repeat (first | simp (maxSteps := 2000000) (disch := omega) only [go_sem, ↓reduceIte, hc] | with_reducible refine vIf_t ?_ | with_reducible refine vIf_f ?_))) (Or.inl (by (repeat (first | simp (maxSteps := 2000000) (disch := omega) only [go_sem, ↓reduceIte, hc] | with_reducible refine vIf_t ?_ | with_reducible refine vIf_f ?_)))) ?_
    (repeat (first | simp (maxSteps := 2000000) (disch := omega) only [go_sem, ↓reduceIte] | with_reducible refine vIf_t ?_ | with_reducible refine vIf_f ?_))
    refine vIf_not (fun h3 => ?_) (fun h3 => ?_)
    · (repeat (first | simp (maxSteps := 2000000) (disch := omega) only [go_sem, ↓reduceIte] | with_reducible refine vIf_t ?_ | with_reducible refine vIf_f ?_))
      (refine retK_of ?_; (repeat (first | simp (maxSteps := 2000000) (disch := omega) only [go_sem, ↓reduceIte] | with_reducible refine vIf_t ?_ | with_reducible refine vIf_f ?_)))
      rw [all_no q xs k (by omega) h3]
    · (repeat (first | simp (maxSteps := 2000000) (disch := omega) only [go_sem, ↓reduceIte] | with_reducible refine vIf_t ?_ | with_reducible refine vIf_f ?_))
      refine again (k + 1) ⟨by omega, all_snoc q xs k (by omega) he h3⟩ (by omega) ?_
      (repeat (first | simp (maxSteps := 2000000) (disch := omega) only [go_sem, ↓reduceIte, killL_noref _ _ hc] | with_reducible refine vIf_t ?_ | with_reducible refine vIf_f ?_))
  · (repeat (first | simp (maxSteps := 2000000) (disch := omega) only [go_sem, ↓reduceIte] | with_reducible refine vIf_t ?_ | with_reducible refine vIf_f ?_))
    (refine retK_of ?_; (repeat (first | simp (maxSteps := 2000000) (disch := omega) only [go_sem, ↓reduceIte] | with_reducible refine vIf_t ?_ | with_reducible refine vIf_f ?_)))
    rw [take_all _ _ (by omega)] at he
    simp [he]

theorem inS_ok (n lo hi : Int) : ACalls Tryz.prog 66 [I n, I lo, I hi] [] (fun r o => r = B (decide (lo ≤ n ∧ n ≤ hi)) ∧ o = []) := by
  refine ACalls.of_vc Tryz.func66 rfl (by decide) 15 rfl [.tmp 6] rfl (by simp) ?_
  (repeat (first | simp (maxSteps := 2000000) (disch := omega) only [go_sem, ↓reduceIte] | with_reducible refine vIf_t ?_ | with_reducible refine vIf_f ?_))
  repeat' (first | (with_reducible refine vGuard_any (fun h => ?_) (fun h => ?_) <;> (try simp only [ne_eq, Bool.not_eq_true, Bool.not_eq_false, decide_eq_true_eq, decide_eq_false_iff_not, Bool.not_eq_eq_eq_not, Bool.not_true, Bool.not_false, beq_iff_eq, bne_iff_ne, beq_eq_false_iff_ne, bne_eq_false_iff_eq, Bool.and_eq_true, Bool.and_eq_false_imp, Int.not_le, Int.not_lt, Nat.not_le, Nat.not_lt] at h) <;> ((repeat (first | simp (maxSteps := 2000000) (disch := omega) only [go_sem, ↓reduceIte, h] | with_reducible refine vIf_t ?_ | with_reducible refine vIf_f ?_)))) | (with_reducible refine vIf_bool (fun h => ?_) (fun h => ?_) <;> (try simp only [ne_eq, Bool.not_eq_true, Bool.not_eq_false, decide_eq_true_eq, decide_eq_false_iff_not, Bool.not_eq_eq_eq_not, Bool.not_true, Bool.not_false, beq_iff_eq, bne_iff_ne, beq_eq_false_iff_ne, bne_eq_false_iff_eq, Bool.and_eq_true, Bool.and_eq_false_imp, Int.not_le, Int.not_lt, Nat.not_le, Nat.not_lt] at h) <;> ((repeat (first | simp (maxSteps := 2000000) (disch := omega) only [go_sem, ↓reduceIte, h] | with_reducible refine vIf_t ?_ | with_reducible refine vIf_f ?_)))) | (with_reducible refine vqGuard_any (fun h => ?_) (fun h => ?_) <;> (try simp only [ne_eq, Bool.not_eq_true, Bool.not_eq_false, decide_eq_true_eq, decide_eq_false_iff_not, Bool.not_eq_eq_eq_not, Bool.not_true, Bool.not_false, beq_iff_eq, bne_iff_ne, beq_eq_false_iff_ne, bne_eq_false_iff_eq, Bool.and_eq_true, Bool.and_eq_false_imp, Int.not_le, Int.not_lt, Nat.not_le, Nat.not_lt] at h) <;> ((repeat (first | simp (maxSteps := 2000000) (disch := omega) only [go_sem, ↓reduceIte, h] | with_reducible refine vIf_t ?_ | with_reducible refine vIf_f ?_)))) | (with_reducible refine retK_of ?_; (repeat (first | simp (maxSteps := 2000000) (disch := omega) only [go_sem, ↓reduceIte] | with_reducible refine vIf_t ?_ | with_reducible refine vIf_f ?_))))
theorem sumS_ok (xs : List Int) (hl : xs.length ≤ 10000000) : ACalls Tryz.prog 73 [iS xs] [] (fun r o => r = I (wsum xs) ∧ o = []) := by
  refine ACalls.of_vc Tryz.func73 rfl (by decide) 18 rfl [.tmp 2] rfl (by simp) ?_
  unfold iS
  (repeat (first | simp (maxSteps := 2000000) (disch := omega) only [go_sem, ↓reduceIte] | with_reducible refine vIf_t ?_ | with_reducible refine vIf_f ?_))
  refine vcLoop_inv (fun k : Nat => k ≤ xs.length) (fun k => ⟨18, 0, [(4, I k), (0, .sl xs.length (ints xs)), (3, I (wsum (xs.take k)))], []⟩) (fun k => xs.length - k) 0 (by omega) (by (repeat (first | simp (maxSteps := 2000000) (disch := omega) only [go_sem, ↓reduceIte] | with_reducible refine vIf_t ?_ | with_reducible refine vIf_f ?_)); simp [wsum_nil]) ?_
  intro k hk
  (repeat (first | simp (maxSteps := 2000000) (disch := omega) only [go_sem, ↓reduceIte] | with_reducible refine vIf_t ?_ | with_reducible refine vIf_f ?_))
  refine vIf_dec (fun h => ?_) (fun h => ?_)
  · (repeat (first | simp (maxSteps := 2000000) (disch := omega) only [go_sem, ↓reduceIte] | with_reducible refine vIf_t ?_ | with_reducible refine vIf_f ?_))
    refine again (k + 1) (by omega) (by omega) ?_
    (repeat (first | simp (maxSteps := 2000000) (disch := omega) only [go_sem, ↓reduceIte] | with_reducible refine vIf_t ?_ | with_reducible refine vIf_f ?_))
    rw [take_succ_gi _ _ (by omega), wsum_snoc]
    all_goals (try simp)
  · (repeat (first | simp (maxSteps := 2000000) (disch := omega) only [go_sem, ↓reduceIte] | with_reducible refine vIf_t ?_ | with_reducible refine vIf_f ?_))
    (refine retK_of ?_; (repeat (first | simp (maxSteps := 2000000) (disch := omega) only [go_sem, ↓reduceIte] | with_reducible refine vIf_t ?_ | with_reducible refine vIf_f ?_)))
    rw [take_all _ _ (by omega)]
end Go.Proofs.YtjgjnedenapemaaGreatDoor

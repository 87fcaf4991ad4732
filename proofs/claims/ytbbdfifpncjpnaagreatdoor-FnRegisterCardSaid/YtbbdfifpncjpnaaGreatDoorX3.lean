/- trial -/
import Derived.Test.YtbbdfifpncjpnaaGreatDoorX1
import Derived.Test.YtbbdfifpncjpnaaGreatDoorX2
set_option linter.unusedVariables false
set_option linter.unusedSimpArgs false
namespace Go.Proofs.YtbbdfifpncjpnaaGreatDoor
open Go.AG

theorem in_ok (n lo hi : Int) : ACalls Tryz.prog 104 [I n, I lo, I hi] [] (fun r o => r = B (decide (lo ≤ n ∧ n ≤ hi)) ∧ o = []) := by
  refine ACalls.of_vc Tryz.func104 rfl (by decide) 15 rfl [.tmp 6] rfl (by simp) ?_
  (repeat (first | simp (maxSteps := 2000000) (disch := omega) only [go_sem, ↓reduceIte] | with_reducible refine vIf_t ?_ | with_reducible refine vIf_f ?_))
  repeat' (first | (with_reducible refine vGuard_any (fun h => ?_) (fun h => ?_) <;> (try simp only [ne_eq, Bool.not_eq_true, Bool.not_eq_false, decide_eq_true_eq, decide_eq_false_iff_not, Bool.not_eq_eq_eq_not, Bool.not_true, Bool.not_false, beq_iff_eq, bne_iff_ne, beq_eq_false_iff_ne, bne_eq_false_iff_eq, Bool.and_eq_true, Bool.and_eq_false_imp, Int.not_le, Int.not_lt, Nat.not_le, Nat.not_lt] at h) <;> ((repeat (first | simp (maxSteps := 2000000) (disch := omega) only [go_sem, ↓reduceIte, h] | with_reducible refine vIf_t ?_ | with_reducible refine vIf_f ?_)))) | (with_reducible refine vIf_bool (fun h => ?_) (fun h => ?_) <;> (try simp only [ne_eq, Bool.not_eq_true, Bool.not_eq_false, decide_eq_true_eq, decide_eq_false_iff_not, Bool.not_eq_eq_eq_not, Bool.not_true, Bool.not_false, beq_iff_eq, bne_iff_ne, beq_eq_false_iff_ne, bne_eq_false_iff_eq, Bool.and_eq_true, Bool.and_eq_false_imp, Int.not_le, Int.not_lt, Nat.not_le, Nat.not_lt] at h) <;> ((repeat (first | simp (maxSteps := 2000000) (disch := omega) only [go_sem, ↓reduceIte, h] | with_reducible refine vIf_t ?_ | with_reducible refine vIf_f ?_)))) | (with_reducible refine vqGuard_any (fun h => ?_) (fun h => ?_) <;> (try simp only [ne_eq, Bool.not_eq_true, Bool.not_eq_false, decide_eq_true_eq, decide_eq_false_iff_not, Bool.not_eq_eq_eq_not, Bool.not_true, Bool.not_false, beq_iff_eq, bne_iff_ne, beq_eq_false_iff_ne, bne_eq_false_iff_eq, Bool.and_eq_true, Bool.and_eq_false_imp, Int.not_le, Int.not_lt, Nat.not_le, Nat.not_lt] at h) <;> ((repeat (first | simp (maxSteps := 2000000) (disch := omega) only [go_sem, ↓reduceIte, h] | with_reducible refine vIf_t ?_ | with_reducible refine vIf_f ?_)))) | (with_reducible refine retK_of ?_; (repeat (first | simp (maxSteps := 2000000) (disch := omega) only [go_sem, ↓reduceIte] | with_reducible refine vIf_t ?_ | with_reducible refine vIf_f ?_))))
def okV (xs : List Int) (most : Int) : Bool := xs.all (fun x => decide (0 ≤ x ∧ x ≤ most)) && decide (1 ≤ (xs.length : Int) ∧ (xs.length : Int) ≤ 8) && decide (0 < wsum xs)

end Go.Proofs.YtbbdfifpncjpnaaGreatDoor

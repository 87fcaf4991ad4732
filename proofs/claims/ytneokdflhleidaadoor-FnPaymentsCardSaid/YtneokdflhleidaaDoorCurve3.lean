/- storage curves: volumes and levels -/
import Derived.Test.YtneokdflhleidaaDoorCurve2
set_option linter.unusedVariables false
set_option linter.unusedSimpArgs false
namespace Go.Proofs.YtneokdflhleidaaDoor
open Go.AG

theorem floor_eq (n d : Int) (hd : 0 < d) : (if n.tmod d < 0 then n.tdiv d - 1 else n.tdiv d) = n / d := by
  by_cases h : 0 ≤ n
  · rw [Int.tdiv_eq_ediv_of_nonneg h, Int.tmod_eq_emod_of_nonneg h, if_neg (by have := Int.emod_nonneg n (show d ≠ 0 by omega); omega)]
  · obtain ⟨m, hm⟩ : ∃ m : Int, n = -m := ⟨-n, by omega⟩
    subst hm
    have hm0 : 0 ≤ m := by omega
    rw [Int.neg_tdiv, Int.neg_tmod, Int.tdiv_eq_ediv_of_nonneg hm0, Int.tmod_eq_emod_of_nonneg hm0]
    have h1 := Int.mul_ediv_add_emod m d
    have h2 := Int.emod_nonneg m (show d ≠ 0 by omega)
    have h3 := Int.emod_lt_of_pos m hd
    split
    · rename_i h4
      have h5 : d * (-(m / d) - 1) = -(d * (m / d)) - d := by rw [Int.mul_sub, Int.mul_neg, Int.mul_one]
      exact ((Int.ediv_emod_unique (a := -m) (b := d) (r := d - m % d) (q := -(m / d) - 1) hd).2 ⟨by omega, by omega, by omega⟩).1.symm
    · rename_i h4
      have h5 : d * -(m / d) = -(d * (m / d)) := Int.mul_neg _ _
      exact ((Int.ediv_emod_unique (a := -m) (b := d) (r := 0) (q := -(m / d)) hd).2 ⟨by omega, by omega, by omega⟩).1.symm
theorem floorDiv_ok (n d : Int) (hd : 0 < d) (hn : -9223372036854775807 ≤ n ∧ n ≤ 9223372036854775807) : ACalls Tryd.prog 96 [I n, I d] [] (fun r o => r = I (n / d) ∧ o = []) := by
  refine ACalls.of_vc Tryd.func96 rfl (by decide) 16 rfl [.tmp 4] rfl (by simp) ?_
  have e := floor_eq n d hd
  have hb : -9223372036854775807 ≤ n.tdiv d ∧ n.tdiv d ≤ 9223372036854775807 := by
    have h := Int.natAbs_tdiv_le_natAbs n d
    omega
  have hb2 : n.tmod d < 0 → -9223372036854775808 ≤ n.tdiv d - 1 := by omega
  (repeat (first | simp (maxSteps := 2000000) (disch := omega) only [go_sem, ↓reduceIte, Nat.reduceEqDiff, Nat.reduceAdd, Nat.reduceMul, Nat.reduceSub, Int.reduceToNat, Int.reduceAdd, Int.reduceSub, Int.reduceMul, Int.reduceNeg] | with_reducible refine vIf_t ?_ | with_reducible refine vIf_f ?_))
  refine vIf_dec (fun h => ?_) (fun h => ?_)
  · rw [if_pos h] at e
    (repeat (first | simp (maxSteps := 2000000) (disch := omega) only [go_sem, ↓reduceIte, Nat.reduceEqDiff, Nat.reduceAdd, Nat.reduceMul, Nat.reduceSub, Int.reduceToNat, Int.reduceAdd, Int.reduceSub, Int.reduceMul, Int.reduceNeg] | with_reducible refine vIf_t ?_ | with_reducible refine vIf_f ?_))
    (refine retK_of ?_; (repeat (first | simp (maxSteps := 2000000) (disch := omega) only [go_sem, ↓reduceIte, Nat.reduceEqDiff, Nat.reduceAdd, Nat.reduceMul, Nat.reduceSub, Int.reduceToNat, Int.reduceAdd, Int.reduceSub, Int.reduceMul, Int.reduceNeg] | with_reducible refine vIf_t ?_ | with_reducible refine vIf_f ?_)))
    rw [e]
  · rw [if_neg h] at e
    (repeat (first | simp (maxSteps := 2000000) (disch := omega) only [go_sem, ↓reduceIte, Nat.reduceEqDiff, Nat.reduceAdd, Nat.reduceMul, Nat.reduceSub, Int.reduceToNat, Int.reduceAdd, Int.reduceSub, Int.reduceMul, Int.reduceNeg] | with_reducible refine vIf_t ?_ | with_reducible refine vIf_f ?_))
    (refine retK_of ?_; (repeat (first | simp (maxSteps := 2000000) (disch := omega) only [go_sem, ↓reduceIte, Nat.reduceEqDiff, Nat.reduceAdd, Nat.reduceMul, Nat.reduceSub, Int.reduceToNat, Int.reduceAdd, Int.reduceSub, Int.reduceMul, Int.reduceNeg] | with_reducible refine vIf_t ?_ | with_reducible refine vIf_f ?_)))
    rw [e]
end Go.Proofs.YtneokdflhleidaaDoor

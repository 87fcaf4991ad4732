/- fractions in lowest terms, of whatever sign -/
import Derived.Test.YtjgjnedenapemaaGreatDoorX9
set_option linter.unusedVariables false
set_option linter.unusedSimpArgs false
namespace Go.Proofs.YtjgjnedenapemaaGreatDoor
open Go.AG

theorem absZ_ok (a : Int) (ha : -1000000000000000000 ≤ a ∧ a ≤ 1000000000000000000) : ACalls Tryz.prog 63 [I a] [] (fun r o => r = I a.natAbs ∧ o = []) := by
  refine ACalls.of_vc Tryz.func63 rfl (by decide) 7 rfl [.tmp 2] rfl (by simp) ?_
  (repeat (first | simp (maxSteps := 2000000) (disch := omega) only [go_sem, ↓reduceIte] | with_reducible refine vIf_t ?_ | with_reducible refine vIf_f ?_))
  (refine retK_of ?_; (repeat (first | simp (maxSteps := 2000000) (disch := omega) only [go_sem, ↓reduceIte] | with_reducible refine vIf_t ?_ | with_reducible refine vIf_f ?_)))
  congr 2
  split <;> omega
theorem gcd_div (a b : Int) (hb : 1 ≤ b) : a.tdiv (Int.gcd a b) = a / (Int.gcd a b : Int) ∧ (a / (Int.gcd a b : Int)) * (Int.gcd a b : Int) = a ∧ (b / (Int.gcd a b : Int)) * (Int.gcd a b : Int) = b ∧ 1 ≤ (Int.gcd a b : Int) := by
  have hg : 0 < Int.gcd a b := Int.gcd_pos_of_ne_zero_right a (by omega)
  have h1 : (Int.gcd a b : Int) ∣ a := Int.gcd_dvd_left ..
  have h2 : (Int.gcd a b : Int) ∣ b := Int.gcd_dvd_right ..
  exact ⟨(Int.tdiv_eq_ediv_of_dvd h1), Int.ediv_mul_cancel h1, Int.ediv_mul_cancel h2, by omega⟩
theorem quot_bd {a q g : Int} (h : q * g = a) (hg : 1 ≤ g) (n : Int) (ha : -n ≤ a ∧ a ≤ n) : -n ≤ q ∧ q ≤ n := by
  obtain ⟨d, hd⟩ : ∃ d, g = d + 1 := ⟨g - 1, by omega⟩
  have hd0 : 0 ≤ d := by omega
  rw [hd, Int.mul_add, Int.mul_one] at h
  constructor
  · rcases Int.lt_or_le q (-n) with h1 | h1
    · have : 0 ≤ (-q) * d := Int.mul_nonneg (by omega) hd0
      rw [Int.neg_mul] at this
      omega
    · exact h1
  · rcases Int.lt_or_le n q with h1 | h1
    · have : 0 ≤ q * d := Int.mul_nonneg (by omega) hd0
      omega
    · exact h1
theorem frZ_ok (a b : Int) (ha : -1000000000000000000 ≤ a ∧ a ≤ 1000000000000000000) (hb : 1 ≤ b ∧ b ≤ 1000000000000000000) : ACalls Tryz.prog 70 [I a, I b] [] (fun r o => r = .agg [I (a / (Int.gcd a b : Int)), I (b / (Int.gcd a b : Int))] ∧ o = []) := by
  refine ACalls.of_vc Tryz.func70 rfl (by decide) 17 rfl [.cell 4 42] rfl (by simp) ?_
  obtain ⟨e1, e2, e3, e4⟩ := gcd_div a b hb.1
  have e5 : b.tdiv (Int.gcd a b) = b / (Int.gcd a b : Int) := Int.tdiv_eq_ediv_of_dvd (Int.gcd_dvd_right ..)
  have q1 := quot_bd e2 e4 1000000000000000000 ha
  have q2 := quot_bd e3 e4 1000000000000000000 (by omega)
  have hg := gcd_ok a.natAbs b.natAbs (by omega) (by omega)
  rw [show ((b.natAbs : Nat) : Int) = b by omega, show Nat.gcd a.natAbs b.natAbs = Int.gcd a b from rfl] at hg
  (repeat (first | simp (maxSteps := 2000000) (disch := omega) only [go_sem, ↓reduceIte] | with_reducible refine vIf_t ?_ | with_reducible refine vIf_f ?_))
  (refine vCallX_of ?_; (repeat (first | simp (maxSteps := 2000000) (disch := omega) only [go_sem, ↓reduceIte] | with_reducible refine vIf_t ?_ | with_reducible refine vIf_f ?_)); refine vCall_eq (absZ_ok a ha) (by simp (disch := omega) only [go_sem]) rfl (by first | exact Or.inl rfl | exact Or.inr ⟨rfl, rfl⟩ | (apply Or.inr; simp only [go_sem])) ?_; (repeat (first | simp (maxSteps := 2000000) (disch := omega) only [go_sem, ↓reduceIte] | with_reducible refine vIf_t ?_ | with_reducible refine vIf_f ?_)))
  (refine vCallX_of ?_; (repeat (first | simp (maxSteps := 2000000) (disch := omega) only [go_sem, ↓reduceIte] | with_reducible refine vIf_t ?_ | with_reducible refine vIf_f ?_)); refine vCall_eq (hg) (by simp (disch := omega) only [go_sem]) rfl (by first | exact Or.inl rfl | exact Or.inr ⟨rfl, rfl⟩ | (apply Or.inr; simp only [go_sem])) ?_; (repeat (first | simp (maxSteps := 2000000) (disch := omega) only [go_sem, ↓reduceIte] | with_reducible refine vIf_t ?_ | with_reducible refine vIf_f ?_)))
  (refine vDraw_tail 6 mixed (by kernel_rfl) ?_; simp only [List.take_succ_cons, List.take_zero, List.drop_succ_cons, List.drop_zero]; (repeat (first | simp (maxSteps := 2000000) (disch := omega) only [go_sem, ↓reduceIte] | with_reducible refine vIf_t ?_ | with_reducible refine vIf_f ?_)))
  (try (repeat (first | simp (maxSteps := 2000000) (disch := omega) only [go_sem, ↓reduceIte, e1, e5] | with_reducible refine vIf_t ?_ | with_reducible refine vIf_f ?_)))
  (refine retK_of ?_; (repeat (first | simp (maxSteps := 2000000) (disch := omega) only [go_sem, ↓reduceIte] | with_reducible refine vIf_t ?_ | with_reducible refine vIf_f ?_)))
end Go.Proofs.YtjgjnedenapemaaGreatDoor

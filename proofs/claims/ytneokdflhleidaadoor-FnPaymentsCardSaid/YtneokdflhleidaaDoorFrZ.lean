/- fractions in lowest terms, of whatever sign -/
import Derived.Test.YtneokdflhleidaaDoorX9
set_option linter.unusedVariables false
set_option linter.unusedSimpArgs false
namespace Go.Proofs.YtneokdflhleidaaDoor
open Go.AG

theorem gcd_div (a b : Int) (hb : 1 ≤ b) : a.tdiv (Int.gcd a b) = a / (Int.gcd a b : Int) ∧ (a / (Int.gcd a b : Int)) * (Int.gcd a b : Int) = a ∧ (b / (Int.gcd a b : Int)) * (Int.gcd a b : Int) = b ∧ 1 ≤ (Int.gcd a b : Int) := by
  have hg : 0 < Int.gcd a b := Int.gcd_pos_of_ne_zero_right a (by omega)
  have h1 : (Int.gcd a b : Int) ∣ a := Int.gcd_dvd_left ..
  have h2 : (Int.gcd a b : Int) ∣ b := Int.gcd_dvd_right ..
  exact ⟨(Int.tdiv_eq_ediv_of_dvd h1), Int.ediv_mul_cancel h1, Int.ediv_mul_cancel h2, by omega⟩
theorem quot_bd {a q g : Int} (h : q * g = a) (hg : 1 ≤ g) (n : Int) (ha : -n ≤ a ∧ a ≤ n) : -n ≤ q ∧ q ≤ n := by
  obtain ⟨d, hd⟩ : ∃ d, g = d + 1 := ⟨g - 1, by omega⟩
  have hd0 : 0 ≤ d := by omega
  rw [hd, Int.mul_add, Int.mul_one] at h
  constructor
  · rcases Int.lt_or_le q (-n) with h1 | h1
    · have : 0 ≤ (-q) * d := Int.mul_nonneg (by omega) hd0
      rw [Int.neg_mul] at this
      omega
    · exact h1
  · rcases Int.lt_or_le n q with h1 | h1
    · have : 0 ≤ q * d := Int.mul_nonneg (by omega) hd0
      omega
    · exact h1
end Go.Proofs.YtneokdflhleidaaDoor

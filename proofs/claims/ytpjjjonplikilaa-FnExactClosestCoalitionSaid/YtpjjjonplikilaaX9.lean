/- trial -/
import Derived.Test.YtpjjjonplikilaaX5
import Derived.Test.YtpjjjonplikilaaAgZ
set_option linter.unusedVariables false
set_option linter.unusedSimpArgs false
namespace Go.Proofs.Ytpjjjonplikilaa
open Go.AG

def fq (x a b : Nat) : Int := IntKind.wrap .i64 ((x : Int).tdiv (Nat.gcd a b : Nat))
def qC (xs : List Int) (m s : Int) : Int := if okV xs 1000000 = true then if (1 ≤ m ∧ m ≤ 60) ∧ (1 ≤ s ∧ s ≤ 2) then 0 else 2 else 1
theorem qC_ok {xs : List Int} {m s : Int} (h : qC xs m s = 0) : okV xs 1000000 = true ∧ (1 ≤ m ∧ m ≤ 60) ∧ (1 ≤ s ∧ s ≤ 2) := by
  unfold qC at h
  split at h
  · rename_i h1
    split at h
    · rename_i h2; exact ⟨h1, h2⟩
    · cases h
  · cases h
theorem okV_sum {xs : List Int} {m : Int} (hm : 0 ≤ m ∧ m ≤ 1000000) (h : okV xs m = true) : 1 ≤ wsum xs ∧ wsum xs ≤ 8000000 ∧ xs.length ≤ 8 ∧ 1 ≤ xs.length ∧ wsum xs = sumI xs := by
  unfold okV at h
  simp only [Bool.and_eq_true, decide_eq_true_eq, List.all_eq_true] at h
  obtain ⟨⟨h1, h2⟩, h3⟩ := h
  have := wsum_eq xs 1000000 (by omega) (fun x hx => by have := h1 x hx; omega) (by omega)
  omega
def quA (xs : List Int) (m : Int) : Int := if qC xs m 1 = 0 then fq (wsum xs).toNat (wsum xs).toNat m.toNat else 0
def quB (xs : List Int) (m : Int) : Int := if qC xs m 1 = 0 then fq m.toNat (wsum xs).toNat m.toNat else 0
end Go.Proofs.Ytpjjjonplikilaa

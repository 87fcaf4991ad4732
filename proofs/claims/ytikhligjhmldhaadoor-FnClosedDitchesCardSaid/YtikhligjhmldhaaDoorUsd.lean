/- marks of what is in a list -/
import Derived.Test.YtikhligjhmldhaaDoorAgZ
set_option linter.unusedVariables false
set_option linter.unusedSimpArgs false
namespace Go.Proofs.YtikhligjhmldhaaDoor
open Go.AG

/-- which cells are used -/
def usd (n : Nat) (L : List Int) : List Bool := (List.range n).map fun (i : Nat) => decide ((i : Int) ∈ L)
theorem usd_len (n : Nat) (L : List Int) : (usd n L).length = n := by simp [usd]
theorem usd_get (n : Nat) (L : List Int) (i : Nat) (h : i < n) : gb (usd n L) i = decide ((i : Int) ∈ L) := by
  rw [gb_lt _ _ (by rw [usd_len]; exact h)]; simp [usd]
theorem usd_nil (n : Nat) : usd n [] = List.replicate n false := by
  apply List.ext_getElem (by simp [usd])
  intro i h1 h2
  simp [usd]
theorem usd_set (n : Nat) (L : List Int) (x : Int) (h : 0 ≤ x ∧ x < n) : (usd n L).set x.toNat true = usd n (L ++ [x]) := by
  apply List.ext_getElem (by simp [usd])
  intro i h1 h2
  rw [List.getElem_set]
  by_cases e : x.toNat = i
  · rw [if_pos e]
    have : (i : Int) = x := by omega
    simp [usd, this]
  · rw [if_neg e]
    have : ¬ (i : Int) = x := by omega
    simp [usd, this]

end Go.Proofs.YtikhligjhmldhaaDoor

/- trial -/
import Derived.Test.YtbbdfifpncjpnaaGreatDoorX3
set_option linter.unusedVariables false
set_option linter.unusedSimpArgs false
namespace Go.Proofs.YtbbdfifpncjpnaaGreatDoor
open Go.AG

def rok (xs : List Int) (lo hi : Int) (j : Nat) : Bool := decide (lo ≤ gi xs j ∧ gi xs j ≤ hi) && !(decide (0 < j ∧ gi xs j ≤ gi xs ((j : Int)-1).toNat))
theorem rok_yes (xs : List Int) (lo hi : Int) (k : Nat) (h1 : lo ≤ gi xs k ∧ gi xs k ≤ hi) (h2 : (k : Int) ≤ 0 ∨ gi xs ((k : Int) - 1).toNat < gi xs k) : rok xs lo hi k = true := by
  unfold rok
  rw [decide_eq_true h1, decide_eq_false (by omega)]
  rfl
theorem rok_no (xs : List Int) (lo hi : Int) (k : Nat) (h : ¬(lo ≤ gi xs k ∧ gi xs k ≤ hi) ∨ (0 < (k : Int) ∧ gi xs k ≤ gi xs ((k : Int) - 1).toNat)) : rok xs lo hi k = false := by
  unfold rok
  rcases h with h | h
  · rw [decide_eq_false h]; rfl
  · rw [decide_eq_true (p := 0 < k ∧ _) ⟨by omega, h.2⟩]; simp
theorem rok_snoc (xs : List Int) (lo hi : Int) (k : Nat) (he : ∀ j, j < k → rok xs lo hi j = true) (h : rok xs lo hi k = true) : ∀ j, j < k + 1 → rok xs lo hi j = true := by
  intro j hj
  rcases Nat.lt_succ_iff_lt_or_eq.1 hj with h1 | h1
  · exact he j h1
  · rw [h1]; exact h
def risesB (xs : List Int) (lo hi : Int) : Bool := decide (∀ j, j < xs.length → rok xs lo hi j = true)
theorem risesB_no (xs : List Int) (lo hi : Int) (k : Nat) (hk : k < xs.length) (h : rok xs lo hi k = false) : V.sc (.bool false) = B (risesB xs lo hi) := by
  have : risesB xs lo hi = false := by
    unfold risesB
    rw [decide_eq_false_iff_not]
    intro h2
    rw [h2 k hk] at h
    cases h
  rw [this]
theorem risesB_yes (xs : List Int) (lo hi : Int) (k : Nat) (hk : xs.length ≤ k) (h : ∀ j, j < k → rok xs lo hi j = true) : V.sc (.bool true) = B (risesB xs lo hi) := by
  have : risesB xs lo hi = true := by
    unfold risesB
    rw [decide_eq_true_eq]
    exact fun j hj => h j (by omega)
  rw [this]

end Go.Proofs.YtbbdfifpncjpnaaGreatDoor

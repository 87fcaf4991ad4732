/- tenders: the least bid for a lot -/
import Derived.Test.YtbbdfifpncjpnaaGreatDoorTender2
import Derived.Test.YtbbdfifpncjpnaaGreatDoorAgZ
set_option linter.unusedVariables false
set_option linter.unusedSimpArgs false
namespace Go.Proofs.YtbbdfifpncjpnaaGreatDoor
open Go.AG

def bstC (bs : List Bd) (lot wo : Int) (b : Int) (k : Nat) : Bool := decide ((gBd bs k).lot = lot ∧ (k : Int) ≠ wo ∧ (b < 0 ∨ (gBd bs k).off < (gBd bs b.toNat).off))
/-- the first of the least bids for a lot among the first k -/
def bst (bs : List Bd) (lot wo : Int) : Nat → Int
  | 0 => -1
  | k + 1 => if bstC bs lot wo (bst bs lot wo k) k = true then (k : Int) else bst bs lot wo k
theorem bst_lt (bs : List Bd) (lot wo : Int) (k : Nat) : -1 ≤ bst bs lot wo k ∧ bst bs lot wo k < k := by
  induction k with
  | zero => simp [bst]
  | succ k ih => simp only [bst]; split <;> omega
theorem bst_yes {bs : List Bd} {lot wo : Int} {k : Nat} (h1 : (gBd bs k).lot = lot) (h2 : (k : Int) ≠ wo) (h3 : bst bs lot wo k < 0 ∨ (gBd bs k).off < (gBd bs (bst bs lot wo k).toNat).off) : bst bs lot wo (k + 1) = k := by
  simp only [bst]; rw [if_pos]; simp [bstC, h1, h2, h3]
theorem bst_no {bs : List Bd} {lot wo : Int} {k : Nat} (h : ¬ ((gBd bs k).lot = lot ∧ (k : Int) ≠ wo ∧ (bst bs lot wo k < 0 ∨ (gBd bs k).off < (gBd bs (bst bs lot wo k).toNat).off))) : bst bs lot wo (k + 1) = bst bs lot wo k := by
  simp only [bst]; rw [if_neg]; simpa [bstC] using h
theorem bst_mono {bs : List Bd} {lot wo : Int} {i : Nat} (h1 : (gBd bs i).lot = lot) (h2 : (i : Int) ≠ wo) : ∀ k, i < k → 0 ≤ bst bs lot wo k := by
  intro k
  induction k with
  | zero => intro h; omega
  | succ k ih =>
    intro h
    by_cases hk : i < k
    · have := ih hk
      simp only [bst]; split <;> omega
    · have : i = k := by omega
      subst this
      simp only [bst]; split
      · omega
      · rename_i hc
        simp only [bstC, decide_eq_true_eq, h1, h2, ne_eq, not_false_eq_true, true_and] at hc
        omega

end Go.Proofs.YtbbdfifpncjpnaaGreatDoor

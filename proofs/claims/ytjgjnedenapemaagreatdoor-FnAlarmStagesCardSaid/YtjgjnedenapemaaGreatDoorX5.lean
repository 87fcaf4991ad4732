/- trial -/
import Derived.Test.YtjgjnedenapemaaGreatDoorX4
set_option linter.unusedVariables false
set_option linter.unusedSimpArgs false
namespace Go.Proofs.YtjgjnedenapemaaGreatDoor
open Go.AG

def mand (xs ys : List Int) : Int := wsum (ys.map (fun y => gi xs y.toNat))
theorem mand_snoc (xs ys : List Int) (y : Int) : mand xs (ys ++ [y]) = IntKind.wrap .i64 (mand xs ys + gi xs y.toNat) := by
  unfold mand; rw [List.map_append]; exact wsum_snoc _ _
theorem mand_nil (xs : List Int) : mand xs [] = 0 := rfl
theorem rises_in {ys : List Int} {lo hi : Int} (h : risesB ys lo hi = true) (k : Nat) (hk : k < ys.length) : lo ≤ gi ys k ∧ gi ys k ≤ hi := by
  have h := of_decide_eq_true h k hk
  unfold rok at h
  rw [Bool.and_eq_true, decide_eq_true_eq] at h
  exact h.1

def hmB (xs ys : List Int) : Bool := okV xs 60 && risesB ys 0 ((xs.length : Int) - 1) && decide (wsum xs < IntKind.wrap .i64 (2 * mand xs ys))
def hmN (xs ys : List Int) : Int := if okV xs 60 = true then if risesB ys 0 ((xs.length : Int) - 1) = true then 0 else 2 else 1

end Go.Proofs.YtjgjnedenapemaaGreatDoor

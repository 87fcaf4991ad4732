/- sort.symMerge_func, walked -/
import Derived.Test.YthnphcinjchloaaSym2
set_option linter.unusedVariables false
set_option linter.unusedSimpArgs false
namespace Go.Proofs.Ythnphcinjchloaa
open Go.AG Go.Lib Go.Sort Go.Shelf Go.RowKit Go.Proofs
variable {α : Type} [Inhabited α]

theorem upM_size (d : Array α) (k i : Nat) : (upM d k i).size = d.size := by
  induction hn : i - k using Nat.strongRecOn generalizing k d with
  | _ n ih =>
    rw [upM]
    split
    · rw [ih (i - (k + 1)) (by omega) _ (k + 1) rfl, size_swp]
    · rfl
theorem downM_size (d : Array α) (k i : Nat) : (downM d k i).size = d.size := by
  induction hn : k - i using Nat.strongRecOn generalizing k d with
  | _ n ih =>
    rw [downM]
    split
    · rw [ih (k - 1 - i) (by omega) _ (k - 1) rfl, size_swp]
    · rfl
theorem symM_size (lt : α → α → Bool) (f a m b : Nat) (d : Array α) : (symM lt f a m b d).size = d.size := by
  induction f generalizing a m b d with
  | zero => rfl
  | succ f ih =>
    rw [symM]
    split
    · exact upM_size _ _ _
    · split
      · exact downM_size _ _ _
      · simp only
        split <;> split <;> split <;> simp only [ih, rotM_size]
end Go.Proofs.Ythnphcinjchloaa

/- the places at which something is so -/
import Derived.Test.YtkflbpojkccchaaDoorAgT
import Derived.Test.YtkflbpojkccchaaDoorAgZ
set_option linter.unusedVariables false
set_option linter.unusedSimpArgs false
namespace Go.Proofs.YtkflbpojkccchaaDoor
open Go.AG

/-- the places at which something is so -/
def ixs (n : Nat) (q : Nat → Bool) : List Int := ((List.range n).filter q).map fun (i : Nat) => (i : Int)
theorem ixs_zero (q : Nat → Bool) : ixs 0 q = [] := rfl
theorem ixs_yes {n : Nat} {q : Nat → Bool} (h : q n = true) : ixs (n + 1) q = ixs n q ++ [(n : Int)] := by simp [ixs, List.range_succ, h]
theorem ixs_no {n : Nat} {q : Nat → Bool} (h : q n = false) : ixs (n + 1) q = ixs n q := by simp [ixs, List.range_succ, h]
theorem ixs_len (n : Nat) (q : Nat → Bool) : (ixs n q).length ≤ n := by
  simp only [ixs, List.length_map]; exact Nat.le_trans (List.length_filter_le _ _) (by simp)

end Go.Proofs.YtkflbpojkccchaaDoor

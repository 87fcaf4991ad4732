/- trial -/
import Derived.Test.YtjgjnedenapemaaGreatDoorX5
import Derived.Test.YtjgjnedenapemaaGreatDoorAgZ
set_option linter.unusedVariables false
set_option linter.unusedSimpArgs false
namespace Go.Proofs.YtjgjnedenapemaaGreatDoor
open Go.AG

theorem clone_ok (xs : List Int) (hl : xs.length ≤ 10000000) : ACalls Tryz.prog 104 [iS xs] [] (fun r o => r = .ref 0 0 xs.length ∧ o = [oI xs]) := by
  refine ACalls.of_vc Tryz.func104 rfl (by decide) 6 rfl [.tmp 2] rfl (by simp) ?_
  unfold iS oI
  (repeat (first | simp (maxSteps := 2000000) (disch := omega) only [go_sem, ↓reduceIte] | with_reducible refine vIf_t ?_ | with_reducible refine vIf_f ?_))
  (refine retK_of ?_; (repeat (first | simp (maxSteps := 2000000) (disch := omega) only [go_sem, ↓reduceIte] | with_reducible refine vIf_t ?_ | with_reducible refine vIf_f ?_)))
end Go.Proofs.YtjgjnedenapemaaGreatDoor

/- the helpers of one family of laws -/
import Derived.Test.YtbbdfifpncjpnaaDoorAgT
import Derived.Test.YtbbdfifpncjpnaaDoorAgZ
import Derived.Test.YtbbdfifpncjpnaaDoorArgs
set_option linter.unusedVariables false
set_option linter.unusedSimpArgs false
namespace Go.Proofs.YtbbdfifpncjpnaaDoor
open Go.AG

theorem f6big_ok (code : List Int) (hl : code.length ≤ 9223372036854775807) : ACalls Tryd.prog 4 [bS code] [] (fun r o => r = B (decide (4096 < code.length)) ∧ o = []) := by
  refine ACalls.of_vc Tryd.func4 rfl (by decide) 6 rfl [.tmp 2] rfl (by simp) ?_
  unfold bS
  (repeat (first | simp (maxSteps := 2000000) (disch := omega) only [go_sem, ↓reduceIte, Nat.reduceEqDiff, Nat.reduceAdd, Nat.reduceMul, Nat.reduceSub, Int.reduceToNat, Int.reduceAdd, Int.reduceSub, Int.reduceMul, Int.reduceNeg] | with_reducible refine vIf_t ?_ | with_reducible refine vIf_f ?_))
  (refine retK_of ?_; (repeat (first | simp (maxSteps := 2000000) (disch := omega) only [go_sem, ↓reduceIte, Nat.reduceEqDiff, Nat.reduceAdd, Nat.reduceMul, Nat.reduceSub, Int.reduceToNat, Int.reduceAdd, Int.reduceSub, Int.reduceMul, Int.reduceNeg] | with_reducible refine vIf_t ?_ | with_reducible refine vIf_f ?_)))
  have e : decide (4096 < (code.length : Int)) = decide (4096 < code.length) := decide_eq_decide.2 (by omega)
  rw [e]
end Go.Proofs.YtbbdfifpncjpnaaDoor

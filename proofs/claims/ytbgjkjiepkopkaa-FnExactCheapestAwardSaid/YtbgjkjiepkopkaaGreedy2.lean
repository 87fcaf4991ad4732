/- tenders: the greedy award: the walks -/
import Derived.Test.YtbgjkjiepkopkaaGreedy
set_option linter.unusedVariables false
set_option linter.unusedSimpArgs false
namespace Go.Proofs.Ytbgjkjiepkopkaa
open Go.AG

theorem own_ok (xs : List Int) (hl : xs.length ≤ 10000000) : ACalls Try.prog 30 [iS xs] [] (fun r o => r = .ref 0 0 xs.length ∧ o = [oI xs]) := by
  refine ACalls.of_vc Try.func30 rfl (by decide) 6 rfl [.tmp 2] rfl (by simp) ?_
  unfold iS oI
  (repeat (first | simp (maxSteps := 2000000) (disch := omega) only [go_sem, ↓reduceIte, Nat.reduceEqDiff, Nat.reduceAdd, Nat.reduceMul, Nat.reduceSub, Int.reduceToNat, Int.reduceAdd, Int.reduceSub, Int.reduceMul, Int.reduceNeg] | with_reducible refine vIf_t ?_ | with_reducible refine vIf_f ?_))
  (refine retK_of ?_; (repeat (first | simp (maxSteps := 2000000) (disch := omega) only [go_sem, ↓reduceIte, Nat.reduceEqDiff, Nat.reduceAdd, Nat.reduceMul, Nat.reduceSub, Int.reduceToNat, Int.reduceAdd, Int.reduceSub, Int.reduceMul, Int.reduceNeg] | with_reducible refine vIf_t ?_ | with_reducible refine vIf_f ?_)))
theorem rep_succ (k : Nat) : List.replicate (k + 1) (-1 : Int) = List.replicate k (-1) ++ [-1] := List.replicate_succ'

end Go.Proofs.Ytbgjkjiepkopkaa

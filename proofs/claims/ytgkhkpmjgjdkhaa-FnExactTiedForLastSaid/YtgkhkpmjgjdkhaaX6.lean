/- trial -/
import Derived.Test.YtgkhkpmjgjdkhaaX5
import Derived.Test.YtgkhkpmjgjdkhaaAgR
set_option linter.unusedVariables false
set_option linter.unusedSimpArgs false
namespace Go.Proofs.Ytgkhkpmjgjdkhaa
open Go.AG

theorem mark_ok (xs : List Int) (hl : xs.length ≤ 10000000) : ACalls Try.prog 20 [.ref 0 0 xs.length, I 1] [oI xs] (fun r o => r = I ((xs.length : Int) + 1) ∧ o = [oI (upto xs.length)]) := by
  refine ACalls.of_vc Try.func20 rfl (by decide) 19 rfl [.tmp 4] rfl (by simp) ?_
  unfold oI
  simp (maxSteps := 2000000) (disch := omega) only [go_sem, Nat.reduceEqDiff, Nat.reduceAdd, Nat.reduceMul, Nat.reduceSub, Int.reduceToNat, Int.reduceAdd, Int.reduceSub, Int.reduceMul, Int.reduceNeg]
  refine vcLoop_inv (fun k : Nat => k ≤ xs.length) (fun k => ⟨19, 1, [(5, I k), (1, I ((k : Int) + 1)), (0, .ref 0 0 xs.length)], [some ⟨1, ints (upto k ++ xs.drop k)⟩]⟩) (fun k => xs.length - k) 0 (by omega) (by simp (maxSteps := 2000000) (disch := omega) only [go_sem, Nat.reduceEqDiff, Nat.reduceAdd, Nat.reduceMul, Nat.reduceSub, Int.reduceToNat, Int.reduceAdd, Int.reduceSub, Int.reduceMul, Int.reduceNeg]; simp [upto_zero]) ?_
  intro k hk
  have hlen : (upto k ++ xs.drop k).length = xs.length := by simp [length_upto]; omega
  simp (maxSteps := 2000000) (disch := omega) only [go_sem, Nat.reduceEqDiff, Nat.reduceAdd, Nat.reduceMul, Nat.reduceSub, Int.reduceToNat, Int.reduceAdd, Int.reduceSub, Int.reduceMul, Int.reduceNeg]
  refine vIf_dec (fun h => ?_) (fun h => ?_)
  · simp (maxSteps := 2000000) (disch := omega) only [go_sem, Nat.reduceEqDiff, Nat.reduceAdd, Nat.reduceMul, Nat.reduceSub, Int.reduceToNat, Int.reduceAdd, Int.reduceSub, Int.reduceMul, Int.reduceNeg, hlen]
    refine again (k + 1) (by omega) (by omega) ?_
    simp (maxSteps := 2000000) (disch := omega) only [go_sem, Nat.reduceEqDiff, Nat.reduceAdd, Nat.reduceMul, Nat.reduceSub, Int.reduceToNat, Int.reduceAdd, Int.reduceSub, Int.reduceMul, Int.reduceNeg, hlen]
    rw [set_grow _ _ _ _ (length_upto k) (by omega), upto_succ]
    all_goals (try simp)
  · simp (maxSteps := 2000000) (disch := omega) only [go_sem, Nat.reduceEqDiff, Nat.reduceAdd, Nat.reduceMul, Nat.reduceSub, Int.reduceToNat, Int.reduceAdd, Int.reduceSub, Int.reduceMul, Int.reduceNeg]
    (refine retK_of ?_; simp (maxSteps := 2000000) (disch := omega) only [go_sem, Nat.reduceEqDiff, Nat.reduceAdd, Nat.reduceMul, Nat.reduceSub, Int.reduceToNat, Int.reduceAdd, Int.reduceSub, Int.reduceMul, Int.reduceNeg])
    rw [show k = xs.length from by omega]
    simp
theorem held_ok (n : Nat) (hl : n ≤ 10000000) : ACalls Try.prog 21 [iS (upto n), I 1] [] (fun r o => r = I ((n : Int) + 1) ∧ o = []) := by
  refine ACalls.of_vc Try.func21 rfl (by decide) 21 rfl [.tmp 4] rfl (by simp) ?_
  unfold iS
  simp (maxSteps := 2000000) (disch := omega) only [go_sem, Nat.reduceEqDiff, Nat.reduceAdd, Nat.reduceMul, Nat.reduceSub, Int.reduceToNat, Int.reduceAdd, Int.reduceSub, Int.reduceMul, Int.reduceNeg]
  refine vcLoop_inv (fun k : Nat => k ≤ n) (fun k => ⟨21, 0, [(5, I k), (1, I ((k : Int) + 1)), (0, .sl n (ints (upto n)))], []⟩) (fun k => n - k) 0 (by omega) (by simp (maxSteps := 2000000) (disch := omega) only [go_sem, Nat.reduceEqDiff, Nat.reduceAdd, Nat.reduceMul, Nat.reduceSub, Int.reduceToNat, Int.reduceAdd, Int.reduceSub, Int.reduceMul, Int.reduceNeg]) ?_
  intro k hk
  simp (maxSteps := 2000000) (disch := omega) only [go_sem, Nat.reduceEqDiff, Nat.reduceAdd, Nat.reduceMul, Nat.reduceSub, Int.reduceToNat, Int.reduceAdd, Int.reduceSub, Int.reduceMul, Int.reduceNeg]
  refine vIf_dec (fun h => ?_) (fun h => ?_)
  · simp (maxSteps := 2000000) (disch := omega) only [go_sem, Nat.reduceEqDiff, Nat.reduceAdd, Nat.reduceMul, Nat.reduceSub, Int.reduceToNat, Int.reduceAdd, Int.reduceSub, Int.reduceMul, Int.reduceNeg, gi_upto n k (by omega)]
    refine again (k + 1) (by omega) (by omega) ?_
    simp (maxSteps := 2000000) (disch := omega) only [go_sem, Nat.reduceEqDiff, Nat.reduceAdd, Nat.reduceMul, Nat.reduceSub, Int.reduceToNat, Int.reduceAdd, Int.reduceSub, Int.reduceMul, Int.reduceNeg]
  · simp (maxSteps := 2000000) (disch := omega) only [go_sem, Nat.reduceEqDiff, Nat.reduceAdd, Nat.reduceMul, Nat.reduceSub, Int.reduceToNat, Int.reduceAdd, Int.reduceSub, Int.reduceMul, Int.reduceNeg]
    (refine retK_of ?_; simp (maxSteps := 2000000) (disch := omega) only [go_sem, Nat.reduceEqDiff, Nat.reduceAdd, Nat.reduceMul, Nat.reduceSub, Int.reduceToNat, Int.reduceAdd, Int.reduceSub, Int.reduceMul, Int.reduceNeg])
    simp; omega
theorem clone_ok (xs : List Int) (hl : xs.length ≤ 10000000) : ACalls Try.prog 53 [iS xs] [] (fun r o => r = .ref 0 0 xs.length ∧ o = [oI xs]) := by
  refine ACalls.of_vc Try.func53 rfl (by decide) 6 rfl [.tmp 2] rfl (by simp) ?_
  unfold iS oI
  simp (maxSteps := 2000000) (disch := omega) only [go_sem, Nat.reduceEqDiff, Nat.reduceAdd, Nat.reduceMul, Nat.reduceSub, Int.reduceToNat, Int.reduceAdd, Int.reduceSub, Int.reduceMul, Int.reduceNeg]
  (refine retK_of ?_; simp (maxSteps := 2000000) (disch := omega) only [go_sem, Nat.reduceEqDiff, Nat.reduceAdd, Nat.reduceMul, Nat.reduceSub, Int.reduceToNat, Int.reduceAdd, Int.reduceSub, Int.reduceMul, Int.reduceNeg])
end Go.Proofs.Ytgkhkpmjgjdkhaa

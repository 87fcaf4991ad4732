/- the greatest averages: the walk of the reference -/
import Derived.Test.YtgkhkpmjgjdkhaaY1
set_option linter.unusedVariables false
set_option linter.unusedSimpArgs false
namespace Go.Proofs.Ytgkhkpmjgjdkhaa
open Go.AG

def alln (R : Nat → Nat → Bool) (i k : Nat) : Bool := (List.range k).all fun k' => R k' i
theorem alln_succ (R : Nat → Nat → Bool) (i k : Nat) : alln R i (k + 1) = (alln R i k && R k i) := by
  unfold alln; rw [List.range_succ, List.all_append]; simp
theorem alln_zero (R : Nat → Nat → Bool) (i : Nat) : alln R i 0 = true := rfl
theorem alln_iff (R : Nat → Nat → Bool) (i k : Nat) : alln R i k = true ↔ ∀ k', k' < k → R k' i = true := by simp [alln]

set_option maxHeartbeats 4000000 in
theorem next_ok (v h : List Int) (s : Int) (g : AvOk v h s) : ACalls Try.prog 74 [iS v, iS h, I s] [] (fun r o => r = .ref 0 0 (nx v h s v.length v.length).length ∧ o = [oI (nx v h s v.length v.length)]) := by
  refine ACalls.of_vc Try.func74 rfl (by decide) 58 rfl [.tmp 6] rfl (by simp) ?_
  have hl := g.le8
  have hl2 := g.len
  simp (maxSteps := 2000000) (disch := omega) only [go_sem, Nat.reduceEqDiff, Nat.reduceAdd, Nat.reduceMul, Nat.reduceSub, Int.reduceToNat, Int.reduceAdd, Int.reduceSub, Int.reduceMul, Int.reduceNeg]
  refine vcLoop_inv (fun i : Nat => i ≤ v.length) (fun i => ⟨58, 0, [(8, I i), (7, .ref 0 0 (nx v h s v.length i).length), (0, .sl v.length (ints v)), (1, .sl h.length (ints h)), (2, I s)], [some ⟨1, ints (nx v h s v.length i)⟩]⟩) (fun i => v.length - i) 0 (by simp) (by simp (maxSteps := 2000000) (disch := omega) only [go_sem, Nat.reduceEqDiff, Nat.reduceAdd, Nat.reduceMul, Nat.reduceSub, Int.reduceToNat, Int.reduceAdd, Int.reduceSub, Int.reduceMul, Int.reduceNeg, nx_zero]; all_goals (try simp)) ?_
  intro i hi
  have hn := nx_len v h s v.length i
  simp (maxSteps := 2000000) (disch := omega) only [go_sem, Nat.reduceEqDiff, Nat.reduceAdd, Nat.reduceMul, Nat.reduceSub, Int.reduceToNat, Int.reduceAdd, Int.reduceSub, Int.reduceMul, Int.reduceNeg]
  refine vIf_dec (fun hc => ?_) (fun hc => ?_)
  · have hil : i < v.length := by omega
    have hih : i < h.length := by omega
    simp (maxSteps := 2000000) (disch := omega) only [go_sem, Nat.reduceEqDiff, Nat.reduceAdd, Nat.reduceMul, Nat.reduceSub, Int.reduceToNat, Int.reduceAdd, Int.reduceSub, Int.reduceMul, Int.reduceNeg]
    refine vcLoop_inv (fun k : Nat => k ≤ v.length) (fun k => ⟨58, 0, [(10, I k), (9, B (alln (Rv v h s) i k)), (8, I i), (7, .ref 0 0 (nx v h s v.length i).length), (0, .sl v.length (ints v)), (1, .sl h.length (ints h)), (2, I s)], [some ⟨1, ints (nx v h s v.length i)⟩]⟩) (fun k => v.length - k) 0 (by simp) (by simp (maxSteps := 2000000) (disch := omega) only [go_sem, Nat.reduceEqDiff, Nat.reduceAdd, Nat.reduceMul, Nat.reduceSub, Int.reduceToNat, Int.reduceAdd, Int.reduceSub, Int.reduceMul, Int.reduceNeg, alln_zero]) ?_
    intro k hk
    simp (maxSteps := 2000000) (disch := omega) only [go_sem, Nat.reduceEqDiff, Nat.reduceAdd, Nat.reduceMul, Nat.reduceSub, Int.reduceToNat, Int.reduceAdd, Int.reduceSub, Int.reduceMul, Int.reduceNeg]
    refine vIf_dec (fun hc2 => ?_) (fun hc2 => ?_)
    · have hkl : k < v.length := by omega
      have hkh : k < h.length := by omega
      simp (maxSteps := 2000000) (disch := omega) only [go_sem, Nat.reduceEqDiff, Nat.reduceAdd, Nat.reduceMul, Nat.reduceSub, Int.reduceToNat, Int.reduceAdd, Int.reduceSub, Int.reduceMul, Int.reduceNeg]
      have e := alln_succ (Rv v h s) i k
      cases hb : alln (Rv v h s) i k with
      | true =>
        rw [hb] at e
        (refine vDraw_of mixed (by kernel_rfl) ?_; simp (maxSteps := 2000000) (disch := omega) only [go_sem, Nat.reduceEqDiff, Nat.reduceAdd, Nat.reduceMul, Nat.reduceSub, Int.reduceToNat, Int.reduceAdd, Int.reduceSub, Int.reduceMul, Int.reduceNeg])
        refine again (k + 1) (by omega) (by omega) ?_
        simp (maxSteps := 2000000) (disch := omega) only [go_sem, Nat.reduceEqDiff, Nat.reduceAdd, Nat.reduceMul, Nat.reduceSub, Int.reduceToNat, Int.reduceAdd, Int.reduceSub, Int.reduceMul, Int.reduceNeg, e]
        simp [Rv, pr]
        first | rfl | congr
      | false =>
        rw [hb] at e
        (refine vDraw_of mixed (by kernel_rfl) ?_; simp (maxSteps := 2000000) (disch := omega) only [go_sem, Nat.reduceEqDiff, Nat.reduceAdd, Nat.reduceMul, Nat.reduceSub, Int.reduceToNat, Int.reduceAdd, Int.reduceSub, Int.reduceMul, Int.reduceNeg])
        refine again (k + 1) (by omega) (by omega) ?_
        simp (maxSteps := 2000000) (disch := omega) only [go_sem, Nat.reduceEqDiff, Nat.reduceAdd, Nat.reduceMul, Nat.reduceSub, Int.reduceToNat, Int.reduceAdd, Int.reduceSub, Int.reduceMul, Int.reduceNeg, e]
        all_goals (try simp)
    · have e : k = v.length := by omega
      subst e
      simp (maxSteps := 2000000) (disch := omega) only [go_sem, Nat.reduceEqDiff, Nat.reduceAdd, Nat.reduceMul, Nat.reduceSub, Int.reduceToNat, Int.reduceAdd, Int.reduceSub, Int.reduceMul, Int.reduceNeg]
      refine vIf_bool (fun hb => ?_) (fun hb => ?_)
      · have e : nx v h s v.length (i + 1) = _ := nx_snoc (bst_succ_yes (Rv v h s) v.length i ((alln_iff _ _ _).1 hb))
        simp (maxSteps := 2000000) (disch := omega) only [go_sem, Nat.reduceEqDiff, Nat.reduceAdd, Nat.reduceMul, Nat.reduceSub, Int.reduceToNat, Int.reduceAdd, Int.reduceSub, Int.reduceMul, Int.reduceNeg]
        refine again (i + 1) (by omega) (by omega) ?_
        simp (maxSteps := 2000000) (disch := omega) only [go_sem, Nat.reduceEqDiff, Nat.reduceAdd, Nat.reduceMul, Nat.reduceSub, Int.reduceToNat, Int.reduceAdd, Int.reduceSub, Int.reduceMul, Int.reduceNeg, e]
        all_goals (try simp)
      · have e : nx v h s v.length (i + 1) = _ := nx_eq (bst_succ_no (Rv v h s) v.length i (fun h2 => by rw [(alln_iff _ _ _).2 h2] at hb; cases hb))
        simp (maxSteps := 2000000) (disch := omega) only [go_sem, Nat.reduceEqDiff, Nat.reduceAdd, Nat.reduceMul, Nat.reduceSub, Int.reduceToNat, Int.reduceAdd, Int.reduceSub, Int.reduceMul, Int.reduceNeg]
        refine again (i + 1) (by omega) (by omega) ?_
        simp (maxSteps := 2000000) (disch := omega) only [go_sem, Nat.reduceEqDiff, Nat.reduceAdd, Nat.reduceMul, Nat.reduceSub, Int.reduceToNat, Int.reduceAdd, Int.reduceSub, Int.reduceMul, Int.reduceNeg, e]
        all_goals (try simp)
  · have e : i = v.length := by omega
    subst e
    simp (maxSteps := 2000000) (disch := omega) only [go_sem, Nat.reduceEqDiff, Nat.reduceAdd, Nat.reduceMul, Nat.reduceSub, Int.reduceToNat, Int.reduceAdd, Int.reduceSub, Int.reduceMul, Int.reduceNeg]
    (refine retK_of ?_; simp (maxSteps := 2000000) (disch := omega) only [go_sem, Nat.reduceEqDiff, Nat.reduceAdd, Nat.reduceMul, Nat.reduceSub, Int.reduceToNat, Int.reduceAdd, Int.reduceSub, Int.reduceMul, Int.reduceNeg])
end Go.Proofs.Ytgkhkpmjgjdkhaa

/- the greatest averages: the walks -/
import Derived.Test.YtgkhkpmjgjdkhaaY1
set_option linter.unusedVariables false
set_option linter.unusedSimpArgs false
namespace Go.Proofs.Ytgkhkpmjgjdkhaa
open Go.AG

set_option maxHeartbeats 4000000 in
theorem best_ok (v h : List Int) (s : Int) (g : AvOk v h s) : ACalls Try.prog 75 [iS v, iS h, I s] [] (fun r o => r = .ref 0 0 (nx v h s v.length v.length).length ∧ o = [oI (nx v h s v.length v.length)]) := by
  refine ACalls.of_vc Try.func75 rfl (by decide) 68 rfl [.tmp 6] rfl (by simp) ?_
  have hl := g.le8
  have hl2 := g.len
  simp (maxSteps := 2000000) (disch := omega) only [go_sem, Nat.reduceEqDiff, Nat.reduceAdd, Nat.reduceMul, Nat.reduceSub, Int.reduceToNat, Int.reduceAdd, Int.reduceSub, Int.reduceMul, Int.reduceNeg]
  refine vcLoop_inv (fun k : Nat => k ≤ v.length ∧ (k = 0 ∨ nx v h s k k ≠ [])) (fun k => ⟨68, 0, [(16, I k), (15, I v.length), (7, .ref 0 0 (nx v h s k k).length), (0, .sl v.length (ints v)), (1, .sl h.length (ints h)), (2, I s)], [some ⟨1, ints (nx v h s k k)⟩]⟩) (fun k => v.length - k) 0 (by simp) (by simp (maxSteps := 2000000) (disch := omega) only [go_sem, Nat.reduceEqDiff, Nat.reduceAdd, Nat.reduceMul, Nat.reduceSub, Int.reduceToNat, Int.reduceAdd, Int.reduceSub, Int.reduceMul, Int.reduceNeg, nx_zero]; all_goals (try simp)) ?_
  intro k ⟨hk, he⟩
  have hn := nx_len v h s k k
  have tot : ∀ i k, i < v.length → k < v.length → Rv v h s i k = true ∨ Rv v h s k i = true := fun i k hi hk => Rv_tot g i k hi hk
  have tr : ∀ i k l, i < v.length → k < v.length → l < v.length → Rv v h s i k = true → Rv v h s k l = true → Rv v h s i l = true := fun i k l hi hk hl => Rv_tr g i k l hi hk hl
  simp (maxSteps := 2000000) (disch := omega) only [go_sem, Nat.reduceEqDiff, Nat.reduceAdd, Nat.reduceMul, Nat.reduceSub, Int.reduceToNat, Int.reduceAdd, Int.reduceSub, Int.reduceMul, Int.reduceNeg]
  refine vIf_dec (fun hc => ?_) (fun hc => ?_)
  · have hkl : k < v.length := by omega
    simp (maxSteps := 2000000) (disch := omega) only [go_sem, Nat.reduceEqDiff, Nat.reduceAdd, Nat.reduceMul, Nat.reduceSub, Int.reduceToNat, Int.reduceAdd, Int.reduceSub, Int.reduceMul, Int.reduceNeg]
    refine vIf_beq (fun h0 => ?_) (fun h0 => ?_)
    · have hk0 : k = 0 := by
        rcases he with he | he
        · exact he
        · have := List.length_pos_iff.2 he; omega
      subst hk0
      simp (maxSteps := 2000000) (disch := omega) only [go_sem, Nat.reduceEqDiff, Nat.reduceAdd, Nat.reduceMul, Nat.reduceSub, Int.reduceToNat, Int.reduceAdd, Int.reduceSub, Int.reduceMul, Int.reduceNeg]
      refine again_new 1 ⟨by omega, .inr (by rw [nx_first]; simp)⟩ (by omega) ?_
      simp (maxSteps := 2000000) (disch := omega) only [go_sem, Nat.reduceEqDiff, Nat.reduceAdd, Nat.reduceMul, Nat.reduceSub, Int.reduceToNat, Int.reduceAdd, Int.reduceSub, Int.reduceMul, Int.reduceNeg, nx_first]
    · have hne : nx v h s k k ≠ [] := by intro e; rw [e] at h0; exact h0 rfl
      obtain ⟨t, ht1, ht2, ht3⟩ := nx_top hne
      have hth : t < h.length := by omega
      have htv : t < v.length := by omega
      have hkh : k < h.length := by omega
      have hne2 : 0 < (nx v h s k k).length := List.length_pos_iff.2 hne
      simp (maxSteps := 2000000) (disch := omega) only [go_sem, Nat.reduceEqDiff, Nat.reduceAdd, Nat.reduceMul, Nat.reduceSub, Int.reduceToNat, Int.reduceAdd, Int.reduceSub, Int.reduceMul, Int.reduceNeg, ht1]
      (refine vDraw_of mixed (by kernel_rfl) ?_; simp (maxSteps := 2000000) (disch := omega) only [go_sem, Nat.reduceEqDiff, Nat.reduceAdd, Nat.reduceMul, Nat.reduceSub, Int.reduceToNat, Int.reduceAdd, Int.reduceSub, Int.reduceMul, Int.reduceNeg])
      refine vIf_dec (fun h1 => ?_) (fun h1 => ?_)
      · have e := nx_one (bst_new tot tr hkl ht3 (by unfold Rv pr; rw [decide_eq_true_eq]; omega) (by unfold Rv pr; rw [decide_eq_false_iff_not]; omega))
        simp (maxSteps := 2000000) (disch := omega) only [go_sem, Nat.reduceEqDiff, Nat.reduceAdd, Nat.reduceMul, Nat.reduceSub, Int.reduceToNat, Int.reduceAdd, Int.reduceSub, Int.reduceMul, Int.reduceNeg]
        refine again_new (k + 1) ⟨by omega, .inr (by rw [e]; simp)⟩ (by omega) ?_
        simp (maxSteps := 2000000) (disch := omega) only [go_sem, Nat.reduceEqDiff, Nat.reduceAdd, Nat.reduceMul, Nat.reduceSub, Int.reduceToNat, Int.reduceAdd, Int.reduceSub, Int.reduceMul, Int.reduceNeg, e]
      · simp (maxSteps := 2000000) (disch := omega) only [go_sem, Nat.reduceEqDiff, Nat.reduceAdd, Nat.reduceMul, Nat.reduceSub, Int.reduceToNat, Int.reduceAdd, Int.reduceSub, Int.reduceMul, Int.reduceNeg]
        refine vIf_beq (fun h2 => ?_) (fun h2 => ?_)
        · have e := nx_snoc (bst_same tot tr hkl ht3 (by unfold Rv pr; rw [decide_eq_true_eq]; omega) (by unfold Rv pr; rw [decide_eq_true_eq]; omega))
          simp (maxSteps := 2000000) (disch := omega) only [go_sem, Nat.reduceEqDiff, Nat.reduceAdd, Nat.reduceMul, Nat.reduceSub, Int.reduceToNat, Int.reduceAdd, Int.reduceSub, Int.reduceMul, Int.reduceNeg]
          refine again (k + 1) ⟨by omega, .inr (by rw [e]; simp)⟩ (by omega) ?_
          simp (maxSteps := 2000000) (disch := omega) only [go_sem, Nat.reduceEqDiff, Nat.reduceAdd, Nat.reduceMul, Nat.reduceSub, Int.reduceToNat, Int.reduceAdd, Int.reduceSub, Int.reduceMul, Int.reduceNeg, e]
        · have e := nx_eq (bst_old tot tr hkl ht3 (by unfold Rv pr; rw [decide_eq_false_iff_not]; omega))
          simp (maxSteps := 2000000) (disch := omega) only [go_sem, Nat.reduceEqDiff, Nat.reduceAdd, Nat.reduceMul, Nat.reduceSub, Int.reduceToNat, Int.reduceAdd, Int.reduceSub, Int.reduceMul, Int.reduceNeg]
          refine again (k + 1) ⟨by omega, .inr (by rw [e]; exact hne)⟩ (by omega) ?_
          simp (maxSteps := 2000000) (disch := omega) only [go_sem, Nat.reduceEqDiff, Nat.reduceAdd, Nat.reduceMul, Nat.reduceSub, Int.reduceToNat, Int.reduceAdd, Int.reduceSub, Int.reduceMul, Int.reduceNeg, e]
  · have e : k = v.length := by omega
    subst e
    simp (maxSteps := 2000000) (disch := omega) only [go_sem, Nat.reduceEqDiff, Nat.reduceAdd, Nat.reduceMul, Nat.reduceSub, Int.reduceToNat, Int.reduceAdd, Int.reduceSub, Int.reduceMul, Int.reduceNeg]
    (refine retK_of ?_; simp (maxSteps := 2000000) (disch := omega) only [go_sem, Nat.reduceEqDiff, Nat.reduceAdd, Nat.reduceMul, Nat.reduceSub, Int.reduceToNat, Int.reduceAdd, Int.reduceSub, Int.reduceMul, Int.reduceNeg])
end Go.Proofs.Ytgkhkpmjgjdkhaa

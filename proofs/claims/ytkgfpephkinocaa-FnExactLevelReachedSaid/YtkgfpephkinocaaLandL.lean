/- lands, lists of lists: the laws' helpers -/
import Derived.Test.YtkgfpephkinocaaLand
import Derived.Test.YtkgfpephkinocaaAgZ
set_option linter.unusedVariables false
set_option linter.unusedSimpArgs false
namespace Go.Proofs.Ytkgfpephkinocaa
open Go.AG

def szN (n : Nat) (left : Int) : Int := if left - n < 0 then -1 else left - n
theorem szI_ok (xs : List V) (n : Nat) (left : Int) (hn : n ≤ 9223372036854775807) (hl : 0 ≤ left ∧ left ≤ 1048576) : ACalls Try.prog 66 [.sl n xs, I left] [] (fun r o => r = I (szN n left) ∧ o = []) := by
  refine ACalls.of_vc Try.func66 rfl (by decide) 12 rfl [.tmp 4] rfl (by simp) ?_
  (simp (maxSteps := 2000000) (disch := omega) only [go_sem, Nat.reduceEqDiff, Nat.reduceAdd, Nat.reduceMul, Nat.reduceSub, Int.reduceToNat, Int.reduceAdd, Int.reduceSub, Int.reduceMul, Int.reduceNeg]; repeat ((first | refine vIf_t ?_ | refine vIf_f ?_); simp (maxSteps := 2000000) (disch := omega) only [go_sem, Nat.reduceEqDiff, Nat.reduceAdd, Nat.reduceMul, Nat.reduceSub, Int.reduceToNat, Int.reduceAdd, Int.reduceSub, Int.reduceMul, Int.reduceNeg]))
  refine vIf_dec (fun h => ?_) (fun h => ?_)
  · (simp (maxSteps := 2000000) (disch := omega) only [go_sem, Nat.reduceEqDiff, Nat.reduceAdd, Nat.reduceMul, Nat.reduceSub, Int.reduceToNat, Int.reduceAdd, Int.reduceSub, Int.reduceMul, Int.reduceNeg]; repeat ((first | refine vIf_t ?_ | refine vIf_f ?_); simp (maxSteps := 2000000) (disch := omega) only [go_sem, Nat.reduceEqDiff, Nat.reduceAdd, Nat.reduceMul, Nat.reduceSub, Int.reduceToNat, Int.reduceAdd, Int.reduceSub, Int.reduceMul, Int.reduceNeg]))
    (refine retK_of ?_; (simp (maxSteps := 2000000) (disch := omega) only [go_sem, Nat.reduceEqDiff, Nat.reduceAdd, Nat.reduceMul, Nat.reduceSub, Int.reduceToNat, Int.reduceAdd, Int.reduceSub, Int.reduceMul, Int.reduceNeg]; repeat ((first | refine vIf_t ?_ | refine vIf_f ?_); simp (maxSteps := 2000000) (disch := omega) only [go_sem, Nat.reduceEqDiff, Nat.reduceAdd, Nat.reduceMul, Nat.reduceSub, Int.reduceToNat, Int.reduceAdd, Int.reduceSub, Int.reduceMul, Int.reduceNeg])))
    rw [szN, if_pos h]
  · (simp (maxSteps := 2000000) (disch := omega) only [go_sem, Nat.reduceEqDiff, Nat.reduceAdd, Nat.reduceMul, Nat.reduceSub, Int.reduceToNat, Int.reduceAdd, Int.reduceSub, Int.reduceMul, Int.reduceNeg]; repeat ((first | refine vIf_t ?_ | refine vIf_f ?_); simp (maxSteps := 2000000) (disch := omega) only [go_sem, Nat.reduceEqDiff, Nat.reduceAdd, Nat.reduceMul, Nat.reduceSub, Int.reduceToNat, Int.reduceAdd, Int.reduceSub, Int.reduceMul, Int.reduceNeg]))
    (refine retK_of ?_; (simp (maxSteps := 2000000) (disch := omega) only [go_sem, Nat.reduceEqDiff, Nat.reduceAdd, Nat.reduceMul, Nat.reduceSub, Int.reduceToNat, Int.reduceAdd, Int.reduceSub, Int.reduceMul, Int.reduceNeg]; repeat ((first | refine vIf_t ?_ | refine vIf_f ?_); simp (maxSteps := 2000000) (disch := omega) only [go_sem, Nat.reduceEqDiff, Nat.reduceAdd, Nat.reduceMul, Nat.reduceSub, Int.reduceToNat, Int.reduceAdd, Int.reduceSub, Int.reduceMul, Int.reduceNeg])))
    rw [szN, if_neg h]
theorem szN_neg {n : Nat} {left : Int} (h : szN n left < 0) : left - n < 0 := by
  unfold szN at h
  split at h <;> omega
theorem szN_pos {n : Nat} {left : Int} (h : ¬ szN n left < 0) : szN n left = left - n ∧ 0 ≤ left - n := by
  unfold szN at h ⊢
  split at h
  · omega
  · rename_i g; rw [if_neg g]; omega
theorem szLand_ok (l : Ld) (left : Int) (hn : l.hs.length ≤ 9223372036854775807) (hl : 0 ≤ left ∧ left ≤ 1048576) : ACalls Try.prog 28 [.agg (lC l), I left] [] (fun r o => r = I (szN l.hs.length left) ∧ o = []) := by
  refine ACalls.of_vc Try.func28 rfl (by decide) 12 rfl [.tmp 4] rfl (by simp) ?_
  unfold lC
  (simp (maxSteps := 2000000) (disch := omega) only [go_sem, Nat.reduceEqDiff, Nat.reduceAdd, Nat.reduceMul, Nat.reduceSub, Int.reduceToNat, Int.reduceAdd, Int.reduceSub, Int.reduceMul, Int.reduceNeg]; repeat ((first | refine vIf_t ?_ | refine vIf_f ?_); simp (maxSteps := 2000000) (disch := omega) only [go_sem, Nat.reduceEqDiff, Nat.reduceAdd, Nat.reduceMul, Nat.reduceSub, Int.reduceToNat, Int.reduceAdd, Int.reduceSub, Int.reduceMul, Int.reduceNeg]))
  (refine vCallX_of ?_; (simp (maxSteps := 2000000) (disch := omega) only [go_sem, Nat.reduceEqDiff, Nat.reduceAdd, Nat.reduceMul, Nat.reduceSub, Int.reduceToNat, Int.reduceAdd, Int.reduceSub, Int.reduceMul, Int.reduceNeg]; repeat ((first | refine vIf_t ?_ | refine vIf_f ?_); simp (maxSteps := 2000000) (disch := omega) only [go_sem, Nat.reduceEqDiff, Nat.reduceAdd, Nat.reduceMul, Nat.reduceSub, Int.reduceToNat, Int.reduceAdd, Int.reduceSub, Int.reduceMul, Int.reduceNeg])); refine vCall_eq (szI_ok (ints l.hs) l.hs.length left hn hl) (by simp (disch := omega) only [go_sem, Nat.reduceAdd]) rfl (by first | exact Or.inl rfl | exact Or.inr ⟨rfl, rfl⟩ | (apply Or.inr; simp only [go_sem])) ?_; (simp (maxSteps := 2000000) (disch := omega) only [go_sem, Nat.reduceEqDiff, Nat.reduceAdd, Nat.reduceMul, Nat.reduceSub, Int.reduceToNat, Int.reduceAdd, Int.reduceSub, Int.reduceMul, Int.reduceNeg]; repeat ((first | refine vIf_t ?_ | refine vIf_f ?_); simp (maxSteps := 2000000) (disch := omega) only [go_sem, Nat.reduceEqDiff, Nat.reduceAdd, Nat.reduceMul, Nat.reduceSub, Int.reduceToNat, Int.reduceAdd, Int.reduceSub, Int.reduceMul, Int.reduceNeg])))
  refine vIf_dec (fun h => ?_) (fun h => ?_)
  · (simp (maxSteps := 2000000) (disch := omega) only [go_sem, Nat.reduceEqDiff, Nat.reduceAdd, Nat.reduceMul, Nat.reduceSub, Int.reduceToNat, Int.reduceAdd, Int.reduceSub, Int.reduceMul, Int.reduceNeg]; repeat ((first | refine vIf_t ?_ | refine vIf_f ?_); simp (maxSteps := 2000000) (disch := omega) only [go_sem, Nat.reduceEqDiff, Nat.reduceAdd, Nat.reduceMul, Nat.reduceSub, Int.reduceToNat, Int.reduceAdd, Int.reduceSub, Int.reduceMul, Int.reduceNeg]))
    (refine retK_of ?_; (simp (maxSteps := 2000000) (disch := omega) only [go_sem, Nat.reduceEqDiff, Nat.reduceAdd, Nat.reduceMul, Nat.reduceSub, Int.reduceToNat, Int.reduceAdd, Int.reduceSub, Int.reduceMul, Int.reduceNeg]; repeat ((first | refine vIf_t ?_ | refine vIf_f ?_); simp (maxSteps := 2000000) (disch := omega) only [go_sem, Nat.reduceEqDiff, Nat.reduceAdd, Nat.reduceMul, Nat.reduceSub, Int.reduceToNat, Int.reduceAdd, Int.reduceSub, Int.reduceMul, Int.reduceNeg])))
    rw [szN, if_pos (szN_neg h)]
  · (simp (maxSteps := 2000000) (disch := omega) only [go_sem, Nat.reduceEqDiff, Nat.reduceAdd, Nat.reduceMul, Nat.reduceSub, Int.reduceToNat, Int.reduceAdd, Int.reduceSub, Int.reduceMul, Int.reduceNeg]; repeat ((first | refine vIf_t ?_ | refine vIf_f ?_); simp (maxSteps := 2000000) (disch := omega) only [go_sem, Nat.reduceEqDiff, Nat.reduceAdd, Nat.reduceMul, Nat.reduceSub, Int.reduceToNat, Int.reduceAdd, Int.reduceSub, Int.reduceMul, Int.reduceNeg]))
    (refine retK_of ?_; (simp (maxSteps := 2000000) (disch := omega) only [go_sem, Nat.reduceEqDiff, Nat.reduceAdd, Nat.reduceMul, Nat.reduceSub, Int.reduceToNat, Int.reduceAdd, Int.reduceSub, Int.reduceMul, Int.reduceNeg]; repeat ((first | refine vIf_t ?_ | refine vIf_f ?_); simp (maxSteps := 2000000) (disch := omega) only [go_sem, Nat.reduceEqDiff, Nat.reduceAdd, Nat.reduceMul, Nat.reduceSub, Int.reduceToNat, Int.reduceAdd, Int.reduceSub, Int.reduceMul, Int.reduceNeg])))
def lR (l : Ld) : V := .agg [I l.rows, I l.cols, .ref 0 0 l.hs.length]
theorem toLand_ok (l : Ld) (hm : l.hs.length ≤ 10000000) : ACalls Try.prog 30 [.agg (lC l)] [] (fun r o => r = lR l ∧ o = [oI l.hs]) := by
  refine ACalls.of_vc Try.func30 rfl (by decide) 15 rfl [.cell 2 62] rfl (by simp) ?_
  have h1 := to_ok l.hs hm
  unfold lC lR
  unfold iS at h1
  (simp (maxSteps := 2000000) (disch := omega) only [go_sem, Nat.reduceEqDiff, Nat.reduceAdd, Nat.reduceMul, Nat.reduceSub, Int.reduceToNat, Int.reduceAdd, Int.reduceSub, Int.reduceMul, Int.reduceNeg]; repeat ((first | refine vIf_t ?_ | refine vIf_f ?_); simp (maxSteps := 2000000) (disch := omega) only [go_sem, Nat.reduceEqDiff, Nat.reduceAdd, Nat.reduceMul, Nat.reduceSub, Int.reduceToNat, Int.reduceAdd, Int.reduceSub, Int.reduceMul, Int.reduceNeg]))
  (refine vCallX_of ?_; (simp (maxSteps := 2000000) (disch := omega) only [go_sem, Nat.reduceEqDiff, Nat.reduceAdd, Nat.reduceMul, Nat.reduceSub, Int.reduceToNat, Int.reduceAdd, Int.reduceSub, Int.reduceMul, Int.reduceNeg]; repeat ((first | refine vIf_t ?_ | refine vIf_f ?_); simp (maxSteps := 2000000) (disch := omega) only [go_sem, Nat.reduceEqDiff, Nat.reduceAdd, Nat.reduceMul, Nat.reduceSub, Int.reduceToNat, Int.reduceAdd, Int.reduceSub, Int.reduceMul, Int.reduceNeg])); refine vCall_eq (h1) (by simp (disch := omega) only [go_sem, Nat.reduceAdd]) rfl (by first | exact Or.inl rfl | exact Or.inr ⟨rfl, rfl⟩ | (apply Or.inr; simp only [go_sem])) ?_; (simp (maxSteps := 2000000) (disch := omega) only [go_sem, Nat.reduceEqDiff, Nat.reduceAdd, Nat.reduceMul, Nat.reduceSub, Int.reduceToNat, Int.reduceAdd, Int.reduceSub, Int.reduceMul, Int.reduceNeg]; repeat ((first | refine vIf_t ?_ | refine vIf_f ?_); simp (maxSteps := 2000000) (disch := omega) only [go_sem, Nat.reduceEqDiff, Nat.reduceAdd, Nat.reduceMul, Nat.reduceSub, Int.reduceToNat, Int.reduceAdd, Int.reduceSub, Int.reduceMul, Int.reduceNeg])))
  (refine retK_of ?_; (simp (maxSteps := 2000000) (disch := omega) only [go_sem, Nat.reduceEqDiff, Nat.reduceAdd, Nat.reduceMul, Nat.reduceSub, Int.reduceToNat, Int.reduceAdd, Int.reduceSub, Int.reduceMul, Int.reduceNeg]; repeat ((first | refine vIf_t ?_ | refine vIf_f ?_); simp (maxSteps := 2000000) (disch := omega) only [go_sem, Nat.reduceEqDiff, Nat.reduceAdd, Nat.reduceMul, Nat.reduceSub, Int.reduceToNat, Int.reduceAdd, Int.reduceSub, Int.reduceMul, Int.reduceNeg])))
theorem eqLand_ok (a b : Ld) (hm : a.hs.length ≤ 10000000) : ACalls Try.prog 32 [.agg (lC a), .agg (lC b)] [] (fun r o => r = B (decide (a.rows = b.rows ∧ a.cols = b.cols ∧ a.hs = b.hs)) ∧ o = []) := by
  refine ACalls.of_vc Try.func32 rfl (by decide) 21 rfl [.tmp 4] rfl (by simp) ?_
  have h1 := eq_ok a.hs b.hs hm
  unfold lC
  unfold iS at h1
  (simp (maxSteps := 2000000) (disch := omega) only [go_sem, Nat.reduceEqDiff, Nat.reduceAdd, Nat.reduceMul, Nat.reduceSub, Int.reduceToNat, Int.reduceAdd, Int.reduceSub, Int.reduceMul, Int.reduceNeg]; repeat ((first | refine vIf_t ?_ | refine vIf_f ?_); simp (maxSteps := 2000000) (disch := omega) only [go_sem, Nat.reduceEqDiff, Nat.reduceAdd, Nat.reduceMul, Nat.reduceSub, Int.reduceToNat, Int.reduceAdd, Int.reduceSub, Int.reduceMul, Int.reduceNeg]))
  refine vIf_bne (fun g1 => ?_) (fun g1 => ?_)
  · (simp (maxSteps := 2000000) (disch := omega) only [go_sem, Nat.reduceEqDiff, Nat.reduceAdd, Nat.reduceMul, Nat.reduceSub, Int.reduceToNat, Int.reduceAdd, Int.reduceSub, Int.reduceMul, Int.reduceNeg]; repeat ((first | refine vIf_t ?_ | refine vIf_f ?_); simp (maxSteps := 2000000) (disch := omega) only [go_sem, Nat.reduceEqDiff, Nat.reduceAdd, Nat.reduceMul, Nat.reduceSub, Int.reduceToNat, Int.reduceAdd, Int.reduceSub, Int.reduceMul, Int.reduceNeg]))
    (refine retK_of ?_; (simp (maxSteps := 2000000) (disch := omega) only [go_sem, Nat.reduceEqDiff, Nat.reduceAdd, Nat.reduceMul, Nat.reduceSub, Int.reduceToNat, Int.reduceAdd, Int.reduceSub, Int.reduceMul, Int.reduceNeg]; repeat ((first | refine vIf_t ?_ | refine vIf_f ?_); simp (maxSteps := 2000000) (disch := omega) only [go_sem, Nat.reduceEqDiff, Nat.reduceAdd, Nat.reduceMul, Nat.reduceSub, Int.reduceToNat, Int.reduceAdd, Int.reduceSub, Int.reduceMul, Int.reduceNeg])))
    try rw [decide_eq_false (fun e => g1 e.1)]
  (simp (maxSteps := 2000000) (disch := omega) only [go_sem, Nat.reduceEqDiff, Nat.reduceAdd, Nat.reduceMul, Nat.reduceSub, Int.reduceToNat, Int.reduceAdd, Int.reduceSub, Int.reduceMul, Int.reduceNeg]; repeat ((first | refine vIf_t ?_ | refine vIf_f ?_); simp (maxSteps := 2000000) (disch := omega) only [go_sem, Nat.reduceEqDiff, Nat.reduceAdd, Nat.reduceMul, Nat.reduceSub, Int.reduceToNat, Int.reduceAdd, Int.reduceSub, Int.reduceMul, Int.reduceNeg]))
  refine vIf_bne (fun g2 => ?_) (fun g2 => ?_)
  · (simp (maxSteps := 2000000) (disch := omega) only [go_sem, Nat.reduceEqDiff, Nat.reduceAdd, Nat.reduceMul, Nat.reduceSub, Int.reduceToNat, Int.reduceAdd, Int.reduceSub, Int.reduceMul, Int.reduceNeg]; repeat ((first | refine vIf_t ?_ | refine vIf_f ?_); simp (maxSteps := 2000000) (disch := omega) only [go_sem, Nat.reduceEqDiff, Nat.reduceAdd, Nat.reduceMul, Nat.reduceSub, Int.reduceToNat, Int.reduceAdd, Int.reduceSub, Int.reduceMul, Int.reduceNeg]))
    (refine retK_of ?_; (simp (maxSteps := 2000000) (disch := omega) only [go_sem, Nat.reduceEqDiff, Nat.reduceAdd, Nat.reduceMul, Nat.reduceSub, Int.reduceToNat, Int.reduceAdd, Int.reduceSub, Int.reduceMul, Int.reduceNeg]; repeat ((first | refine vIf_t ?_ | refine vIf_f ?_); simp (maxSteps := 2000000) (disch := omega) only [go_sem, Nat.reduceEqDiff, Nat.reduceAdd, Nat.reduceMul, Nat.reduceSub, Int.reduceToNat, Int.reduceAdd, Int.reduceSub, Int.reduceMul, Int.reduceNeg])))
    try rw [decide_eq_false (fun e => g2 e.2.1)]
  (simp (maxSteps := 2000000) (disch := omega) only [go_sem, Nat.reduceEqDiff, Nat.reduceAdd, Nat.reduceMul, Nat.reduceSub, Int.reduceToNat, Int.reduceAdd, Int.reduceSub, Int.reduceMul, Int.reduceNeg]; repeat ((first | refine vIf_t ?_ | refine vIf_f ?_); simp (maxSteps := 2000000) (disch := omega) only [go_sem, Nat.reduceEqDiff, Nat.reduceAdd, Nat.reduceMul, Nat.reduceSub, Int.reduceToNat, Int.reduceAdd, Int.reduceSub, Int.reduceMul, Int.reduceNeg]))
  (refine vCallX_of ?_; (simp (maxSteps := 2000000) (disch := omega) only [go_sem, Nat.reduceEqDiff, Nat.reduceAdd, Nat.reduceMul, Nat.reduceSub, Int.reduceToNat, Int.reduceAdd, Int.reduceSub, Int.reduceMul, Int.reduceNeg]; repeat ((first | refine vIf_t ?_ | refine vIf_f ?_); simp (maxSteps := 2000000) (disch := omega) only [go_sem, Nat.reduceEqDiff, Nat.reduceAdd, Nat.reduceMul, Nat.reduceSub, Int.reduceToNat, Int.reduceAdd, Int.reduceSub, Int.reduceMul, Int.reduceNeg])); refine vCall_eq (h1) (by simp (disch := omega) only [go_sem, Nat.reduceAdd]) rfl (by first | exact Or.inl rfl | exact Or.inr ⟨rfl, rfl⟩ | (apply Or.inr; simp only [go_sem])) ?_; (simp (maxSteps := 2000000) (disch := omega) only [go_sem, Nat.reduceEqDiff, Nat.reduceAdd, Nat.reduceMul, Nat.reduceSub, Int.reduceToNat, Int.reduceAdd, Int.reduceSub, Int.reduceMul, Int.reduceNeg]; repeat ((first | refine vIf_t ?_ | refine vIf_f ?_); simp (maxSteps := 2000000) (disch := omega) only [go_sem, Nat.reduceEqDiff, Nat.reduceAdd, Nat.reduceMul, Nat.reduceSub, Int.reduceToNat, Int.reduceAdd, Int.reduceSub, Int.reduceMul, Int.reduceNeg])))
  refine vIf_not (fun g3 => ?_) (fun g3 => ?_)
  · (simp (maxSteps := 2000000) (disch := omega) only [go_sem, Nat.reduceEqDiff, Nat.reduceAdd, Nat.reduceMul, Nat.reduceSub, Int.reduceToNat, Int.reduceAdd, Int.reduceSub, Int.reduceMul, Int.reduceNeg]; repeat ((first | refine vIf_t ?_ | refine vIf_f ?_); simp (maxSteps := 2000000) (disch := omega) only [go_sem, Nat.reduceEqDiff, Nat.reduceAdd, Nat.reduceMul, Nat.reduceSub, Int.reduceToNat, Int.reduceAdd, Int.reduceSub, Int.reduceMul, Int.reduceNeg]))
    (refine retK_of ?_; (simp (maxSteps := 2000000) (disch := omega) only [go_sem, Nat.reduceEqDiff, Nat.reduceAdd, Nat.reduceMul, Nat.reduceSub, Int.reduceToNat, Int.reduceAdd, Int.reduceSub, Int.reduceMul, Int.reduceNeg]; repeat ((first | refine vIf_t ?_ | refine vIf_f ?_); simp (maxSteps := 2000000) (disch := omega) only [go_sem, Nat.reduceEqDiff, Nat.reduceAdd, Nat.reduceMul, Nat.reduceSub, Int.reduceToNat, Int.reduceAdd, Int.reduceSub, Int.reduceMul, Int.reduceNeg])))
    rw [decide_eq_false (fun e => of_decide_eq_false g3 e.2.2)]
  (simp (maxSteps := 2000000) (disch := omega) only [go_sem, Nat.reduceEqDiff, Nat.reduceAdd, Nat.reduceMul, Nat.reduceSub, Int.reduceToNat, Int.reduceAdd, Int.reduceSub, Int.reduceMul, Int.reduceNeg]; repeat ((first | refine vIf_t ?_ | refine vIf_f ?_); simp (maxSteps := 2000000) (disch := omega) only [go_sem, Nat.reduceEqDiff, Nat.reduceAdd, Nat.reduceMul, Nat.reduceSub, Int.reduceToNat, Int.reduceAdd, Int.reduceSub, Int.reduceMul, Int.reduceNeg]))
  (refine retK_of ?_; (simp (maxSteps := 2000000) (disch := omega) only [go_sem, Nat.reduceEqDiff, Nat.reduceAdd, Nat.reduceMul, Nat.reduceSub, Int.reduceToNat, Int.reduceAdd, Int.reduceSub, Int.reduceMul, Int.reduceNeg]; repeat ((first | refine vIf_t ?_ | refine vIf_f ?_); simp (maxSteps := 2000000) (disch := omega) only [go_sem, Nat.reduceEqDiff, Nat.reduceAdd, Nat.reduceMul, Nat.reduceSub, Int.reduceToNat, Int.reduceAdd, Int.reduceSub, Int.reduceMul, Int.reduceNeg])))
  rw [decide_eq_true ⟨g1, g2, of_decide_eq_true g3⟩]
theorem same_land (l : Ld) : decide (l.rows = l.rows ∧ l.cols = l.cols ∧ l.hs = l.hs) = true := by simp

/-! ### lists of lists -/
/-- what is left after the first k rows -/
def lft (ways : List (List Int)) (left : Int) : Nat → Int
  | 0 => left - ways.length
  | k + 1 => lft ways left k - (gr ways k).length
theorem lft_le (ways : List (List Int)) (left : Int) : ∀ k, lft ways left k ≤ left
  | 0 => by simp only [lft]; omega
  | k + 1 => by have := lft_le ways left k; simp only [lft]; omega
theorem lft_mono (ways : List (List Int)) (left : Int) (j : Nat) : ∀ k, j ≤ k → lft ways left k ≤ lft ways left j
  | 0, h => by obtain rfl : j = 0 := by omega
               exact Int.le_refl _
  | k + 1, h => by
    by_cases e : j = k + 1
    · subst e; exact Int.le_refl _
    · have := lft_mono ways left j k (by omega); simp only [lft]; omega
def szSS (ways : List (List Int)) (left : Int) : Int := if lft ways left ways.length < 0 then -1 else lft ways left ways.length
set_option maxHeartbeats 4000000 in
theorem szSS_ok (ways : List (List Int)) (left : Int) (hn : ways.length ≤ 9223372036854775807) (hr : ∀ j, j < ways.length → (gr ways j).length ≤ 9223372036854775807) (hl : 0 ≤ left ∧ left ≤ 1048576) :
    ACalls Try.prog 38 [.sl ways.length (rws ways), I left] [] (fun r o => r = I (szSS ways left) ∧ o = []) := by
  refine ACalls.of_vc Try.func38 rfl (by decide) 27 rfl [.tmp 4] rfl (by simp) ?_
  (simp (maxSteps := 2000000) (disch := omega) only [go_sem, Nat.reduceEqDiff, Nat.reduceAdd, Nat.reduceMul, Nat.reduceSub, Int.reduceToNat, Int.reduceAdd, Int.reduceSub, Int.reduceMul, Int.reduceNeg]; repeat ((first | refine vIf_t ?_ | refine vIf_f ?_); simp (maxSteps := 2000000) (disch := omega) only [go_sem, Nat.reduceEqDiff, Nat.reduceAdd, Nat.reduceMul, Nat.reduceSub, Int.reduceToNat, Int.reduceAdd, Int.reduceSub, Int.reduceMul, Int.reduceNeg]))
  refine vIf_dec (fun h => ?_) (fun h => ?_)
  · (simp (maxSteps := 2000000) (disch := omega) only [go_sem, Nat.reduceEqDiff, Nat.reduceAdd, Nat.reduceMul, Nat.reduceSub, Int.reduceToNat, Int.reduceAdd, Int.reduceSub, Int.reduceMul, Int.reduceNeg]; repeat ((first | refine vIf_t ?_ | refine vIf_f ?_); simp (maxSteps := 2000000) (disch := omega) only [go_sem, Nat.reduceEqDiff, Nat.reduceAdd, Nat.reduceMul, Nat.reduceSub, Int.reduceToNat, Int.reduceAdd, Int.reduceSub, Int.reduceMul, Int.reduceNeg]))
    (refine retK_of ?_; (simp (maxSteps := 2000000) (disch := omega) only [go_sem, Nat.reduceEqDiff, Nat.reduceAdd, Nat.reduceMul, Nat.reduceSub, Int.reduceToNat, Int.reduceAdd, Int.reduceSub, Int.reduceMul, Int.reduceNeg]; repeat ((first | refine vIf_t ?_ | refine vIf_f ?_); simp (maxSteps := 2000000) (disch := omega) only [go_sem, Nat.reduceEqDiff, Nat.reduceAdd, Nat.reduceMul, Nat.reduceSub, Int.reduceToNat, Int.reduceAdd, Int.reduceSub, Int.reduceMul, Int.reduceNeg])))
    have := lft_mono ways left 0 ways.length (by omega)
    rw [szSS, if_pos (by simp only [lft] at this; omega)]
  (simp (maxSteps := 2000000) (disch := omega) only [go_sem, Nat.reduceEqDiff, Nat.reduceAdd, Nat.reduceMul, Nat.reduceSub, Int.reduceToNat, Int.reduceAdd, Int.reduceSub, Int.reduceMul, Int.reduceNeg]; repeat ((first | refine vIf_t ?_ | refine vIf_f ?_); simp (maxSteps := 2000000) (disch := omega) only [go_sem, Nat.reduceEqDiff, Nat.reduceAdd, Nat.reduceMul, Nat.reduceSub, Int.reduceToNat, Int.reduceAdd, Int.reduceSub, Int.reduceMul, Int.reduceNeg]))
  refine vcLoop_inv (fun k : Nat => k ≤ ways.length ∧ 0 ≤ lft ways left k) (fun k => ⟨27, 0, [(0, .sl ways.length (rws ways)), (1, I (lft ways left k)), (5, I k)], []⟩) (fun k => ways.length - k) 0 ⟨by omega, by simp only [lft]; omega⟩ (by (simp (maxSteps := 2000000) (disch := omega) only [go_sem, Nat.reduceEqDiff, Nat.reduceAdd, Nat.reduceMul, Nat.reduceSub, Int.reduceToNat, Int.reduceAdd, Int.reduceSub, Int.reduceMul, Int.reduceNeg]; repeat ((first | refine vIf_t ?_ | refine vIf_f ?_); simp (maxSteps := 2000000) (disch := omega) only [go_sem, Nat.reduceEqDiff, Nat.reduceAdd, Nat.reduceMul, Nat.reduceSub, Int.reduceToNat, Int.reduceAdd, Int.reduceSub, Int.reduceMul, Int.reduceNeg])); simp [lft]) ?_
  intro k ⟨hk, h0⟩
  have hle := lft_le ways left k
  (simp (maxSteps := 2000000) (disch := omega) only [go_sem, Nat.reduceEqDiff, Nat.reduceAdd, Nat.reduceMul, Nat.reduceSub, Int.reduceToNat, Int.reduceAdd, Int.reduceSub, Int.reduceMul, Int.reduceNeg]; repeat ((first | refine vIf_t ?_ | refine vIf_f ?_); simp (maxSteps := 2000000) (disch := omega) only [go_sem, Nat.reduceEqDiff, Nat.reduceAdd, Nat.reduceMul, Nat.reduceSub, Int.reduceToNat, Int.reduceAdd, Int.reduceSub, Int.reduceMul, Int.reduceNeg]))
  refine vIf_dec (fun hc => ?_) (fun hc => ?_)
  · have hkl : k < ways.length := by omega
    have hs := szI_ok (ints (gr ways k)) (gr ways k).length (lft ways left k) (hr k hkl) ⟨h0, by omega⟩
    (simp (maxSteps := 2000000) (disch := omega) only [go_sem, Nat.reduceEqDiff, Nat.reduceAdd, Nat.reduceMul, Nat.reduceSub, Int.reduceToNat, Int.reduceAdd, Int.reduceSub, Int.reduceMul, Int.reduceNeg]; repeat ((first | refine vIf_t ?_ | refine vIf_f ?_); simp (maxSteps := 2000000) (disch := omega) only [go_sem, Nat.reduceEqDiff, Nat.reduceAdd, Nat.reduceMul, Nat.reduceSub, Int.reduceToNat, Int.reduceAdd, Int.reduceSub, Int.reduceMul, Int.reduceNeg]))
    (refine vCallX_of ?_; (simp (maxSteps := 2000000) (disch := omega) only [go_sem, Nat.reduceEqDiff, Nat.reduceAdd, Nat.reduceMul, Nat.reduceSub, Int.reduceToNat, Int.reduceAdd, Int.reduceSub, Int.reduceMul, Int.reduceNeg]; repeat ((first | refine vIf_t ?_ | refine vIf_f ?_); simp (maxSteps := 2000000) (disch := omega) only [go_sem, Nat.reduceEqDiff, Nat.reduceAdd, Nat.reduceMul, Nat.reduceSub, Int.reduceToNat, Int.reduceAdd, Int.reduceSub, Int.reduceMul, Int.reduceNeg])); refine vCall_eq (hs) (by simp (disch := omega) only [go_sem, Nat.reduceAdd]) rfl (by first | exact Or.inl rfl | exact Or.inr ⟨rfl, rfl⟩ | (apply Or.inr; simp only [go_sem])) ?_; (simp (maxSteps := 2000000) (disch := omega) only [go_sem, Nat.reduceEqDiff, Nat.reduceAdd, Nat.reduceMul, Nat.reduceSub, Int.reduceToNat, Int.reduceAdd, Int.reduceSub, Int.reduceMul, Int.reduceNeg]; repeat ((first | refine vIf_t ?_ | refine vIf_f ?_); simp (maxSteps := 2000000) (disch := omega) only [go_sem, Nat.reduceEqDiff, Nat.reduceAdd, Nat.reduceMul, Nat.reduceSub, Int.reduceToNat, Int.reduceAdd, Int.reduceSub, Int.reduceMul, Int.reduceNeg])))
    refine vIf_dec (fun h2 => ?_) (fun h2 => ?_)
    · (simp (maxSteps := 2000000) (disch := omega) only [go_sem, Nat.reduceEqDiff, Nat.reduceAdd, Nat.reduceMul, Nat.reduceSub, Int.reduceToNat, Int.reduceAdd, Int.reduceSub, Int.reduceMul, Int.reduceNeg]; repeat ((first | refine vIf_t ?_ | refine vIf_f ?_); simp (maxSteps := 2000000) (disch := omega) only [go_sem, Nat.reduceEqDiff, Nat.reduceAdd, Nat.reduceMul, Nat.reduceSub, Int.reduceToNat, Int.reduceAdd, Int.reduceSub, Int.reduceMul, Int.reduceNeg]))
      (refine retK_of ?_; (simp (maxSteps := 2000000) (disch := omega) only [go_sem, Nat.reduceEqDiff, Nat.reduceAdd, Nat.reduceMul, Nat.reduceSub, Int.reduceToNat, Int.reduceAdd, Int.reduceSub, Int.reduceMul, Int.reduceNeg]; repeat ((first | refine vIf_t ?_ | refine vIf_f ?_); simp (maxSteps := 2000000) (disch := omega) only [go_sem, Nat.reduceEqDiff, Nat.reduceAdd, Nat.reduceMul, Nat.reduceSub, Int.reduceToNat, Int.reduceAdd, Int.reduceSub, Int.reduceMul, Int.reduceNeg])))
      have := lft_mono ways left (k + 1) ways.length (by omega)
      have h3 := szN_neg h2
      rw [szSS, if_pos (by simp only [lft] at this; omega)]
    · obtain ⟨h3, h4⟩ := szN_pos h2
      have e : lft ways left (k + 1) = lft ways left k - (gr ways k).length := rfl
      (simp (maxSteps := 2000000) (disch := omega) only [go_sem, Nat.reduceEqDiff, Nat.reduceAdd, Nat.reduceMul, Nat.reduceSub, Int.reduceToNat, Int.reduceAdd, Int.reduceSub, Int.reduceMul, Int.reduceNeg]; repeat ((first | refine vIf_t ?_ | refine vIf_f ?_); simp (maxSteps := 2000000) (disch := omega) only [go_sem, Nat.reduceEqDiff, Nat.reduceAdd, Nat.reduceMul, Nat.reduceSub, Int.reduceToNat, Int.reduceAdd, Int.reduceSub, Int.reduceMul, Int.reduceNeg]))
      refine again (k + 1) ⟨by omega, by omega⟩ (by omega) ?_
      (simp (maxSteps := 2000000) (disch := omega) only [go_sem, Nat.reduceEqDiff, Nat.reduceAdd, Nat.reduceMul, Nat.reduceSub, Int.reduceToNat, Int.reduceAdd, Int.reduceSub, Int.reduceMul, Int.reduceNeg, e, h3]; repeat ((first | refine vIf_t ?_ | refine vIf_f ?_); simp (maxSteps := 2000000) (disch := omega) only [go_sem, Nat.reduceEqDiff, Nat.reduceAdd, Nat.reduceMul, Nat.reduceSub, Int.reduceToNat, Int.reduceAdd, Int.reduceSub, Int.reduceMul, Int.reduceNeg, e, h3]))
  · have e : k = ways.length := by omega
    subst e
    (simp (maxSteps := 2000000) (disch := omega) only [go_sem, Nat.reduceEqDiff, Nat.reduceAdd, Nat.reduceMul, Nat.reduceSub, Int.reduceToNat, Int.reduceAdd, Int.reduceSub, Int.reduceMul, Int.reduceNeg]; repeat ((first | refine vIf_t ?_ | refine vIf_f ?_); simp (maxSteps := 2000000) (disch := omega) only [go_sem, Nat.reduceEqDiff, Nat.reduceAdd, Nat.reduceMul, Nat.reduceSub, Int.reduceToNat, Int.reduceAdd, Int.reduceSub, Int.reduceMul, Int.reduceNeg]))
    (refine retK_of ?_; (simp (maxSteps := 2000000) (disch := omega) only [go_sem, Nat.reduceEqDiff, Nat.reduceAdd, Nat.reduceMul, Nat.reduceSub, Int.reduceToNat, Int.reduceAdd, Int.reduceSub, Int.reduceMul, Int.reduceNeg]; repeat ((first | refine vIf_t ?_ | refine vIf_f ?_); simp (maxSteps := 2000000) (disch := omega) only [go_sem, Nat.reduceEqDiff, Nat.reduceAdd, Nat.reduceMul, Nat.reduceSub, Int.reduceToNat, Int.reduceAdd, Int.reduceSub, Int.reduceMul, Int.reduceNeg])))
    rw [szSS, if_neg (by omega)]
theorem szSS_pos {ways : List (List Int)} {left : Int} (h : ¬ szSS ways left < 0) : 0 ≤ lft ways left ways.length ∧ szSS ways left = lft ways left ways.length := by
  unfold szSS at h ⊢
  split at h
  · omega
  · rename_i g; rw [if_neg g]; omega
theorem lft_row {ways : List (List Int)} {left : Int} (h : 0 ≤ lft ways left ways.length) (j : Nat) (hj : j < ways.length) : ((gr ways j).length : Int) ≤ left := by
  have h1 := lft_mono ways left (j + 1) ways.length (by omega)
  have h2 := lft_le ways left j
  simp only [lft] at h1
  omega
theorem lft_n {ways : List (List Int)} {left : Int} (h : 0 ≤ lft ways left ways.length) : (ways.length : Int) ≤ left := by
  have h1 := lft_mono ways left 0 ways.length (by omega)
  simp only [lft] at h1
  omega
/-- nil slices -/
def nls (n : Nat) : List V := List.replicate n (V.sc (.slice none 0 0))
@[go_sem] theorem length_nls (n : Nat) : (nls n).length = n := by simp [nls]
@[go_sem] theorem imm_nls (n : Nat) : V.immL (nls n) = true := by
  induction n with
  | zero => rfl
  | succ n ih => exact ih
@[go_sem] theorem noref_nls (n : Nat) : V.norefL (nls n) = true := by
  induction n with
  | zero => rfl
  | succ n ih => exact ih
@[go_sem] theorem kill_nls (p : Nat → Bool) (n : Nat) : V.killL p (nls n) = nls n := killL_noref p _ (noref_nls n)
@[go_sem] theorem frz_nls (f : Nat → Option Ob) (n : Nat) : V.frzL f (nls n) = nls n := frzL_noref f _ (noref_nls n)
@[go_sem] theorem rep_nls (n : Nat) : List.replicate n (V.sc (.slice none 0 0)) = nls n := rfl
theorem gr_lt (xs : List (List Int)) (k : Nat) (h : k < xs.length) : gr xs k = xs[k] := by simp [gr, h]
theorem gr_take_succ (xs : List (List Int)) (k : Nat) (h : k < xs.length) : xs.take (k + 1) = xs.take k ++ [gr xs k] := by rw [List.take_succ_eq_append_getElem h, gr_lt _ _ h]
def filN (xs : List (List Int)) (k : Nat) : List V := rws (xs.take k) ++ nls (xs.length - k)
theorem filN_len (xs : List (List Int)) (k : Nat) (h : k ≤ xs.length) : (filN xs k).length = xs.length := by simp [filN, length_rws, length_nls]; omega
theorem filN_zero (xs : List (List Int)) : filN xs 0 = nls xs.length := rfl
theorem filN_all (xs : List (List Int)) : filN xs xs.length = rws xs := by simp [filN, nls]
theorem norefL_app (xs ys : List V) : V.norefL (xs ++ ys) = (V.norefL xs && V.norefL ys) := by
  induction xs with
  | nil => rfl
  | cons x xs ih => simp only [List.cons_append, V.norefL, ih, Bool.and_assoc]
@[go_sem] theorem filN_imm (xs : List (List Int)) (k : Nat) : V.immL (filN xs k) = true := by
  unfold filN
  (simp (maxSteps := 2000000) (disch := omega) only [go_sem, Nat.reduceEqDiff, Nat.reduceAdd, Nat.reduceMul, Nat.reduceSub, Int.reduceToNat, Int.reduceAdd, Int.reduceSub, Int.reduceMul, Int.reduceNeg]; repeat ((first | refine vIf_t ?_ | refine vIf_f ?_); simp (maxSteps := 2000000) (disch := omega) only [go_sem, Nat.reduceEqDiff, Nat.reduceAdd, Nat.reduceMul, Nat.reduceSub, Int.reduceToNat, Int.reduceAdd, Int.reduceSub, Int.reduceMul, Int.reduceNeg]))
theorem filN_noref (xs : List (List Int)) (k : Nat) : V.norefL (filN xs k) = true := by
  unfold filN
  rw [norefL_app, noref_rws, noref_nls]; rfl
@[go_sem] theorem filN_kill (p : Nat → Bool) (xs : List (List Int)) (k : Nat) : V.killL p (filN xs k) = filN xs k := killL_noref p _ (filN_noref xs k)
@[go_sem] theorem filN_frz (f : Nat → Option Ob) (xs : List (List Int)) (k : Nat) : V.frzL f (filN xs k) = filN xs k := frzL_noref f _ (filN_noref xs k)
theorem filN_succ (xs : List (List Int)) (k : Nat) (h : k < xs.length) : wr (filN xs k) k [.sl (gr xs k).length (ints (gr xs k))] = filN xs (k + 1) := by
  have e : xs.length - k = (xs.length - (k + 1)) + 1 := by omega
  have hl : (rws (xs.take k)).length = k := by simp [length_rws]; omega
  unfold wr filN
  rw [List.take_append_of_le_length (by omega), List.take_of_length_le (by omega), List.drop_append]
  rw [gr_take_succ _ _ h, ← rws_snoc, List.drop_of_length_le (by simp [hl]), hl, e]
  simp [nls, List.replicate_succ]
theorem wr_frz (f : Nat → Option Ob) (xs ys : List V) (k : Nat) : V.frzL f (wr xs k ys) = wr (V.frzL f xs) k (V.frzL f ys) := by simp [frzL_eq, wr, List.map_take, List.map_drop]
set_option maxHeartbeats 4000000 in
theorem toSS_ok (ways : List (List Int)) (hn : ways.length ≤ 10000000) (hr : ∀ j, j < ways.length → (gr ways j).length ≤ 10000000) :
    ACalls Try.prog 40 [.sl ways.length (rws ways)] [] (fun r o => r = .ref 0 0 ways.length ∧ o = [some ⟨1, rws ways⟩]) := by
  refine ACalls.of_vc Try.func40 rfl (by decide) 23 rfl [.tmp 2] rfl (by simp) ?_
  (simp (maxSteps := 2000000) (disch := omega) only [go_sem, Nat.reduceEqDiff, Nat.reduceAdd, Nat.reduceMul, Nat.reduceSub, Int.reduceToNat, Int.reduceAdd, Int.reduceSub, Int.reduceMul, Int.reduceNeg]; repeat ((first | refine vIf_t ?_ | refine vIf_f ?_); simp (maxSteps := 2000000) (disch := omega) only [go_sem, Nat.reduceEqDiff, Nat.reduceAdd, Nat.reduceMul, Nat.reduceSub, Int.reduceToNat, Int.reduceAdd, Int.reduceSub, Int.reduceMul, Int.reduceNeg]))
  refine vcLoop_new (fun k : Nat => k ≤ ways.length) (fun k => ⟨23, 0, [(0, .sl ways.length (rws ways)), (3, .ref 0 0 ways.length), (4, I k)], [some ⟨1, filN ways k⟩]⟩) (fun k => ways.length - k) 0 (.refl _) (by omega) (by (simp (maxSteps := 2000000) (disch := omega) only [go_sem, Nat.reduceEqDiff, Nat.reduceAdd, Nat.reduceMul, Nat.reduceSub, Int.reduceToNat, Int.reduceAdd, Int.reduceSub, Int.reduceMul, Int.reduceNeg]; repeat ((first | refine vIf_t ?_ | refine vIf_f ?_); simp (maxSteps := 2000000) (disch := omega) only [go_sem, Nat.reduceEqDiff, Nat.reduceAdd, Nat.reduceMul, Nat.reduceSub, Int.reduceToNat, Int.reduceAdd, Int.reduceSub, Int.reduceMul, Int.reduceNeg])); simp [filN_zero]) ?_
  intro k hk
  have hlen := filN_len ways k hk
  (simp (maxSteps := 2000000) (disch := omega) only [go_sem, Nat.reduceEqDiff, Nat.reduceAdd, Nat.reduceMul, Nat.reduceSub, Int.reduceToNat, Int.reduceAdd, Int.reduceSub, Int.reduceMul, Int.reduceNeg]; repeat ((first | refine vIf_t ?_ | refine vIf_f ?_); simp (maxSteps := 2000000) (disch := omega) only [go_sem, Nat.reduceEqDiff, Nat.reduceAdd, Nat.reduceMul, Nat.reduceSub, Int.reduceToNat, Int.reduceAdd, Int.reduceSub, Int.reduceMul, Int.reduceNeg]))
  refine vIf_dec (fun hc => ?_) (fun hc => ?_)
  · have hkl : k < ways.length := by omega
    have ht := to_ok (gr ways k) (hr k hkl)
    unfold iS at ht
    (simp (maxSteps := 2000000) (disch := omega) only [go_sem, Nat.reduceEqDiff, Nat.reduceAdd, Nat.reduceMul, Nat.reduceSub, Int.reduceToNat, Int.reduceAdd, Int.reduceSub, Int.reduceMul, Int.reduceNeg, hlen]; repeat ((first | refine vIf_t ?_ | refine vIf_f ?_); simp (maxSteps := 2000000) (disch := omega) only [go_sem, Nat.reduceEqDiff, Nat.reduceAdd, Nat.reduceMul, Nat.reduceSub, Int.reduceToNat, Int.reduceAdd, Int.reduceSub, Int.reduceMul, Int.reduceNeg, hlen]))
    (refine vCallX_of ?_; (simp (maxSteps := 2000000) (disch := omega) only [go_sem, Nat.reduceEqDiff, Nat.reduceAdd, Nat.reduceMul, Nat.reduceSub, Int.reduceToNat, Int.reduceAdd, Int.reduceSub, Int.reduceMul, Int.reduceNeg]; repeat ((first | refine vIf_t ?_ | refine vIf_f ?_); simp (maxSteps := 2000000) (disch := omega) only [go_sem, Nat.reduceEqDiff, Nat.reduceAdd, Nat.reduceMul, Nat.reduceSub, Int.reduceToNat, Int.reduceAdd, Int.reduceSub, Int.reduceMul, Int.reduceNeg])); refine vCall_eq (ht) (by simp (disch := omega) only [go_sem, Nat.reduceAdd]) rfl (by first | exact Or.inl rfl | exact Or.inr ⟨rfl, rfl⟩ | (apply Or.inr; simp only [go_sem])) ?_; (simp (maxSteps := 2000000) (disch := omega) only [go_sem, Nat.reduceEqDiff, Nat.reduceAdd, Nat.reduceMul, Nat.reduceSub, Int.reduceToNat, Int.reduceAdd, Int.reduceSub, Int.reduceMul, Int.reduceNeg]; repeat ((first | refine vIf_t ?_ | refine vIf_f ?_); simp (maxSteps := 2000000) (disch := omega) only [go_sem, Nat.reduceEqDiff, Nat.reduceAdd, Nat.reduceMul, Nat.reduceSub, Int.reduceToNat, Int.reduceAdd, Int.reduceSub, Int.reduceMul, Int.reduceNeg])))
    refine again_new_frz (k + 1) (by omega) (by omega) (.step 1 ⟨1, ints (gr ways k)⟩ rfl (by (simp (maxSteps := 2000000) (disch := omega) only [go_sem, Nat.reduceEqDiff, Nat.reduceAdd, Nat.reduceMul, Nat.reduceSub, Int.reduceToNat, Int.reduceAdd, Int.reduceSub, Int.reduceMul, Int.reduceNeg]; repeat ((first | refine vIf_t ?_ | refine vIf_f ?_); simp (maxSteps := 2000000) (disch := omega) only [go_sem, Nat.reduceEqDiff, Nat.reduceAdd, Nat.reduceMul, Nat.reduceSub, Int.reduceToNat, Int.reduceAdd, Int.reduceSub, Int.reduceMul, Int.reduceNeg]))) (.refl _)) ?_
    (simp (maxSteps := 2000000) (disch := omega) only [go_sem, Nat.reduceEqDiff, Nat.reduceAdd, Nat.reduceMul, Nat.reduceSub, Int.reduceToNat, Int.reduceAdd, Int.reduceSub, Int.reduceMul, Int.reduceNeg, wr_frz, filN_frz, V.frzL, List.take_of_length_le]; repeat ((first | refine vIf_t ?_ | refine vIf_f ?_); simp (maxSteps := 2000000) (disch := omega) only [go_sem, Nat.reduceEqDiff, Nat.reduceAdd, Nat.reduceMul, Nat.reduceSub, Int.reduceToNat, Int.reduceAdd, Int.reduceSub, Int.reduceMul, Int.reduceNeg, wr_frz, filN_frz, V.frzL, List.take_of_length_le]))
    rw [filN_succ _ _ hkl]
    (simp (maxSteps := 2000000) (disch := omega) only [go_sem, Nat.reduceEqDiff, Nat.reduceAdd, Nat.reduceMul, Nat.reduceSub, Int.reduceToNat, Int.reduceAdd, Int.reduceSub, Int.reduceMul, Int.reduceNeg]; repeat ((first | refine vIf_t ?_ | refine vIf_f ?_); simp (maxSteps := 2000000) (disch := omega) only [go_sem, Nat.reduceEqDiff, Nat.reduceAdd, Nat.reduceMul, Nat.reduceSub, Int.reduceToNat, Int.reduceAdd, Int.reduceSub, Int.reduceMul, Int.reduceNeg]))
  · have e : k = ways.length := by omega
    subst e
    (simp (maxSteps := 2000000) (disch := omega) only [go_sem, Nat.reduceEqDiff, Nat.reduceAdd, Nat.reduceMul, Nat.reduceSub, Int.reduceToNat, Int.reduceAdd, Int.reduceSub, Int.reduceMul, Int.reduceNeg]; repeat ((first | refine vIf_t ?_ | refine vIf_f ?_); simp (maxSteps := 2000000) (disch := omega) only [go_sem, Nat.reduceEqDiff, Nat.reduceAdd, Nat.reduceMul, Nat.reduceSub, Int.reduceToNat, Int.reduceAdd, Int.reduceSub, Int.reduceMul, Int.reduceNeg]))
    (refine retK_of ?_; (simp (maxSteps := 2000000) (disch := omega) only [go_sem, Nat.reduceEqDiff, Nat.reduceAdd, Nat.reduceMul, Nat.reduceSub, Int.reduceToNat, Int.reduceAdd, Int.reduceSub, Int.reduceMul, Int.reduceNeg]; repeat ((first | refine vIf_t ?_ | refine vIf_f ?_); simp (maxSteps := 2000000) (disch := omega) only [go_sem, Nat.reduceEqDiff, Nat.reduceAdd, Nat.reduceMul, Nat.reduceSub, Int.reduceToNat, Int.reduceAdd, Int.reduceSub, Int.reduceMul, Int.reduceNeg])))
    rw [filN_all]
set_option maxHeartbeats 4000000 in
theorem eqSS_ok (xs ys : List (List Int)) (hn : xs.length ≤ 10000000) (hr : ∀ j, j < xs.length → (gr xs j).length ≤ 10000000) :
    ACalls Try.prog 42 [.sl xs.length (rws xs), .sl ys.length (rws ys)] [] (fun r o => r = B (decide (xs = ys)) ∧ o = []) := by
  refine ACalls.of_vc Try.func42 rfl (by decide) 27 rfl [.tmp 4] rfl (by simp) ?_
  (simp (maxSteps := 2000000) (disch := omega) only [go_sem, Nat.reduceEqDiff, Nat.reduceAdd, Nat.reduceMul, Nat.reduceSub, Int.reduceToNat, Int.reduceAdd, Int.reduceSub, Int.reduceMul, Int.reduceNeg]; repeat ((first | refine vIf_t ?_ | refine vIf_f ?_); simp (maxSteps := 2000000) (disch := omega) only [go_sem, Nat.reduceEqDiff, Nat.reduceAdd, Nat.reduceMul, Nat.reduceSub, Int.reduceToNat, Int.reduceAdd, Int.reduceSub, Int.reduceMul, Int.reduceNeg]))
  refine vIf_bne (fun h => ?_) (fun h => ?_)
  · (simp (maxSteps := 2000000) (disch := omega) only [go_sem, Nat.reduceEqDiff, Nat.reduceAdd, Nat.reduceMul, Nat.reduceSub, Int.reduceToNat, Int.reduceAdd, Int.reduceSub, Int.reduceMul, Int.reduceNeg]; repeat ((first | refine vIf_t ?_ | refine vIf_f ?_); simp (maxSteps := 2000000) (disch := omega) only [go_sem, Nat.reduceEqDiff, Nat.reduceAdd, Nat.reduceMul, Nat.reduceSub, Int.reduceToNat, Int.reduceAdd, Int.reduceSub, Int.reduceMul, Int.reduceNeg]))
    (refine retK_of ?_; (simp (maxSteps := 2000000) (disch := omega) only [go_sem, Nat.reduceEqDiff, Nat.reduceAdd, Nat.reduceMul, Nat.reduceSub, Int.reduceToNat, Int.reduceAdd, Int.reduceSub, Int.reduceMul, Int.reduceNeg]; repeat ((first | refine vIf_t ?_ | refine vIf_f ?_); simp (maxSteps := 2000000) (disch := omega) only [go_sem, Nat.reduceEqDiff, Nat.reduceAdd, Nat.reduceMul, Nat.reduceSub, Int.reduceToNat, Int.reduceAdd, Int.reduceSub, Int.reduceMul, Int.reduceNeg])))
    all_goals (try simp)
    intro e; rw [e] at h; exact h rfl
  · (simp (maxSteps := 2000000) (disch := omega) only [go_sem, Nat.reduceEqDiff, Nat.reduceAdd, Nat.reduceMul, Nat.reduceSub, Int.reduceToNat, Int.reduceAdd, Int.reduceSub, Int.reduceMul, Int.reduceNeg]; repeat ((first | refine vIf_t ?_ | refine vIf_f ?_); simp (maxSteps := 2000000) (disch := omega) only [go_sem, Nat.reduceEqDiff, Nat.reduceAdd, Nat.reduceMul, Nat.reduceSub, Int.reduceToNat, Int.reduceAdd, Int.reduceSub, Int.reduceMul, Int.reduceNeg]))
    refine vcLoop_inv (fun k : Nat => k ≤ xs.length ∧ xs.take k = ys.take k) (fun k => ⟨27, 0, [(5, I k), (0, .sl xs.length (rws xs)), (1, .sl ys.length (rws ys))], []⟩) (fun k => xs.length - k) 0 (by simp) (by (simp (maxSteps := 2000000) (disch := omega) only [go_sem, Nat.reduceEqDiff, Nat.reduceAdd, Nat.reduceMul, Nat.reduceSub, Int.reduceToNat, Int.reduceAdd, Int.reduceSub, Int.reduceMul, Int.reduceNeg]; repeat ((first | refine vIf_t ?_ | refine vIf_f ?_); simp (maxSteps := 2000000) (disch := omega) only [go_sem, Nat.reduceEqDiff, Nat.reduceAdd, Nat.reduceMul, Nat.reduceSub, Int.reduceToNat, Int.reduceAdd, Int.reduceSub, Int.reduceMul, Int.reduceNeg])); all_goals (try simp)) ?_
    intro k ⟨hk, he⟩
    (simp (maxSteps := 2000000) (disch := omega) only [go_sem, Nat.reduceEqDiff, Nat.reduceAdd, Nat.reduceMul, Nat.reduceSub, Int.reduceToNat, Int.reduceAdd, Int.reduceSub, Int.reduceMul, Int.reduceNeg]; repeat ((first | refine vIf_t ?_ | refine vIf_f ?_); simp (maxSteps := 2000000) (disch := omega) only [go_sem, Nat.reduceEqDiff, Nat.reduceAdd, Nat.reduceMul, Nat.reduceSub, Int.reduceToNat, Int.reduceAdd, Int.reduceSub, Int.reduceMul, Int.reduceNeg]))
    refine vIf_dec (fun h2 => ?_) (fun h2 => ?_)
    · (simp (maxSteps := 2000000) (disch := omega) only [go_sem, Nat.reduceEqDiff, Nat.reduceAdd, Nat.reduceMul, Nat.reduceSub, Int.reduceToNat, Int.reduceAdd, Int.reduceSub, Int.reduceMul, Int.reduceNeg]; repeat ((first | refine vIf_t ?_ | refine vIf_f ?_); simp (maxSteps := 2000000) (disch := omega) only [go_sem, Nat.reduceEqDiff, Nat.reduceAdd, Nat.reduceMul, Nat.reduceSub, Int.reduceToNat, Int.reduceAdd, Int.reduceSub, Int.reduceMul, Int.reduceNeg]))
      (refine vDraw_of mixed (by kernel_rfl) ?_; (simp (maxSteps := 2000000) (disch := omega) only [go_sem, Nat.reduceEqDiff, Nat.reduceAdd, Nat.reduceMul, Nat.reduceSub, Int.reduceToNat, Int.reduceAdd, Int.reduceSub, Int.reduceMul, Int.reduceNeg]; repeat ((first | refine vIf_t ?_ | refine vIf_f ?_); simp (maxSteps := 2000000) (disch := omega) only [go_sem, Nat.reduceEqDiff, Nat.reduceAdd, Nat.reduceMul, Nat.reduceSub, Int.reduceToNat, Int.reduceAdd, Int.reduceSub, Int.reduceMul, Int.reduceNeg])))
      have hc := eq_ok (gr xs k) (gr ys k) (hr k (by omega))
      unfold iS at hc
      (refine vqCall_eq (hc) (by simp (disch := omega) only [go_sem, Nat.reduceAdd]) rfl ?_; (simp (maxSteps := 2000000) (disch := omega) only [go_sem, Nat.reduceEqDiff, Nat.reduceAdd, Nat.reduceMul, Nat.reduceSub, Int.reduceToNat, Int.reduceAdd, Int.reduceSub, Int.reduceMul, Int.reduceNeg]; repeat ((first | refine vIf_t ?_ | refine vIf_f ?_); simp (maxSteps := 2000000) (disch := omega) only [go_sem, Nat.reduceEqDiff, Nat.reduceAdd, Nat.reduceMul, Nat.reduceSub, Int.reduceToNat, Int.reduceAdd, Int.reduceSub, Int.reduceMul, Int.reduceNeg])))
      refine vIf_not (fun h3 => ?_) (fun h3 => ?_)
      · (simp (maxSteps := 2000000) (disch := omega) only [go_sem, Nat.reduceEqDiff, Nat.reduceAdd, Nat.reduceMul, Nat.reduceSub, Int.reduceToNat, Int.reduceAdd, Int.reduceSub, Int.reduceMul, Int.reduceNeg]; repeat ((first | refine vIf_t ?_ | refine vIf_f ?_); simp (maxSteps := 2000000) (disch := omega) only [go_sem, Nat.reduceEqDiff, Nat.reduceAdd, Nat.reduceMul, Nat.reduceSub, Int.reduceToNat, Int.reduceAdd, Int.reduceSub, Int.reduceMul, Int.reduceNeg]))
        (refine retK_of ?_; (simp (maxSteps := 2000000) (disch := omega) only [go_sem, Nat.reduceEqDiff, Nat.reduceAdd, Nat.reduceMul, Nat.reduceSub, Int.reduceToNat, Int.reduceAdd, Int.reduceSub, Int.reduceMul, Int.reduceNeg]; repeat ((first | refine vIf_t ?_ | refine vIf_f ?_); simp (maxSteps := 2000000) (disch := omega) only [go_sem, Nat.reduceEqDiff, Nat.reduceAdd, Nat.reduceMul, Nat.reduceSub, Int.reduceToNat, Int.reduceAdd, Int.reduceSub, Int.reduceMul, Int.reduceNeg])))
        have h3 := of_decide_eq_false h3
        rw [decide_eq_false (fun e => h3 (by rw [e]))]
      · have h3 := of_decide_eq_true h3
        (simp (maxSteps := 2000000) (disch := omega) only [go_sem, Nat.reduceEqDiff, Nat.reduceAdd, Nat.reduceMul, Nat.reduceSub, Int.reduceToNat, Int.reduceAdd, Int.reduceSub, Int.reduceMul, Int.reduceNeg]; repeat ((first | refine vIf_t ?_ | refine vIf_f ?_); simp (maxSteps := 2000000) (disch := omega) only [go_sem, Nat.reduceEqDiff, Nat.reduceAdd, Nat.reduceMul, Nat.reduceSub, Int.reduceToNat, Int.reduceAdd, Int.reduceSub, Int.reduceMul, Int.reduceNeg]))
        refine again (k + 1) ⟨by omega, by rw [gr_take_succ _ _ (by omega), gr_take_succ _ _ (by omega), he, h3]⟩ (by omega) ?_
        (simp (maxSteps := 2000000) (disch := omega) only [go_sem, Nat.reduceEqDiff, Nat.reduceAdd, Nat.reduceMul, Nat.reduceSub, Int.reduceToNat, Int.reduceAdd, Int.reduceSub, Int.reduceMul, Int.reduceNeg]; repeat ((first | refine vIf_t ?_ | refine vIf_f ?_); simp (maxSteps := 2000000) (disch := omega) only [go_sem, Nat.reduceEqDiff, Nat.reduceAdd, Nat.reduceMul, Nat.reduceSub, Int.reduceToNat, Int.reduceAdd, Int.reduceSub, Int.reduceMul, Int.reduceNeg]))
        all_goals (try simp)
    · (simp (maxSteps := 2000000) (disch := omega) only [go_sem, Nat.reduceEqDiff, Nat.reduceAdd, Nat.reduceMul, Nat.reduceSub, Int.reduceToNat, Int.reduceAdd, Int.reduceSub, Int.reduceMul, Int.reduceNeg]; repeat ((first | refine vIf_t ?_ | refine vIf_f ?_); simp (maxSteps := 2000000) (disch := omega) only [go_sem, Nat.reduceEqDiff, Nat.reduceAdd, Nat.reduceMul, Nat.reduceSub, Int.reduceToNat, Int.reduceAdd, Int.reduceSub, Int.reduceMul, Int.reduceNeg]))
      (refine retK_of ?_; (simp (maxSteps := 2000000) (disch := omega) only [go_sem, Nat.reduceEqDiff, Nat.reduceAdd, Nat.reduceMul, Nat.reduceSub, Int.reduceToNat, Int.reduceAdd, Int.reduceSub, Int.reduceMul, Int.reduceNeg]; repeat ((first | refine vIf_t ?_ | refine vIf_f ?_); simp (maxSteps := 2000000) (disch := omega) only [go_sem, Nat.reduceEqDiff, Nat.reduceAdd, Nat.reduceMul, Nat.reduceSub, Int.reduceToNat, Int.reduceAdd, Int.reduceSub, Int.reduceMul, Int.reduceNeg])))
      rw [List.take_of_length_le (by omega), List.take_of_length_le (by omega)] at he
      simp [he]
end Go.Proofs.Ytkgfpephkinocaa

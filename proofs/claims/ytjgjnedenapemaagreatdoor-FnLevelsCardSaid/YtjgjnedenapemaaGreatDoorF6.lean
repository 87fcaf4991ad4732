/- the helpers of one family of laws -/
import Derived.Test.YtjgjnedenapemaaGreatDoorAgT
import Derived.Test.YtjgjnedenapemaaGreatDoorAgZ
import Derived.Test.YtjgjnedenapemaaGreatDoorArgs
set_option linter.unusedVariables false
set_option linter.unusedSimpArgs false
namespace Go.Proofs.YtjgjnedenapemaaGreatDoor
open Go.AG

theorem f6big_ok (code : List Int) (hl : code.length ≤ 9223372036854775807) : ACalls Tryz.prog 18 [bS code] [] (fun r o => r = B (decide (4096 < code.length)) ∧ o = []) := by
  refine ACalls.of_vc Tryz.func18 rfl (by decide) 6 rfl [.tmp 2] rfl (by simp) ?_
  unfold bS
  (repeat (first | simp (maxSteps := 2000000) (disch := omega) only [go_sem, ↓reduceIte] | with_reducible refine vIf_t ?_ | with_reducible refine vIf_f ?_))
  (refine retK_of ?_; (repeat (first | simp (maxSteps := 2000000) (disch := omega) only [go_sem, ↓reduceIte] | with_reducible refine vIf_t ?_ | with_reducible refine vIf_f ?_)))
  have e : decide (4096 < (code.length : Int)) = decide (4096 < code.length) := decide_eq_decide.2 (by omega)
  rw [e]
set_option maxHeartbeats 1000000 in
theorem f6ints_ok (xs ys : List Int) (hl : xs.length ≤ 10000000) : ACalls Tryz.prog 36 [.sl xs.length (ints xs), .sl ys.length (ints ys)] [] (fun r o => r = B (decide (xs = ys)) ∧ o = []) := by
  refine ACalls.of_vc Tryz.func36 rfl (by decide) 26 rfl [.tmp 4] rfl (by simp) ?_
  (repeat (first | simp (maxSteps := 2000000) (disch := omega) only [go_sem, ↓reduceIte] | with_reducible refine vIf_t ?_ | with_reducible refine vIf_f ?_))
  refine vIf_bne (fun h => ?_) (fun h => ?_)
  · (repeat (first | simp (maxSteps := 2000000) (disch := omega) only [go_sem, ↓reduceIte] | with_reducible refine vIf_t ?_ | with_reducible refine vIf_f ?_))
    (refine retK_of ?_; (repeat (first | simp (maxSteps := 2000000) (disch := omega) only [go_sem, ↓reduceIte] | with_reducible refine vIf_t ?_ | with_reducible refine vIf_f ?_)))
    rw [decide_eq_false (fun e => h (by rw [e]))]
  · (repeat (first | simp (maxSteps := 2000000) (disch := omega) only [go_sem, ↓reduceIte] | with_reducible refine vIf_t ?_ | with_reducible refine vIf_f ?_))
    refine vcLoop_inv (fun k : Nat => k ≤ xs.length ∧ xs.take k = ys.take k) (fun k => ⟨26, 0, [(5, I k), (0, .sl xs.length (ints xs)), (1, .sl ys.length (ints ys))], []⟩) (fun k => xs.length - k) 0 (by simp) (by (repeat (first | simp (maxSteps := 2000000) (disch := omega) only [go_sem, ↓reduceIte] | with_reducible refine vIf_t ?_ | with_reducible refine vIf_f ?_)); all_goals (try simp)) ?_
    intro k ⟨hk, he⟩
    (repeat (first | simp (maxSteps := 2000000) (disch := omega) only [go_sem, ↓reduceIte] | with_reducible refine vIf_t ?_ | with_reducible refine vIf_f ?_))
    refine vIf_dec (fun h2 => ?_) (fun h2 => ?_)
    · (repeat (first | simp (maxSteps := 2000000) (disch := omega) only [go_sem, ↓reduceIte] | with_reducible refine vIf_t ?_ | with_reducible refine vIf_f ?_))
      (refine vDraw_sch 8 [(0, false), (1, false), (2, false), (3, false), (4, false), (5, false), (6, false), (7, false)] mixed (by kernel_rfl) ?_; simp only [List.cons_append, List.nil_append, List.map_cons, List.map_nil, nthO_zero, nthO_succ, List.drop_succ_cons, List.drop_zero, List.drop_nil]; (repeat (first | simp (maxSteps := 2000000) (disch := omega) only [go_sem, ↓reduceIte] | with_reducible refine vIf_t ?_ | with_reducible refine vIf_f ?_)))
      (try (repeat (first | simp (maxSteps := 2000000) (disch := omega) only [go_sem, ↓reduceIte] | with_reducible refine vIf_t ?_ | with_reducible refine vIf_f ?_)))
      refine vIf_bne (fun h3 => ?_) (fun h3 => ?_)
      · (repeat (first | simp (maxSteps := 2000000) (disch := omega) only [go_sem, ↓reduceIte] | with_reducible refine vIf_t ?_ | with_reducible refine vIf_f ?_))
        (refine retK_of ?_; (repeat (first | simp (maxSteps := 2000000) (disch := omega) only [go_sem, ↓reduceIte] | with_reducible refine vIf_t ?_ | with_reducible refine vIf_f ?_)))
        rw [decide_eq_false (fun e => h3 (by rw [e]))]
      · (repeat (first | simp (maxSteps := 2000000) (disch := omega) only [go_sem, ↓reduceIte] | with_reducible refine vIf_t ?_ | with_reducible refine vIf_f ?_))
        refine again (k + 1) ⟨by omega, by rw [take_succ_gi _ _ (by omega), take_succ_gi _ _ (by omega), he, h3]⟩ (by omega) ?_
        ((repeat (first | simp (maxSteps := 2000000) (disch := omega) only [go_sem, ↓reduceIte] | with_reducible refine vIf_t ?_ | with_reducible refine vIf_f ?_)); all_goals (try simp); all_goals (try omega))
    · (repeat (first | simp (maxSteps := 2000000) (disch := omega) only [go_sem, ↓reduceIte] | with_reducible refine vIf_t ?_ | with_reducible refine vIf_f ?_))
      (refine retK_of ?_; (repeat (first | simp (maxSteps := 2000000) (disch := omega) only [go_sem, ↓reduceIte] | with_reducible refine vIf_t ?_ | with_reducible refine vIf_f ?_)))
      rw [List.take_of_length_le (by omega), List.take_of_length_le (by omega)] at he
      simp [he]
theorem f6same_ok (xs : List Int) (hl : xs.length ≤ 10000000) : ACalls Tryz.prog 36 [.sl xs.length (ints xs), .sl xs.length (ints xs)] [] (fun r o => r = B true ∧ o = []) :=
  (f6ints_ok xs xs hl).mono fun r o ⟨h1, h2⟩ => ⟨by rw [h1]; simp, h2⟩
theorem f6nil_ok : ACalls Tryz.prog 36 [.sl 0 [], .sc (.slice none 0 0)] [] (fun r o => r = B true ∧ o = []) :=
  (f6same_ok [] (by simp)).argD (leD_same _ (leD_nilS leD_nil))
theorem f6sum_ok (xs : List Int) (hl : xs.length ≤ 10000000) : ACalls Tryz.prog 43 [.sl xs.length (ints xs)] [] (fun r o => r = I (wsum xs) ∧ o = []) := by
  refine ACalls.of_vc Tryz.func43 rfl (by decide) 18 rfl [.tmp 2] rfl (by simp) ?_
  (repeat (first | simp (maxSteps := 2000000) (disch := omega) only [go_sem, ↓reduceIte] | with_reducible refine vIf_t ?_ | with_reducible refine vIf_f ?_))
  refine vcLoop_inv (fun k : Nat => k ≤ xs.length) (fun k => ⟨18, 0, [(4, I k), (0, .sl xs.length (ints xs)), (3, I (wsum (xs.take k)))], []⟩) (fun k => xs.length - k) 0 (by omega) (by (repeat (first | simp (maxSteps := 2000000) (disch := omega) only [go_sem, ↓reduceIte] | with_reducible refine vIf_t ?_ | with_reducible refine vIf_f ?_)); simp [wsum_nil]) ?_
  intro k hk
  (repeat (first | simp (maxSteps := 2000000) (disch := omega) only [go_sem, ↓reduceIte] | with_reducible refine vIf_t ?_ | with_reducible refine vIf_f ?_))
  refine vIf_dec (fun hc => ?_) (fun hc => ?_)
  · have e := wsum_snoc (xs.take k) (gi xs k)
    rw [← take_succ_gi xs k (by omega)] at e
    (repeat (first | simp (maxSteps := 2000000) (disch := omega) only [go_sem, ↓reduceIte] | with_reducible refine vIf_t ?_ | with_reducible refine vIf_f ?_))
    refine again (k + 1) (by omega) (by omega) ?_
    rw [e]
    ((repeat (first | simp (maxSteps := 2000000) (disch := omega) only [go_sem, ↓reduceIte] | with_reducible refine vIf_t ?_ | with_reducible refine vIf_f ?_)); all_goals (try simp); all_goals (try omega))
  · rw [List.take_of_length_le (by omega)]
    (repeat (first | simp (maxSteps := 2000000) (disch := omega) only [go_sem, ↓reduceIte] | with_reducible refine vIf_t ?_ | with_reducible refine vIf_f ?_))
    (refine retK_of ?_; (repeat (first | simp (maxSteps := 2000000) (disch := omega) only [go_sem, ↓reduceIte] | with_reducible refine vIf_t ?_ | with_reducible refine vIf_f ?_)))
end Go.Proofs.YtjgjnedenapemaaGreatDoor

/- lands: data, whether they are valid, neighbours -/
import Derived.Test.YtfhckmlmfigfjaaGreatDoorX6
import Derived.Test.YtfhckmlmfigfjaaGreatDoorAgZ
set_option linter.unusedVariables false
set_option linter.unusedSimpArgs false
namespace Go.Proofs.YtfhckmlmfigfjaaGreatDoor
open Go.AG

structure Ld where
  rows : Int
  cols : Int
  hs : List Int
def lC (l : Ld) : List V := [I l.rows, I l.cols, .sl l.hs.length (ints l.hs)]
def okL (l : Ld) : Bool := decide (1 ≤ l.rows ∧ l.rows ≤ 12) && decide (1 ≤ l.cols ∧ l.cols ≤ 12) && decide ((l.hs.length : Int) = l.rows * l.cols) && l.hs.all (fun x => decide (-2000 ≤ x ∧ x ≤ 2000))
theorem mul12 {a b : Int} (ha : 1 ≤ a ∧ a ≤ 12) (hb : 1 ≤ b ∧ b ≤ 12) : 1 ≤ a * b ∧ a * b ≤ 144 := by
  have h1 : 1 * 1 ≤ a * b := Int.mul_le_mul ha.1 hb.1 (by omega) (by omega)
  have h2 : a * b ≤ 12 * 12 := Int.mul_le_mul ha.2 hb.2 (by omega) (by omega)
  omega
theorem lvS_ok (n : Int) : ACalls Tryz.prog 130 [I n] [] (fun r o => r = B (decide (-2000 ≤ n ∧ n ≤ 2000)) ∧ o = []) := by
  refine ACalls.of_vc Tryz.func130 rfl (by decide) 5 rfl [.tmp 2] rfl (by simp) ?_
  (repeat (first | simp (maxSteps := 2000000) (disch := omega) only [go_sem, ↓reduceIte] | with_reducible refine vIf_t ?_ | with_reducible refine vIf_f ?_))
  (refine vCallX_of ?_; (repeat (first | simp (maxSteps := 2000000) (disch := omega) only [go_sem, ↓reduceIte] | with_reducible refine vIf_t ?_ | with_reducible refine vIf_f ?_)); refine vCall_eq (inS_ok n (-2000) 2000) (by simp (disch := omega) only [go_sem]) rfl (by first | exact Or.inl rfl | exact Or.inr ⟨rfl, rfl⟩ | (apply Or.inr; simp only [go_sem])) ?_; (repeat (first | simp (maxSteps := 2000000) (disch := omega) only [go_sem, ↓reduceIte] | with_reducible refine vIf_t ?_ | with_reducible refine vIf_f ?_)))
  (refine retK_of ?_; (repeat (first | simp (maxSteps := 2000000) (disch := omega) only [go_sem, ↓reduceIte] | with_reducible refine vIf_t ?_ | with_reducible refine vIf_f ?_)))
theorem lv_ok (n : Int) : ACalls Tryz.prog 87 [I n] [] (fun r o => r = B (decide (-2000 ≤ n ∧ n ≤ 2000)) ∧ o = []) := by
  refine ACalls.of_vc Tryz.func87 rfl (by decide) 5 rfl [.tmp 2] rfl (by simp) ?_
  (repeat (first | simp (maxSteps := 2000000) (disch := omega) only [go_sem, ↓reduceIte] | with_reducible refine vIf_t ?_ | with_reducible refine vIf_f ?_))
  (refine vCallX_of ?_; (repeat (first | simp (maxSteps := 2000000) (disch := omega) only [go_sem, ↓reduceIte] | with_reducible refine vIf_t ?_ | with_reducible refine vIf_f ?_)); refine vCall_eq (in_ok n (-2000) 2000) (by simp (disch := omega) only [go_sem]) rfl (by first | exact Or.inl rfl | exact Or.inr ⟨rfl, rfl⟩ | (apply Or.inr; simp only [go_sem])) ?_; (repeat (first | simp (maxSteps := 2000000) (disch := omega) only [go_sem, ↓reduceIte] | with_reducible refine vIf_t ?_ | with_reducible refine vIf_f ?_)))
  (refine retK_of ?_; (repeat (first | simp (maxSteps := 2000000) (disch := omega) only [go_sem, ↓reduceIte] | with_reducible refine vIf_t ?_ | with_reducible refine vIf_f ?_)))
theorem lvs_ok (xs : List Int) (hl : xs.length ≤ 10000000) : ACalls Tryz.prog 150 [iS xs] [] (fun r o => r = B (xs.all (fun x => decide (-2000 ≤ x ∧ x ≤ 2000))) ∧ o = []) := by
  refine ACalls.of_vc Tryz.func150 rfl (by decide) 5 rfl [.tmp 2] rfl (by simp) ?_
  (repeat (first | simp (maxSteps := 2000000) (disch := omega) only [go_sem, ↓reduceIte] | with_reducible refine vIf_t ?_ | with_reducible refine vIf_f ?_))
  (refine vCallX_of ?_; (repeat (first | simp (maxSteps := 2000000) (disch := omega) only [go_sem, ↓reduceIte] | with_reducible refine vIf_t ?_ | with_reducible refine vIf_f ?_)); refine vCall_eq (all_ok 87 [] (fun x => decide (-2000 ≤ x ∧ x ≤ 2000)) xs (fun x _ => lv_ok x) rfl hl) (by simp (disch := omega) only [go_sem]) rfl (by first | exact Or.inl rfl | exact Or.inr ⟨rfl, rfl⟩ | (apply Or.inr; simp only [go_sem])) ?_; (repeat (first | simp (maxSteps := 2000000) (disch := omega) only [go_sem, ↓reduceIte] | with_reducible refine vIf_t ?_ | with_reducible refine vIf_f ?_)))
  (refine retK_of ?_; (repeat (first | simp (maxSteps := 2000000) (disch := omega) only [go_sem, ↓reduceIte] | with_reducible refine vIf_t ?_ | with_reducible refine vIf_f ?_)))
set_option maxHeartbeats 2000000 in
theorem validL_ok (l : Ld) (hl : l.hs.length ≤ 10000000) : ACalls Tryz.prog 53 [.agg (lC l)] [] (fun r o => r = B (okL l) ∧ o = []) := by
  refine ACalls.of_vc Tryz.func53 rfl (by decide) 27 rfl [.tmp 2] rfl (by simp) ?_
  have hlv := lvs_ok l.hs hl
  unfold iS at hlv
  unfold lC
  (repeat (first | simp (maxSteps := 2000000) (disch := omega) only [go_sem, ↓reduceIte] | with_reducible refine vIf_t ?_ | with_reducible refine vIf_f ?_))
  (refine vDraw_of mixed (by kernel_rfl) ?_; (repeat (first | simp (maxSteps := 2000000) (disch := omega) only [go_sem, ↓reduceIte] | with_reducible refine vIf_t ?_ | with_reducible refine vIf_f ?_)))
  (refine vqCall_eq (in_ok l.rows 1 12) (by simp (disch := omega) only [go_sem]) rfl ?_; (repeat (first | simp (maxSteps := 2000000) (disch := omega) only [go_sem, ↓reduceIte] | with_reducible refine vIf_t ?_ | with_reducible refine vIf_f ?_)))
  refine vqGuard_any (fun g1 => ?_) (fun g1 => ?_)
  rotate_left
  · have g1' : ¬ (1 ≤ l.rows ∧ l.rows ≤ 12) := by simpa using g1
    (repeat (first | simp (maxSteps := 2000000) (disch := omega) only [go_sem, ↓reduceIte, g1'] | with_reducible refine vIf_t ?_ | with_reducible refine vIf_f ?_))
    (refine retK_of ?_; (repeat (first | simp (maxSteps := 2000000) (disch := omega) only [go_sem, ↓reduceIte] | with_reducible refine vIf_t ?_ | with_reducible refine vIf_f ?_)))
    simp only [okL, decide_eq_false g1', Bool.false_and]
  have g1 : (1 ≤ l.rows ∧ l.rows ≤ 12) := by simpa using g1
  (repeat (first | simp (maxSteps := 2000000) (disch := omega) only [go_sem, ↓reduceIte, g1] | with_reducible refine vIf_t ?_ | with_reducible refine vIf_f ?_))
  (refine vqCall_eq (in_ok l.cols 1 12) (by simp (disch := omega) only [go_sem]) rfl ?_; (repeat (first | simp (maxSteps := 2000000) (disch := omega) only [go_sem, ↓reduceIte] | with_reducible refine vIf_t ?_ | with_reducible refine vIf_f ?_)))
  (try (repeat (first | simp (maxSteps := 2000000) (disch := omega) only [go_sem, ↓reduceIte, g1] | with_reducible refine vIf_t ?_ | with_reducible refine vIf_f ?_)))
  refine vqGuard_any (fun g2 => ?_) (fun g2 => ?_)
  rotate_left
  · have g2' : ¬ (1 ≤ l.cols ∧ l.cols ≤ 12) := by simpa using g2
    (repeat (first | simp (maxSteps := 2000000) (disch := omega) only [go_sem, ↓reduceIte, g2'] | with_reducible refine vIf_t ?_ | with_reducible refine vIf_f ?_))
    (refine retK_of ?_; (repeat (first | simp (maxSteps := 2000000) (disch := omega) only [go_sem, ↓reduceIte] | with_reducible refine vIf_t ?_ | with_reducible refine vIf_f ?_)))
    simp only [okL, decide_eq_false g2', Bool.false_and, Bool.and_false]
  have g2 : (1 ≤ l.cols ∧ l.cols ≤ 12) := by simpa using g2
  have hmul := mul12 g1 g2
  (repeat (first | simp (maxSteps := 2000000) (disch := omega) only [go_sem, ↓reduceIte, g2] | with_reducible refine vIf_t ?_ | with_reducible refine vIf_f ?_))
  (refine vqCall_eq (size_ok (ints l.hs) l.hs.length) (by simp (disch := omega) only [go_sem]) rfl ?_; (repeat (first | simp (maxSteps := 2000000) (disch := omega) only [go_sem, ↓reduceIte] | with_reducible refine vIf_t ?_ | with_reducible refine vIf_f ?_)))
  (try (repeat (first | simp (maxSteps := 2000000) (disch := omega) only [go_sem, ↓reduceIte, g2] | with_reducible refine vIf_t ?_ | with_reducible refine vIf_f ?_)))
  refine vqGuard_any (fun g3 => ?_) (fun g3 => ?_)
  rotate_left
  · have g3' : ¬ (l.hs.length : Int) = l.rows * l.cols := by simpa using g3
    have g3'' : ((l.hs.length : Int) == l.rows * l.cols) = false := by simpa using g3
    (repeat (first | simp (maxSteps := 2000000) (disch := omega) only [go_sem, ↓reduceIte, g3''] | with_reducible refine vIf_t ?_ | with_reducible refine vIf_f ?_))
    (refine retK_of ?_; (repeat (first | simp (maxSteps := 2000000) (disch := omega) only [go_sem, ↓reduceIte] | with_reducible refine vIf_t ?_ | with_reducible refine vIf_f ?_)))
    simp only [okL, decide_eq_false g3', Bool.false_and, Bool.and_false]
  have g3' : (l.hs.length : Int) = l.rows * l.cols := by simpa using g3
  have g3'' : ((l.hs.length : Int) == l.rows * l.cols) = true := by simpa using g3
  (repeat (first | simp (maxSteps := 2000000) (disch := omega) only [go_sem, ↓reduceIte, g3''] | with_reducible refine vIf_t ?_ | with_reducible refine vIf_f ?_))
  (refine vqCall_eq (hlv) (by simp (disch := omega) only [go_sem]) rfl ?_; (repeat (first | simp (maxSteps := 2000000) (disch := omega) only [go_sem, ↓reduceIte] | with_reducible refine vIf_t ?_ | with_reducible refine vIf_f ?_)))
  (refine retK_of ?_; (repeat (first | simp (maxSteps := 2000000) (disch := omega) only [go_sem, ↓reduceIte] | with_reducible refine vIf_t ?_ | with_reducible refine vIf_f ?_)))
  simp only [okL, decide_eq_true g1, decide_eq_true g2, decide_eq_true g3', Bool.true_and]
set_option maxHeartbeats 2000000 in
theorem l03Ok_ok (l : Ld) (hl : l.hs.length ≤ 10000000) : ACalls Tryz.prog 135 [.ip (lC l) 0] [] (fun r o => r = B (okL l) ∧ o = []) := by
  refine ACalls.of_vc Tryz.func135 rfl (by decide) 53 rfl [.tmp 2] rfl (by simp) ?_
  unfold lC
  (repeat (first | simp (maxSteps := 2000000) (disch := omega) only [go_sem, ↓reduceIte] | with_reducible refine vIf_t ?_ | with_reducible refine vIf_f ?_))
  (refine vDraw_of mixed (by kernel_rfl) ?_; (repeat (first | simp (maxSteps := 2000000) (disch := omega) only [go_sem, ↓reduceIte] | with_reducible refine vIf_t ?_ | with_reducible refine vIf_f ?_)))
  (refine vqCall_eq (inS_ok l.rows 1 12) (by simp (disch := omega) only [go_sem]) rfl ?_; (repeat (first | simp (maxSteps := 2000000) (disch := omega) only [go_sem, ↓reduceIte] | with_reducible refine vIf_t ?_ | with_reducible refine vIf_f ?_)))
  refine vqGuard_any (fun g1 => ?_) (fun g1 => ?_)
  rotate_left
  · have g1' : ¬ (1 ≤ l.rows ∧ l.rows ≤ 12) := by simpa using g1
    (repeat (first | simp (maxSteps := 2000000) (disch := omega) only [go_sem, ↓reduceIte, g1'] | with_reducible refine vIf_t ?_ | with_reducible refine vIf_f ?_))
    (refine retK_of ?_; (repeat (first | simp (maxSteps := 2000000) (disch := omega) only [go_sem, ↓reduceIte] | with_reducible refine vIf_t ?_ | with_reducible refine vIf_f ?_)))
    simp only [okL, decide_eq_false g1', Bool.false_and]
  have g1 : (1 ≤ l.rows ∧ l.rows ≤ 12) := by simpa using g1
  (repeat (first | simp (maxSteps := 2000000) (disch := omega) only [go_sem, ↓reduceIte, g1] | with_reducible refine vIf_t ?_ | with_reducible refine vIf_f ?_))
  (refine vqCall_eq (inS_ok l.cols 1 12) (by simp (disch := omega) only [go_sem]) rfl ?_; (repeat (first | simp (maxSteps := 2000000) (disch := omega) only [go_sem, ↓reduceIte] | with_reducible refine vIf_t ?_ | with_reducible refine vIf_f ?_)))
  (try (repeat (first | simp (maxSteps := 2000000) (disch := omega) only [go_sem, ↓reduceIte, g1] | with_reducible refine vIf_t ?_ | with_reducible refine vIf_f ?_)))
  refine vqGuard_any (fun g2 => ?_) (fun g2 => ?_)
  rotate_left
  · have g2' : ¬ (1 ≤ l.cols ∧ l.cols ≤ 12) := by simpa using g2
    (repeat (first | simp (maxSteps := 2000000) (disch := omega) only [go_sem, ↓reduceIte, g2'] | with_reducible refine vIf_t ?_ | with_reducible refine vIf_f ?_))
    (refine retK_of ?_; (repeat (first | simp (maxSteps := 2000000) (disch := omega) only [go_sem, ↓reduceIte] | with_reducible refine vIf_t ?_ | with_reducible refine vIf_f ?_)))
    simp only [okL, decide_eq_false g2', Bool.false_and, Bool.and_false]
  have g2 : (1 ≤ l.cols ∧ l.cols ≤ 12) := by simpa using g2
  have hmul := mul12 g1 g2
  (repeat (first | simp (maxSteps := 2000000) (disch := omega) only [go_sem, ↓reduceIte, g2] | with_reducible refine vIf_t ?_ | with_reducible refine vIf_f ?_))
  refine vIf_bne (fun g3 => ?_) (fun g3 => ?_)
  · (repeat (first | simp (maxSteps := 2000000) (disch := omega) only [go_sem, ↓reduceIte] | with_reducible refine vIf_t ?_ | with_reducible refine vIf_f ?_))
    (refine retK_of ?_; (repeat (first | simp (maxSteps := 2000000) (disch := omega) only [go_sem, ↓reduceIte] | with_reducible refine vIf_t ?_ | with_reducible refine vIf_f ?_)))
    simp only [okL, decide_eq_false g3, Bool.false_and, Bool.and_false]
  (repeat (first | simp (maxSteps := 2000000) (disch := omega) only [go_sem, ↓reduceIte] | with_reducible refine vIf_t ?_ | with_reducible refine vIf_f ?_))
  refine vcLoop_inv (fun k : Nat => k ≤ l.hs.length ∧ (l.hs.take k).all (fun x => decide (-2000 ≤ x ∧ x ≤ 2000)) = true) (fun k => ⟨53, 0, [(3, I k), (0, .ip (lC l) 0)], []⟩) (fun k => l.hs.length - k) 0 (by simp) (by (repeat (first | simp (maxSteps := 2000000) (disch := omega) only [go_sem, ↓reduceIte, lC] | with_reducible refine vIf_t ?_ | with_reducible refine vIf_f ?_))) ?_
  intro k ⟨hk, he⟩
  unfold lC
  (repeat (first | simp (maxSteps := 2000000) (disch := omega) only [go_sem, ↓reduceIte] | with_reducible refine vIf_t ?_ | with_reducible refine vIf_f ?_))
  refine vIf_dec (fun hc => ?_) (fun hc => ?_)
  · (repeat (first | simp (maxSteps := 2000000) (disch := omega) only [go_sem, ↓reduceIte] | with_reducible refine vIf_t ?_ | with_reducible refine vIf_f ?_))
    (refine vCallX_of ?_; (repeat (first | simp (maxSteps := 2000000) (disch := omega) only [go_sem, ↓reduceIte] | with_reducible refine vIf_t ?_ | with_reducible refine vIf_f ?_)); refine vCall_eq (lvS_ok (gi l.hs k)) (by simp (disch := omega) only [go_sem]) rfl (by first | exact Or.inl rfl | exact Or.inr ⟨rfl, rfl⟩ | (apply Or.inr; simp only [go_sem])) ?_; (repeat (first | simp (maxSteps := 2000000) (disch := omega) only [go_sem, ↓reduceIte] | with_reducible refine vIf_t ?_ | with_reducible refine vIf_f ?_)))
    refine vIf_not (fun h3 => ?_) (fun h3 => ?_)
    · (repeat (first | simp (maxSteps := 2000000) (disch := omega) only [go_sem, ↓reduceIte] | with_reducible refine vIf_t ?_ | with_reducible refine vIf_f ?_))
      (refine retK_of ?_; (repeat (first | simp (maxSteps := 2000000) (disch := omega) only [go_sem, ↓reduceIte] | with_reducible refine vIf_t ?_ | with_reducible refine vIf_f ?_)))
      have e := all_no (fun x => decide (-2000 ≤ x ∧ x ≤ 2000)) l.hs k (by omega) h3
      simp only [okL, e, Bool.and_false]
    · (repeat (first | simp (maxSteps := 2000000) (disch := omega) only [go_sem, ↓reduceIte] | with_reducible refine vIf_t ?_ | with_reducible refine vIf_f ?_))
      refine again (k + 1) ⟨by omega, all_snoc (fun x => decide (-2000 ≤ x ∧ x ≤ 2000)) l.hs k (by omega) he h3⟩ (by omega) ?_
      (repeat (first | simp (maxSteps := 2000000) (disch := omega) only [go_sem, ↓reduceIte, lC] | with_reducible refine vIf_t ?_ | with_reducible refine vIf_f ?_))
  · rw [take_all _ _ (by omega)] at he
    (repeat (first | simp (maxSteps := 2000000) (disch := omega) only [go_sem, ↓reduceIte] | with_reducible refine vIf_t ?_ | with_reducible refine vIf_f ?_))
    (refine retK_of ?_; (repeat (first | simp (maxSteps := 2000000) (disch := omega) only [go_sem, ↓reduceIte] | with_reducible refine vIf_t ?_ | with_reducible refine vIf_f ?_)))
    simp only [okL, decide_eq_true g1, decide_eq_true g2, decide_eq_true g3, he, Bool.true_and]
end Go.Proofs.YtfhckmlmfigfjaaGreatDoor

/- volumes of lands -/
import Derived.Test.YtfhckmlmfigfjaaGreatDoorLand
import Derived.Test.YtfhckmlmfigfjaaGreatDoorBas
set_option linter.unusedVariables false
set_option linter.unusedSimpArgs false
namespace Go.Proofs.YtfhckmlmfigfjaaGreatDoor
open Go.AG

attribute [local go_sem] beq_self_eq_true bne_self_eq_false Bool.not_true Bool.not_false
def lvK (hs : List Int) (x : Int) : Nat → Int
  | 0 => 0
  | k + 1 => lvK hs x k + (if 0 < x - gi hs k then x - gi hs k else 0)
def llV (l : Ld) (x : Int) : Int := lvK l.hs x l.hs.length
structure LdF (l : Ld) : Prop where
  n : l.hs.length ≤ 144
  h : ∀ i, i < l.hs.length → -2000 ≤ gi l.hs i ∧ gi l.hs i ≤ 2000
theorem okL_F {l : Ld} (h : okL l = true) : LdF l := by
  simp only [okL, Bool.and_eq_true, decide_eq_true_eq, List.all_eq_true] at h
  obtain ⟨⟨⟨h1, h2⟩, h3⟩, h4⟩ := h
  have := mul12 h1 h2
  exact ⟨by omega, fun i hi => h4 _ (gi_mem l.hs i hi)⟩
theorem lvK_bd {l : Ld} (f : LdF l) {x : Int} (hx : -2000 ≤ x ∧ x ≤ 2000) (k : Nat) (hk : k ≤ l.hs.length) : 0 ≤ lvK l.hs x k ∧ lvK l.hs x k ≤ 4000 * (k : Int) := by
  induction k with
  | zero => simp [lvK]
  | succ k ih =>
    have i := ih (by omega)
    have h := f.h k (by omega)
    simp only [lvK]
    split <;> push_cast <;> omega
theorem llV_bd {l : Ld} (f : LdF l) {x : Int} (hx : -2000 ≤ x ∧ x ≤ 2000) : 0 ≤ llV l x ∧ llV l x ≤ 576000 := by
  have := lvK_bd f hx l.hs.length (Nat.le_refl _)
  have := f.n
  unfold llV
  omega
theorem lvol_ok (l : Ld) (x : Int) (f : LdF l) (hx : -2000 ≤ x ∧ x ≤ 2000) : ACalls Tryz.prog 134 [.agg (lC l), I x] [] (fun r o => r = I (llV l x) ∧ o = []) := by
  refine ACalls.of_vc Tryz.func134 rfl (by decide) 23 rfl [.tmp 4] rfl (by simp) ?_
  have n := f.n
  unfold lC
  (repeat (first | simp (maxSteps := 2000000) (disch := omega) only [go_sem, ↓reduceIte] | with_reducible refine vIf_t ?_ | with_reducible refine vIf_f ?_))
  refine vcLoop_invF (fun k : Nat => k ≤ l.hs.length) (fun k => ⟨23, 0, [(11, I k), (1, I x), (5, I (lvK l.hs x k)), (9, .sl l.hs.length (ints l.hs)), (10, I l.hs.length)], []⟩) (fun k => l.hs.length - k) 0 (by omega) (by rw [show lvK l.hs x 0 = 0 from rfl]; (first | (refine leF_s ?_; ((repeat (first | simp (maxSteps := 2000000) (disch := omega) only [go_sem, ↓reduceIte] | with_reducible refine vIf_t ?_ | with_reducible refine vIf_f ?_)); all_goals (try simp); all_goals (try omega)); done) | (refine leF_p ?_; ((repeat (first | simp (maxSteps := 2000000) (disch := omega) only [go_sem, ↓reduceIte] | with_reducible refine vIf_t ?_ | with_reducible refine vIf_f ?_)); all_goals (try simp); all_goals (try omega)); done))) ?_
  intro k hk
  have hb := lvK_bd f hx k hk
  (repeat (first | simp (maxSteps := 2000000) (disch := omega) only [go_sem, ↓reduceIte] | with_reducible refine vIf_t ?_ | with_reducible refine vIf_f ?_))
  refine vIf_dec (fun h => ?_) (fun h => ?_)
  · have hkl : k < l.hs.length := by omega
    have hh := f.h k hkl
    have e1 : lvK l.hs x k + (if (0 : Int) < x - gi l.hs k then x - gi l.hs k else 0) = lvK l.hs x (k + 1) := rfl
    have hb2 := lvK_bd f hx (k + 1) hkl
    generalize lvK l.hs x (k + 1) = z at e1 hb2
    (repeat (first | simp (maxSteps := 2000000) (disch := omega) only [go_sem, ↓reduceIte] | with_reducible refine vIf_t ?_ | with_reducible refine vIf_f ?_))
    (try (repeat (first | simp (maxSteps := 2000000) (disch := omega) only [go_sem, ↓reduceIte, e1] | with_reducible refine vIf_t ?_ | with_reducible refine vIf_f ?_)))
    refine againF (k + 1) (by omega) (by omega) ?_
    rw [show lvK l.hs x (k + 1) = z from by rw [← e1]; rfl]
    (first | (refine leF_s ?_; ((repeat (first | simp (maxSteps := 2000000) (disch := omega) only [go_sem, ↓reduceIte] | with_reducible refine vIf_t ?_ | with_reducible refine vIf_f ?_)); all_goals (try simp); all_goals (try omega)); done) | (refine leF_p ?_; ((repeat (first | simp (maxSteps := 2000000) (disch := omega) only [go_sem, ↓reduceIte] | with_reducible refine vIf_t ?_ | with_reducible refine vIf_f ?_)); all_goals (try simp); all_goals (try omega)); done))
  · have ek : k = l.hs.length := by omega
    subst ek
    (repeat (first | simp (maxSteps := 2000000) (disch := omega) only [go_sem, ↓reduceIte] | with_reducible refine vIf_t ?_ | with_reducible refine vIf_f ?_))
    (refine retK_of ?_; (repeat (first | simp (maxSteps := 2000000) (disch := omega) only [go_sem, ↓reduceIte] | with_reducible refine vIf_t ?_ | with_reducible refine vIf_f ?_)))
    try rfl
theorem lvolS_ok (l : Ld) (x : Int) (f : LdF l) (hx : -2000 ≤ x ∧ x ≤ 2000) : ACalls Tryz.prog 136 [.ip (lC l) 0, I x] [] (fun r o => r = I (llV l x) ∧ o = []) := by
  refine ACalls.of_vc Tryz.func136 rfl (by decide) 29 rfl [.tmp 4] rfl (by simp) ?_
  have n := f.n
  unfold lC
  (repeat (first | simp (maxSteps := 2000000) (disch := omega) only [go_sem, ↓reduceIte] | with_reducible refine vIf_t ?_ | with_reducible refine vIf_f ?_))
  refine vcLoop_invF (fun k : Nat => k ≤ l.hs.length) (fun k => ⟨29, 0, [(6, I k), (0, .ip [I l.rows, I l.cols, .sl l.hs.length (ints l.hs)] 0), (1, I x), (5, I (lvK l.hs x k))], []⟩) (fun k => l.hs.length - k) 0 (by omega) (by rw [show lvK l.hs x 0 = 0 from rfl]; (first | (refine leF_s ?_; ((repeat (first | simp (maxSteps := 2000000) (disch := omega) only [go_sem, ↓reduceIte] | with_reducible refine vIf_t ?_ | with_reducible refine vIf_f ?_)); all_goals (try simp); all_goals (try omega)); done) | (refine leF_p ?_; ((repeat (first | simp (maxSteps := 2000000) (disch := omega) only [go_sem, ↓reduceIte] | with_reducible refine vIf_t ?_ | with_reducible refine vIf_f ?_)); all_goals (try simp); all_goals (try omega)); done))) ?_
  intro k hk
  have hb := lvK_bd f hx k hk
  (repeat (first | simp (maxSteps := 2000000) (disch := omega) only [go_sem, ↓reduceIte] | with_reducible refine vIf_t ?_ | with_reducible refine vIf_f ?_))
  refine vIf_dec (fun h => ?_) (fun h => ?_)
  · have hkl : k < l.hs.length := by omega
    have hh := f.h k hkl
    have hm := bMax_ok 0 (x - gi l.hs k)
    have e1 : lvK l.hs x k + (if x - gi l.hs k < 0 then (0 : Int) else x - gi l.hs k) = lvK l.hs x (k + 1) := by
      simp only [lvK]; split <;> split <;> omega
    have hb2 := lvK_bd f hx (k + 1) hkl
    have hmb : 0 ≤ (if x - gi l.hs k < 0 then (0 : Int) else x - gi l.hs k) ∧ (if x - gi l.hs k < 0 then (0 : Int) else x - gi l.hs k) ≤ 4000 := by split <;> omega
    generalize (if x - gi l.hs k < 0 then (0 : Int) else x - gi l.hs k) = y at *
    (repeat (first | simp (maxSteps := 2000000) (disch := omega) only [go_sem, ↓reduceIte] | with_reducible refine vIf_t ?_ | with_reducible refine vIf_f ?_))
    (refine vCallX_of ?_; (repeat (first | simp (maxSteps := 2000000) (disch := omega) only [go_sem, ↓reduceIte] | with_reducible refine vIf_t ?_ | with_reducible refine vIf_f ?_)); refine vCall_eq (hm) (by simp (disch := omega) only [go_sem]) rfl (by first | exact Or.inl rfl | exact Or.inr ⟨rfl, rfl⟩ | (apply Or.inr; simp only [go_sem])) ?_; (repeat (first | simp (maxSteps := 2000000) (disch := omega) only [go_sem, ↓reduceIte] | with_reducible refine vIf_t ?_ | with_reducible refine vIf_f ?_)))
    refine againF (k + 1) (by omega) (by omega) ?_
    rw [← e1]
    (first | (refine leF_s ?_; ((repeat (first | simp (maxSteps := 2000000) (disch := omega) only [go_sem, ↓reduceIte] | with_reducible refine vIf_t ?_ | with_reducible refine vIf_f ?_)); all_goals (try simp); all_goals (try omega)); done) | (refine leF_p ?_; ((repeat (first | simp (maxSteps := 2000000) (disch := omega) only [go_sem, ↓reduceIte] | with_reducible refine vIf_t ?_ | with_reducible refine vIf_f ?_)); all_goals (try simp); all_goals (try omega)); done))
  · have ek : k = l.hs.length := by omega
    subst ek
    (repeat (first | simp (maxSteps := 2000000) (disch := omega) only [go_sem, ↓reduceIte] | with_reducible refine vIf_t ?_ | with_reducible refine vIf_f ?_))
    (refine retK_of ?_; (repeat (first | simp (maxSteps := 2000000) (disch := omega) only [go_sem, ↓reduceIte] | with_reducible refine vIf_t ?_ | with_reducible refine vIf_f ?_)))
    try rfl
end Go.Proofs.YtfhckmlmfigfjaaGreatDoor

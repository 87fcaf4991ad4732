/- storage curves: lands' volumes, curves of lands, hours, same curves -/
import Derived.Test.YtneokdflhleidaaGreatDoorSto1
import Derived.Test.YtneokdflhleidaaGreatDoorLand
set_option linter.unusedVariables false
set_option linter.unusedSimpArgs false
namespace Go.Proofs.YtneokdflhleidaaGreatDoor
-- few steps
open Go.AG Go.Lib

attribute [local go_sem] beq_self_eq_true bne_self_eq_false Bool.not_true Bool.not_false
def lvK (hs : List Int) (x : Int) : Nat → Int
  | 0 => 0
  | k + 1 => lvK hs x k + (if 0 < x - gi hs k then x - gi hs k else 0)
def llV (l : Ld) (x : Int) : Int := lvK l.hs x l.hs.length
structure LdF (l : Ld) : Prop where
  n : l.hs.length ≤ 144
  h : ∀ i, i < l.hs.length → -2000 ≤ gi l.hs i ∧ gi l.hs i ≤ 2000
theorem okL_F {l : Ld} (h : okL l = true) : LdF l := by
  simp only [okL, Bool.and_eq_true, decide_eq_true_eq, List.all_eq_true] at h
  obtain ⟨⟨⟨h1, h2⟩, h3⟩, h4⟩ := h
  have := mul12 h1 h2
  exact ⟨by omega, fun i hi => h4 _ (gi_mem l.hs i hi)⟩
theorem lvK_bd {l : Ld} (f : LdF l) {x : Int} (hx : -2000 ≤ x ∧ x ≤ 2000) (k : Nat) (hk : k ≤ l.hs.length) : 0 ≤ lvK l.hs x k ∧ lvK l.hs x k ≤ 4000 * (k : Int) := by
  induction k with
  | zero => simp [lvK]
  | succ k ih =>
    have i := ih (by omega)
    have h := f.h k (by omega)
    simp only [lvK]
    split <;> push_cast <;> omega
theorem llV_bd {l : Ld} (f : LdF l) {x : Int} (hx : -2000 ≤ x ∧ x ≤ 2000) : 0 ≤ llV l x ∧ llV l x ≤ 576000 := by
  have := lvK_bd f hx l.hs.length (Nat.le_refl _)
  have := f.n
  unfold llV
  omega
theorem lvol_ok (l : Ld) (x : Int) (f : LdF l) (hx : -2000 ≤ x ∧ x ≤ 2000) : ACalls Tryz.prog 132 [.agg (lC l), I x] [] (fun r o => r = I (llV l x) ∧ o = []) := by
  refine ACalls.of_vc Tryz.func132 rfl (by decide) 23 rfl [.tmp 4] rfl (by simp) ?_
  have n := f.n
  unfold lC
  (repeat (first | simp (disch := omega) only [go_sem, ↓reduceIte, Nat.reduceEqDiff, Nat.reduceAdd, Nat.reduceMul, Nat.reduceSub, Int.reduceToNat, Int.reduceAdd, Int.reduceSub, Int.reduceMul, Int.reduceNeg] | with_reducible refine vIf_t ?_ | with_reducible refine vIf_f ?_))
  refine vcLoop_invF (fun k : Nat => k ≤ l.hs.length) (fun k => ⟨23, 0, [(11, I k), (1, I x), (5, I (lvK l.hs x k)), (9, .sl l.hs.length (ints l.hs)), (10, I l.hs.length)], []⟩) (fun k => l.hs.length - k) 0 (by omega) (by rw [show lvK l.hs x 0 = 0 from rfl]; (first | (refine leF_s ?_; ((repeat (first | simp (disch := omega) only [go_sem, ↓reduceIte, Nat.reduceEqDiff, Nat.reduceAdd, Nat.reduceMul, Nat.reduceSub, Int.reduceToNat, Int.reduceAdd, Int.reduceSub, Int.reduceMul, Int.reduceNeg] | with_reducible refine vIf_t ?_ | with_reducible refine vIf_f ?_)); all_goals (try simp); all_goals (try omega)); done) | (refine leF_p ?_; ((repeat (first | simp (disch := omega) only [go_sem, ↓reduceIte, Nat.reduceEqDiff, Nat.reduceAdd, Nat.reduceMul, Nat.reduceSub, Int.reduceToNat, Int.reduceAdd, Int.reduceSub, Int.reduceMul, Int.reduceNeg] | with_reducible refine vIf_t ?_ | with_reducible refine vIf_f ?_)); all_goals (try simp); all_goals (try omega)); done))) ?_
  intro k hk
  have hb := lvK_bd f hx k hk
  (repeat (first | simp (disch := omega) only [go_sem, ↓reduceIte, Nat.reduceEqDiff, Nat.reduceAdd, Nat.reduceMul, Nat.reduceSub, Int.reduceToNat, Int.reduceAdd, Int.reduceSub, Int.reduceMul, Int.reduceNeg] | with_reducible refine vIf_t ?_ | with_reducible refine vIf_f ?_))
  refine vIf_dec (fun h => ?_) (fun h => ?_)
  · have hkl : k < l.hs.length := by omega
    have hh := f.h k hkl
    have e1 : lvK l.hs x k + (if (0 : Int) < x - gi l.hs k then x - gi l.hs k else 0) = lvK l.hs x (k + 1) := rfl
    have hb2 := lvK_bd f hx (k + 1) hkl
    generalize lvK l.hs x (k + 1) = z at e1 hb2
    (repeat (first | simp (disch := omega) only [go_sem, ↓reduceIte, Nat.reduceEqDiff, Nat.reduceAdd, Nat.reduceMul, Nat.reduceSub, Int.reduceToNat, Int.reduceAdd, Int.reduceSub, Int.reduceMul, Int.reduceNeg] | with_reducible refine vIf_t ?_ | with_reducible refine vIf_f ?_))
    (try (repeat (first | simp (disch := omega) only [go_sem, ↓reduceIte, Nat.reduceEqDiff, Nat.reduceAdd, Nat.reduceMul, Nat.reduceSub, Int.reduceToNat, Int.reduceAdd, Int.reduceSub, Int.reduceMul, Int.reduceNeg, e1] | with_reducible refine vIf_t ?_ | with_reducible refine vIf_f ?_)))
    refine againF (k + 1) (by omega) (by omega) ?_
    rw [show lvK l.hs x (k + 1) = z from by rw [← e1]; rfl]
    (first | (refine leF_s ?_; ((repeat (first | simp (disch := omega) only [go_sem, ↓reduceIte, Nat.reduceEqDiff, Nat.reduceAdd, Nat.reduceMul, Nat.reduceSub, Int.reduceToNat, Int.reduceAdd, Int.reduceSub, Int.reduceMul, Int.reduceNeg] | with_reducible refine vIf_t ?_ | with_reducible refine vIf_f ?_)); all_goals (try simp); all_goals (try omega)); done) | (refine leF_p ?_; ((repeat (first | simp (disch := omega) only [go_sem, ↓reduceIte, Nat.reduceEqDiff, Nat.reduceAdd, Nat.reduceMul, Nat.reduceSub, Int.reduceToNat, Int.reduceAdd, Int.reduceSub, Int.reduceMul, Int.reduceNeg] | with_reducible refine vIf_t ?_ | with_reducible refine vIf_f ?_)); all_goals (try simp); all_goals (try omega)); done))
  · have ek : k = l.hs.length := by omega
    subst ek
    (repeat (first | simp (disch := omega) only [go_sem, ↓reduceIte, Nat.reduceEqDiff, Nat.reduceAdd, Nat.reduceMul, Nat.reduceSub, Int.reduceToNat, Int.reduceAdd, Int.reduceSub, Int.reduceMul, Int.reduceNeg] | with_reducible refine vIf_t ?_ | with_reducible refine vIf_f ?_))
    (refine retK_of ?_; (repeat (first | simp (disch := omega) only [go_sem, ↓reduceIte, Nat.reduceEqDiff, Nat.reduceAdd, Nat.reduceMul, Nat.reduceSub, Int.reduceToNat, Int.reduceAdd, Int.reduceSub, Int.reduceMul, Int.reduceNeg] | with_reducible refine vIf_t ?_ | with_reducible refine vIf_f ?_)))
    try rfl
theorem lvolS_ok (l : Ld) (x : Int) (f : LdF l) (hx : -2000 ≤ x ∧ x ≤ 2000) : ACalls Tryz.prog 135 [.ip (lC l) 0, I x] [] (fun r o => r = I (llV l x) ∧ o = []) := by
  refine ACalls.of_vc Tryz.func135 rfl (by decide) 29 rfl [.tmp 4] rfl (by simp) ?_
  have n := f.n
  unfold lC
  (repeat (first | simp (disch := omega) only [go_sem, ↓reduceIte, Nat.reduceEqDiff, Nat.reduceAdd, Nat.reduceMul, Nat.reduceSub, Int.reduceToNat, Int.reduceAdd, Int.reduceSub, Int.reduceMul, Int.reduceNeg] | with_reducible refine vIf_t ?_ | with_reducible refine vIf_f ?_))
  refine vcLoop_invF (fun k : Nat => k ≤ l.hs.length) (fun k => ⟨29, 0, [(6, I k), (0, .ip [I l.rows, I l.cols, .sl l.hs.length (ints l.hs)] 0), (1, I x), (5, I (lvK l.hs x k))], []⟩) (fun k => l.hs.length - k) 0 (by omega) (by rw [show lvK l.hs x 0 = 0 from rfl]; (first | (refine leF_s ?_; ((repeat (first | simp (disch := omega) only [go_sem, ↓reduceIte, Nat.reduceEqDiff, Nat.reduceAdd, Nat.reduceMul, Nat.reduceSub, Int.reduceToNat, Int.reduceAdd, Int.reduceSub, Int.reduceMul, Int.reduceNeg] | with_reducible refine vIf_t ?_ | with_reducible refine vIf_f ?_)); all_goals (try simp); all_goals (try omega)); done) | (refine leF_p ?_; ((repeat (first | simp (disch := omega) only [go_sem, ↓reduceIte, Nat.reduceEqDiff, Nat.reduceAdd, Nat.reduceMul, Nat.reduceSub, Int.reduceToNat, Int.reduceAdd, Int.reduceSub, Int.reduceMul, Int.reduceNeg] | with_reducible refine vIf_t ?_ | with_reducible refine vIf_f ?_)); all_goals (try simp); all_goals (try omega)); done))) ?_
  intro k hk
  have hb := lvK_bd f hx k hk
  (repeat (first | simp (disch := omega) only [go_sem, ↓reduceIte, Nat.reduceEqDiff, Nat.reduceAdd, Nat.reduceMul, Nat.reduceSub, Int.reduceToNat, Int.reduceAdd, Int.reduceSub, Int.reduceMul, Int.reduceNeg] | with_reducible refine vIf_t ?_ | with_reducible refine vIf_f ?_))
  refine vIf_dec (fun h => ?_) (fun h => ?_)
  · have hkl : k < l.hs.length := by omega
    have hh := f.h k hkl
    have hm := l00Max_ok 0 (x - gi l.hs k)
    have e1 : lvK l.hs x k + (if x - gi l.hs k < 0 then (0 : Int) else x - gi l.hs k) = lvK l.hs x (k + 1) := by
      simp only [lvK]; split <;> split <;> omega
    have hb2 := lvK_bd f hx (k + 1) hkl
    have hmb : 0 ≤ (if x - gi l.hs k < 0 then (0 : Int) else x - gi l.hs k) ∧ (if x - gi l.hs k < 0 then (0 : Int) else x - gi l.hs k) ≤ 4000 := by split <;> omega
    generalize (if x - gi l.hs k < 0 then (0 : Int) else x - gi l.hs k) = y at *
    (repeat (first | simp (disch := omega) only [go_sem, ↓reduceIte, Nat.reduceEqDiff, Nat.reduceAdd, Nat.reduceMul, Nat.reduceSub, Int.reduceToNat, Int.reduceAdd, Int.reduceSub, Int.reduceMul, Int.reduceNeg] | with_reducible refine vIf_t ?_ | with_reducible refine vIf_f ?_))
    (refine vCallX_of ?_; (repeat (first | simp (disch := omega) only [go_sem, ↓reduceIte, Nat.reduceEqDiff, Nat.reduceAdd, Nat.reduceMul, Nat.reduceSub, Int.reduceToNat, Int.reduceAdd, Int.reduceSub, Int.reduceMul, Int.reduceNeg] | with_reducible refine vIf_t ?_ | with_reducible refine vIf_f ?_)); refine vCall_eq (hm) (by simp (disch := omega) only [go_sem, Nat.reduceAdd]) rfl (by first | exact Or.inl rfl | exact Or.inr ⟨rfl, rfl⟩ | (apply Or.inr; simp only [go_sem])) ?_; (repeat (first | simp (disch := omega) only [go_sem, ↓reduceIte, Nat.reduceEqDiff, Nat.reduceAdd, Nat.reduceMul, Nat.reduceSub, Int.reduceToNat, Int.reduceAdd, Int.reduceSub, Int.reduceMul, Int.reduceNeg] | with_reducible refine vIf_t ?_ | with_reducible refine vIf_f ?_)))
    refine againF (k + 1) (by omega) (by omega) ?_
    rw [← e1]
    (first | (refine leF_s ?_; ((repeat (first | simp (disch := omega) only [go_sem, ↓reduceIte, Nat.reduceEqDiff, Nat.reduceAdd, Nat.reduceMul, Nat.reduceSub, Int.reduceToNat, Int.reduceAdd, Int.reduceSub, Int.reduceMul, Int.reduceNeg] | with_reducible refine vIf_t ?_ | with_reducible refine vIf_f ?_)); all_goals (try simp); all_goals (try omega)); done) | (refine leF_p ?_; ((repeat (first | simp (disch := omega) only [go_sem, ↓reduceIte, Nat.reduceEqDiff, Nat.reduceAdd, Nat.reduceMul, Nat.reduceSub, Int.reduceToNat, Int.reduceAdd, Int.reduceSub, Int.reduceMul, Int.reduceNeg] | with_reducible refine vIf_t ?_ | with_reducible refine vIf_f ?_)); all_goals (try simp); all_goals (try omega)); done))
  · have ek : k = l.hs.length := by omega
    subst ek
    (repeat (first | simp (disch := omega) only [go_sem, ↓reduceIte, Nat.reduceEqDiff, Nat.reduceAdd, Nat.reduceMul, Nat.reduceSub, Int.reduceToNat, Int.reduceAdd, Int.reduceSub, Int.reduceMul, Int.reduceNeg] | with_reducible refine vIf_t ?_ | with_reducible refine vIf_f ?_))
    (refine retK_of ?_; (repeat (first | simp (disch := omega) only [go_sem, ↓reduceIte, Nat.reduceEqDiff, Nat.reduceAdd, Nat.reduceMul, Nat.reduceSub, Int.reduceToNat, Int.reduceAdd, Int.reduceSub, Int.reduceMul, Int.reduceNeg] | with_reducible refine vIf_t ?_ | with_reducible refine vIf_f ?_)))
    try rfl
def vbC (l : Ld) (x : Int) : Int := if okL l = true then if decide (-2000 ≤ x ∧ x ≤ 2000) = true then 0 else 2 else 1
theorem volBelow_ok (l : Ld) (x : Int) (h : okL l = true) (hx : -2000 ≤ x ∧ x ≤ 2000) : ACalls Tryz.prog 75 [.agg (lC l), I x] [] (fun r o => r = .tup [I (llV l x), I 0] ∧ o = []) := by
  refine ACalls.of_vc Tryz.func75 rfl (by decide) 17 rfl [.tmp 4, .tmp 5] rfl (by simp) ?_
  have f := okL_F h
  have h1 := validL_ok l (by have := f.n; omega)
  have h2 := lv_ok x
  have h3 := lvol_ok l x f hx
  rw [h] at h1
  rw [decide_eq_true hx] at h2
  unfold lC at h1 h3 ⊢
  (repeat (first | simp (disch := omega) only [go_sem, ↓reduceIte, Nat.reduceEqDiff, Nat.reduceAdd, Nat.reduceMul, Nat.reduceSub, Int.reduceToNat, Int.reduceAdd, Int.reduceSub, Int.reduceMul, Int.reduceNeg] | with_reducible refine vIf_t ?_ | with_reducible refine vIf_f ?_))
  (refine vCallX_of ?_; (repeat (first | simp (disch := omega) only [go_sem, ↓reduceIte, Nat.reduceEqDiff, Nat.reduceAdd, Nat.reduceMul, Nat.reduceSub, Int.reduceToNat, Int.reduceAdd, Int.reduceSub, Int.reduceMul, Int.reduceNeg] | with_reducible refine vIf_t ?_ | with_reducible refine vIf_f ?_)); refine vCall_eq (h1) (by simp (disch := omega) only [go_sem, Nat.reduceAdd]) rfl (by first | exact Or.inl rfl | exact Or.inr ⟨rfl, rfl⟩ | (apply Or.inr; simp only [go_sem])) ?_; (repeat (first | simp (disch := omega) only [go_sem, ↓reduceIte, Nat.reduceEqDiff, Nat.reduceAdd, Nat.reduceMul, Nat.reduceSub, Int.reduceToNat, Int.reduceAdd, Int.reduceSub, Int.reduceMul, Int.reduceNeg] | with_reducible refine vIf_t ?_ | with_reducible refine vIf_f ?_)))
  (refine vCallX_of ?_; (repeat (first | simp (disch := omega) only [go_sem, ↓reduceIte, Nat.reduceEqDiff, Nat.reduceAdd, Nat.reduceMul, Nat.reduceSub, Int.reduceToNat, Int.reduceAdd, Int.reduceSub, Int.reduceMul, Int.reduceNeg] | with_reducible refine vIf_t ?_ | with_reducible refine vIf_f ?_)); refine vCall_eq (h2) (by simp (disch := omega) only [go_sem, Nat.reduceAdd]) rfl (by first | exact Or.inl rfl | exact Or.inr ⟨rfl, rfl⟩ | (apply Or.inr; simp only [go_sem])) ?_; (repeat (first | simp (disch := omega) only [go_sem, ↓reduceIte, Nat.reduceEqDiff, Nat.reduceAdd, Nat.reduceMul, Nat.reduceSub, Int.reduceToNat, Int.reduceAdd, Int.reduceSub, Int.reduceMul, Int.reduceNeg] | with_reducible refine vIf_t ?_ | with_reducible refine vIf_f ?_)))
  (refine vCallX_of ?_; (repeat (first | simp (disch := omega) only [go_sem, ↓reduceIte, Nat.reduceEqDiff, Nat.reduceAdd, Nat.reduceMul, Nat.reduceSub, Int.reduceToNat, Int.reduceAdd, Int.reduceSub, Int.reduceMul, Int.reduceNeg] | with_reducible refine vIf_t ?_ | with_reducible refine vIf_f ?_)); refine vCall_eq (h3) (by simp (disch := omega) only [go_sem, Nat.reduceAdd]) rfl (by first | exact Or.inl rfl | exact Or.inr ⟨rfl, rfl⟩ | (apply Or.inr; simp only [go_sem])) ?_; (repeat (first | simp (disch := omega) only [go_sem, ↓reduceIte, Nat.reduceEqDiff, Nat.reduceAdd, Nat.reduceMul, Nat.reduceSub, Int.reduceToNat, Int.reduceAdd, Int.reduceSub, Int.reduceMul, Int.reduceNeg] | with_reducible refine vIf_t ?_ | with_reducible refine vIf_f ?_)))
  (refine retK_of ?_; (repeat (first | simp (disch := omega) only [go_sem, ↓reduceIte, Nat.reduceEqDiff, Nat.reduceAdd, Nat.reduceMul, Nat.reduceSub, Int.reduceToNat, Int.reduceAdd, Int.reduceSub, Int.reduceMul, Int.reduceNeg] | with_reducible refine vIf_t ?_ | with_reducible refine vIf_f ?_)))
/-! curves of lands -/
def clv (fr st : Int) (k : Nat) : Int := fr + (k : Int) * st
theorem clv_0 (fr st : Int) : clv fr st 0 = fr := by simp [clv]
theorem clv_s (fr st : Int) (k : Nat) : clv fr st (k + 1) = clv fr st k + st := by simp only [clv]; push_cast; rw [Int.add_mul]; omega
theorem clv_ge {fr st : Int} (h : 0 ≤ st) (k : Nat) : fr ≤ clv fr st k := by
  have := Int.mul_nonneg (show (0 : Int) ≤ k by omega) h
  unfold clv
  omega
def clM (fr tp st : Int) : Nat := ((tp - fr + st - 1) / st).toNat
theorem clM_iff {fr tp st : Int} (h : 1 ≤ st) (hft : fr < tp) (k : Nat) : k < clM fr tp st ↔ clv fr st k < tp := by
  have e : k < clM fr tp st ↔ (k : Int) + 1 ≤ (tp - fr + st - 1) / st := by unfold clM; omega
  rw [e, Int.le_ediv_iff_mul_le (by omega), Int.add_mul]
  unfold clv
  omega
def clL (fr st : Int) (k : Nat) : List Int := (List.range k).map (clv fr st)
theorem clL_0 (fr st : Int) : clL fr st 0 = [] := rfl
theorem clL_s (fr st : Int) (k : Nat) : clL fr st (k + 1) = clL fr st k ++ [clv fr st k] := by simp [clL, List.range_succ]
theorem clL_len (fr st : Int) (k : Nat) : (clL fr st k).length = k := by simp [clL]
theorem clM_pos {fr tp st : Int} (h : 1 ≤ st) (hft : fr < tp) : 1 ≤ clM fr tp st := by
  have := (clM_iff h hft 0).2 (by rw [clv_0]; exact hft)
  omega
theorem clM_le {fr tp st : Int} (h : 1 ≤ st) (hft : fr < tp) (k : Nat) (hk : k ≤ clM fr tp st) : (k : Int) ≤ tp - fr := by
  cases k with
  | zero => omega
  | succ k =>
    have := (clM_iff h hft k).1 (by omega)
    have := Int.mul_le_mul_of_nonneg_left h (show (0 : Int) ≤ k by omega)
    unfold clv at *
    push_cast
    omega
def coL (fr tp st : Int) : List Int := clL fr st (clM fr tp st) ++ [tp]
theorem coL_len (fr tp st : Int) : (coL fr tp st).length = clM fr tp st + 1 := by simp [coL, clL_len]
theorem coL_bd {fr tp st : Int} (h : 1 ≤ st) (hft : fr < tp) (k : Nat) (hk : k < (coL fr tp st).length) : fr ≤ gi (coL fr tp st) k ∧ gi (coL fr tp st) k ≤ tp := by
  rw [coL_len] at hk
  unfold coL
  by_cases e : k < clM fr tp st
  · rw [gi_append_left _ _ _ (by rw [clL_len]; exact e), gi_lt _ _ (by rw [clL_len]; exact e)]
    simp only [clL, List.getElem_map, List.getElem_range]
    have := (clM_iff h hft k).1 e
    have := clv_ge (fr := fr) (show 0 ≤ st by omega) k
    omega
  · have ek : k = clM fr tp st := by omega
    rw [gi_append_right _ _ _ (by rw [clL_len]; omega), clL_len, ek, Nat.sub_self]
    simp only [gi, List.getD_cons_zero]
    omega
def coW (l : Ld) (fr tp st : Int) (k : Nat) : List Int := ((coL fr tp st).take k).map fun x => llV l x - llV l fr
def coC (l : Ld) (fr tp st : Int) : Cv := ⟨coL fr tp st, (coL fr tp st).map fun x => llV l x - llV l fr⟩
def coR (fr tp st : Int) : Prop := (-2000 ≤ fr ∧ fr ≤ 2000) ∧ (-2000 ≤ tp ∧ tp ≤ 2000) ∧ fr < tp ∧ (1 ≤ st ∧ st ≤ 4000)
instance (fr tp st : Int) : Decidable (coR fr tp st) := by unfold coR; infer_instance
def coK (l : Ld) (fr tp st : Int) : Int := if okL l = true then if coR fr tp st then if 12 < (coL fr tp st).length then 5 else if okC (coC l fr tp st) = true then 0 else 6 else 2 else 1
def coV (l : Ld) (fr tp st : Int) : Cv := if coK l fr tp st = 0 then coC l fr tp st else ⟨[], []⟩
theorem coK_1 {l : Ld} {fr tp st : Int} (h : okL l = false) : coK l fr tp st = 1 := by unfold coK; rw [if_neg (by simp [h])]
theorem coK_2 {l : Ld} {fr tp st : Int} (h : okL l = true) (hr : ¬ coR fr tp st) : coK l fr tp st = 2 := by unfold coK; rw [if_pos h, if_neg hr]
theorem coK_5 {l : Ld} {fr tp st : Int} (h : okL l = true) (hr : coR fr tp st) (hl : 12 < (coL fr tp st).length) : coK l fr tp st = 5 := by unfold coK; rw [if_pos h, if_pos hr, if_pos hl]
theorem coK_6 {l : Ld} {fr tp st : Int} (h : okL l = true) (hr : coR fr tp st) (hl : ¬ 12 < (coL fr tp st).length) (hc : okC (coC l fr tp st) = false) : coK l fr tp st = 6 := by unfold coK; rw [if_pos h, if_pos hr, if_neg hl, if_neg (by simp [hc])]
theorem coK_0 {l : Ld} {fr tp st : Int} (h : okL l = true) (hr : coR fr tp st) (hl : ¬ 12 < (coL fr tp st).length) (hc : okC (coC l fr tp st) = true) : coK l fr tp st = 0 := by unfold coK; rw [if_pos h, if_pos hr, if_neg hl, if_pos hc]
def coQ (l : Ld) (fr tp st : Int) (r : V) (o : List (Option Ob)) : Prop := (coK l fr tp st = 0 ∧ r = .tup [.agg (coC l fr tp st).cells, I 0] ∧ o = []) ∨ (coK l fr tp st ≠ 0 ∧ r = .tup [.agg [nilS, nilS], I (coK l fr tp st)] ∧ o = [])
theorem coQ_D {l : Ld} {fr tp st : Int} {r : V} {o : List (Option Ob)} (h : coQ l fr tp st r o) : ∃ r', LeD r r' ∧ (r' = .tup [.agg (coV l fr tp st).cells, I (coK l fr tp st)] ∧ o = []) := by
  rcases h with ⟨h1, rfl, rfl⟩ | ⟨h1, rfl, rfl⟩
  · rw [coV, if_pos h1, h1]; exact ⟨_, .le (V.le_refl _), rfl, rfl⟩
  · rw [coV, if_neg h1]; exact ⟨_, .tup' (leD_cons (.agg' (leD_nilS (leD_nilS leD_nil))) (leD_same _ leD_nil)), rfl, rfl⟩
theorem coQ_n {l : Ld} {fr tp st k : Int} (h : coK l fr tp st = k) (hk : k ≠ 0) : coQ l fr tp st (.tup [.agg [nilS, nilS], I k]) [] := .inr ⟨by omega, by rw [h], rfl⟩
def coS (l : Ld) (fr tp st : Int) : Nat → AState
  | 0 => ⟨91, 0, [(4, .ptr 0 0), (8, .ptr 1 0), (10, .ptr 2 0), (3, I st), (11, I fr), (1, I fr), (2, I tp)], [some ⟨3, lC l⟩, some ⟨2, [nilS, nilS]⟩, some ⟨2, [nilS, nilS]⟩]⟩
  | k + 1 => ⟨91, 0, [(4, .ptr 0 0), (8, .ptr 1 0), (10, .ptr 2 0), (3, I st), (11, I (clv fr st (k + 1))), (1, I fr), (2, I tp)], [some ⟨3, lC l⟩, some ⟨2, [nilS, nilS]⟩, some ⟨2, [.ref 3 0 (k + 1), nilS]⟩, oI (clL fr st (k + 1))]⟩
theorem coS_0 (l : Ld) (fr tp st : Int) : coS l fr tp st 0 = ⟨91, 0, [(4, .ptr 0 0), (8, .ptr 1 0), (10, .ptr 2 0), (3, I st), (11, I fr), (1, I fr), (2, I tp)], [some ⟨3, lC l⟩, some ⟨2, [nilS, nilS]⟩, some ⟨2, [nilS, nilS]⟩]⟩ := rfl
theorem coS_s (l : Ld) (fr tp st : Int) (k : Nat) : coS l fr tp st (k + 1) = ⟨91, 0, [(4, .ptr 0 0), (8, .ptr 1 0), (10, .ptr 2 0), (3, I st), (11, I (clv fr st (k + 1))), (1, I fr), (2, I tp)], [some ⟨3, lC l⟩, some ⟨2, [nilS, nilS]⟩, some ⟨2, [.ref 3 0 (k + 1), nilS]⟩, oI (clL fr st (k + 1))]⟩ := rfl
def coT (l : Ld) (fr tp st : Int) : Nat → AState
  | 0 => ⟨91, 0, [(62, I 0), (4, .ptr 0 0), (8, .ptr 1 0), (10, .ptr 2 0), (60, .ref 3 0 (clM fr tp st + 1)), (1, I fr), (61, I (clM fr tp st + 1 : Nat))], [some ⟨3, lC l⟩, some ⟨2, [nilS, nilS]⟩, some ⟨2, [.ref 3 0 (clM fr tp st + 1), nilS]⟩, oI (coL fr tp st)]⟩
  | k + 1 => ⟨91, 0, [(62, I (k + 1 : Nat)), (4, .ptr 0 0), (8, .ptr 1 0), (10, .ptr 2 0), (60, .ref 3 0 (clM fr tp st + 1)), (1, I fr), (61, I (clM fr tp st + 1 : Nat))], [some ⟨3, lC l⟩, some ⟨2, [nilS, nilS]⟩, some ⟨2, [.ref 3 0 (clM fr tp st + 1), .ref 4 0 (k + 1)]⟩, oI (coL fr tp st), oI (coW l fr tp st (k + 1))]⟩
theorem coT_0 (l : Ld) (fr tp st : Int) : coT l fr tp st 0 = ⟨91, 0, [(62, I 0), (4, .ptr 0 0), (8, .ptr 1 0), (10, .ptr 2 0), (60, .ref 3 0 (clM fr tp st + 1)), (1, I fr), (61, I (clM fr tp st + 1 : Nat))], [some ⟨3, lC l⟩, some ⟨2, [nilS, nilS]⟩, some ⟨2, [.ref 3 0 (clM fr tp st + 1), nilS]⟩, oI (coL fr tp st)]⟩ := rfl
theorem coT_s (l : Ld) (fr tp st : Int) (k : Nat) : coT l fr tp st (k + 1) = ⟨91, 0, [(62, I (k + 1 : Nat)), (4, .ptr 0 0), (8, .ptr 1 0), (10, .ptr 2 0), (60, .ref 3 0 (clM fr tp st + 1)), (1, I fr), (61, I (clM fr tp st + 1 : Nat))], [some ⟨3, lC l⟩, some ⟨2, [nilS, nilS]⟩, some ⟨2, [.ref 3 0 (clM fr tp st + 1), .ref 4 0 (k + 1)]⟩, oI (coL fr tp st), oI (coW l fr tp st (k + 1))]⟩ := rfl
theorem coW_s {l : Ld} {fr tp st : Int} (k : Nat) (hk : k < (coL fr tp st).length) : coW l fr tp st (k + 1) = coW l fr tp st k ++ [llV l (gi (coL fr tp st) k) - llV l fr] := by
  unfold coW
  rw [take_succ_gi _ _ hk]
  simp
theorem coW_len {l : Ld} {fr tp st : Int} (k : Nat) (hk : k ≤ (coL fr tp st).length) : (coW l fr tp st k).length = k := by
  simp [coW]
  omega
theorem coW_all {l : Ld} {fr tp st : Int} : coW l fr tp st (clM fr tp st + 1) = (coC l fr tp st).vl := by
  unfold coW coC
  rw [List.take_of_length_le (by rw [coL_len]; omega)]
set_option maxRecDepth 20000 in
set_option maxHeartbeats 8000000 in
theorem curveOfLand_ok (l : Ld) (fr tp st : Int) (hl : l.hs.length ≤ 10000000) : ACalls Tryz.prog 55 [.agg (lC l), I fr, I tp, I st] [] (fun r o => r = .tup [.agg (coV l fr tp st).cells, I (coK l fr tp st)] ∧ o = []) := by
  refine ACalls.leD (Q := coQ l fr tp st) ?_ (fun r o h => coQ_D h)
  refine ACalls.of_vc Tryz.func55 rfl (by decide) 91 rfl [.cell 8 71, .tmp 9] rfl (by simp) ?_
  have h1 := validL_ok l hl
  cases e1 : okL l with
  | false =>
    rw [e1] at h1
    unfold lC at h1 ⊢
    (repeat (first | simp (disch := omega) only [go_sem, ↓reduceIte, Nat.reduceEqDiff, Nat.reduceAdd, Nat.reduceMul, Nat.reduceSub, Int.reduceToNat, Int.reduceAdd, Int.reduceSub, Int.reduceMul, Int.reduceNeg] | with_reducible refine vIf_t ?_ | with_reducible refine vIf_f ?_))
    (refine vCallX_of ?_; (repeat (first | simp (disch := omega) only [go_sem, ↓reduceIte, Nat.reduceEqDiff, Nat.reduceAdd, Nat.reduceMul, Nat.reduceSub, Int.reduceToNat, Int.reduceAdd, Int.reduceSub, Int.reduceMul, Int.reduceNeg] | with_reducible refine vIf_t ?_ | with_reducible refine vIf_f ?_)); refine vCall_eq (h1) (by simp (disch := omega) only [go_sem, Nat.reduceAdd]) rfl (by first | exact Or.inl rfl | exact Or.inr ⟨rfl, rfl⟩ | (apply Or.inr; simp only [go_sem])) ?_; (repeat (first | simp (disch := omega) only [go_sem, ↓reduceIte, Nat.reduceEqDiff, Nat.reduceAdd, Nat.reduceMul, Nat.reduceSub, Int.reduceToNat, Int.reduceAdd, Int.reduceSub, Int.reduceMul, Int.reduceNeg] | with_reducible refine vIf_t ?_ | with_reducible refine vIf_f ?_)))
    (refine retK_of ?_; (repeat (first | simp (disch := omega) only [go_sem, ↓reduceIte, Nat.reduceEqDiff, Nat.reduceAdd, Nat.reduceMul, Nat.reduceSub, Int.reduceToNat, Int.reduceAdd, Int.reduceSub, Int.reduceMul, Int.reduceNeg] | with_reducible refine vIf_t ?_ | with_reducible refine vIf_f ?_)))
    exact coQ_n (coK_1 e1) (by decide)
  | true =>
    have f := okL_F e1
    rw [e1] at h1
    have g1 := lv_ok fr
    have g2 := lv_ok tp
    have g3 := in_ok st 1 4000
    have no : ¬ coR fr tp st → coQ l fr tp st (.tup [.agg [nilS, nilS], I 2]) [] := fun h => coQ_n (coK_2 e1 h) (by decide)
    unfold lC at h1
    rw [show lC l = [I l.rows, I l.cols, .sl l.hs.length (ints l.hs)] from rfl]
    (repeat (first | simp (disch := omega) only [go_sem, ↓reduceIte, Nat.reduceEqDiff, Nat.reduceAdd, Nat.reduceMul, Nat.reduceSub, Int.reduceToNat, Int.reduceAdd, Int.reduceSub, Int.reduceMul, Int.reduceNeg] | with_reducible refine vIf_t ?_ | with_reducible refine vIf_f ?_))
    (refine vCallX_of ?_; (repeat (first | simp (disch := omega) only [go_sem, ↓reduceIte, Nat.reduceEqDiff, Nat.reduceAdd, Nat.reduceMul, Nat.reduceSub, Int.reduceToNat, Int.reduceAdd, Int.reduceSub, Int.reduceMul, Int.reduceNeg] | with_reducible refine vIf_t ?_ | with_reducible refine vIf_f ?_)); refine vCall_eq (h1) (by simp (disch := omega) only [go_sem, Nat.reduceAdd]) rfl (by first | exact Or.inl rfl | exact Or.inr ⟨rfl, rfl⟩ | (apply Or.inr; simp only [go_sem])) ?_; (repeat (first | simp (disch := omega) only [go_sem, ↓reduceIte, Nat.reduceEqDiff, Nat.reduceAdd, Nat.reduceMul, Nat.reduceSub, Int.reduceToNat, Int.reduceAdd, Int.reduceSub, Int.reduceMul, Int.reduceNeg] | with_reducible refine vIf_t ?_ | with_reducible refine vIf_f ?_)))
    (refine vCallX_of ?_; (repeat (first | simp (disch := omega) only [go_sem, ↓reduceIte, Nat.reduceEqDiff, Nat.reduceAdd, Nat.reduceMul, Nat.reduceSub, Int.reduceToNat, Int.reduceAdd, Int.reduceSub, Int.reduceMul, Int.reduceNeg] | with_reducible refine vIf_t ?_ | with_reducible refine vIf_f ?_)); refine vCall_eq (g1) (by simp (disch := omega) only [go_sem, Nat.reduceAdd]) rfl (by first | exact Or.inl rfl | exact Or.inr ⟨rfl, rfl⟩ | (apply Or.inr; simp only [go_sem])) ?_; (repeat (first | simp (disch := omega) only [go_sem, ↓reduceIte, Nat.reduceEqDiff, Nat.reduceAdd, Nat.reduceMul, Nat.reduceSub, Int.reduceToNat, Int.reduceAdd, Int.reduceSub, Int.reduceMul, Int.reduceNeg] | with_reducible refine vIf_t ?_ | with_reducible refine vIf_f ?_)))
    by_cases c1 : -2000 ≤ fr ∧ fr ≤ 2000
    case neg =>
      have d1 := decide_eq_false c1
      (try (repeat (first | simp (disch := omega) only [go_sem, ↓reduceIte, Nat.reduceEqDiff, Nat.reduceAdd, Nat.reduceMul, Nat.reduceSub, Int.reduceToNat, Int.reduceAdd, Int.reduceSub, Int.reduceMul, Int.reduceNeg, d1] | with_reducible refine vIf_t ?_ | with_reducible refine vIf_f ?_)))
      (refine retK_of ?_; (repeat (first | simp (disch := omega) only [go_sem, ↓reduceIte, Nat.reduceEqDiff, Nat.reduceAdd, Nat.reduceMul, Nat.reduceSub, Int.reduceToNat, Int.reduceAdd, Int.reduceSub, Int.reduceMul, Int.reduceNeg] | with_reducible refine vIf_t ?_ | with_reducible refine vIf_f ?_)))
      exact no fun h => c1 h.1
    have d1 := decide_eq_true c1
    (try (repeat (first | simp (disch := omega) only [go_sem, ↓reduceIte, Nat.reduceEqDiff, Nat.reduceAdd, Nat.reduceMul, Nat.reduceSub, Int.reduceToNat, Int.reduceAdd, Int.reduceSub, Int.reduceMul, Int.reduceNeg, d1] | with_reducible refine vIf_t ?_ | with_reducible refine vIf_f ?_)))
    (refine vCallX_of ?_; (repeat (first | simp (disch := omega) only [go_sem, ↓reduceIte, Nat.reduceEqDiff, Nat.reduceAdd, Nat.reduceMul, Nat.reduceSub, Int.reduceToNat, Int.reduceAdd, Int.reduceSub, Int.reduceMul, Int.reduceNeg] | with_reducible refine vIf_t ?_ | with_reducible refine vIf_f ?_)); refine vCall_eq (g2) (by simp (disch := omega) only [go_sem, Nat.reduceAdd]) rfl (by first | exact Or.inl rfl | exact Or.inr ⟨rfl, rfl⟩ | (apply Or.inr; simp only [go_sem])) ?_; (repeat (first | simp (disch := omega) only [go_sem, ↓reduceIte, Nat.reduceEqDiff, Nat.reduceAdd, Nat.reduceMul, Nat.reduceSub, Int.reduceToNat, Int.reduceAdd, Int.reduceSub, Int.reduceMul, Int.reduceNeg] | with_reducible refine vIf_t ?_ | with_reducible refine vIf_f ?_)))
    by_cases c2 : -2000 ≤ tp ∧ tp ≤ 2000
    case neg =>
      have d2 := decide_eq_false c2
      (try (repeat (first | simp (disch := omega) only [go_sem, ↓reduceIte, Nat.reduceEqDiff, Nat.reduceAdd, Nat.reduceMul, Nat.reduceSub, Int.reduceToNat, Int.reduceAdd, Int.reduceSub, Int.reduceMul, Int.reduceNeg, d2] | with_reducible refine vIf_t ?_ | with_reducible refine vIf_f ?_)))
      (refine retK_of ?_; (repeat (first | simp (disch := omega) only [go_sem, ↓reduceIte, Nat.reduceEqDiff, Nat.reduceAdd, Nat.reduceMul, Nat.reduceSub, Int.reduceToNat, Int.reduceAdd, Int.reduceSub, Int.reduceMul, Int.reduceNeg] | with_reducible refine vIf_t ?_ | with_reducible refine vIf_f ?_)))
      exact no fun h => c2 h.2.1
    have d2 := decide_eq_true c2
    (try (repeat (first | simp (disch := omega) only [go_sem, ↓reduceIte, Nat.reduceEqDiff, Nat.reduceAdd, Nat.reduceMul, Nat.reduceSub, Int.reduceToNat, Int.reduceAdd, Int.reduceSub, Int.reduceMul, Int.reduceNeg, d2] | with_reducible refine vIf_t ?_ | with_reducible refine vIf_f ?_)))
    by_cases c3 : fr < tp
    case neg =>
      have d3 : decide (tp ≤ fr) = true := decide_eq_true (by omega)
      (try (repeat (first | simp (disch := omega) only [go_sem, ↓reduceIte, Nat.reduceEqDiff, Nat.reduceAdd, Nat.reduceMul, Nat.reduceSub, Int.reduceToNat, Int.reduceAdd, Int.reduceSub, Int.reduceMul, Int.reduceNeg, d3] | with_reducible refine vIf_t ?_ | with_reducible refine vIf_f ?_)))
      (refine retK_of ?_; (repeat (first | simp (disch := omega) only [go_sem, ↓reduceIte, Nat.reduceEqDiff, Nat.reduceAdd, Nat.reduceMul, Nat.reduceSub, Int.reduceToNat, Int.reduceAdd, Int.reduceSub, Int.reduceMul, Int.reduceNeg] | with_reducible refine vIf_t ?_ | with_reducible refine vIf_f ?_)))
      exact no fun h => c3 h.2.2.1
    have d3 : decide (tp ≤ fr) = false := decide_eq_false (by omega)
    (try (repeat (first | simp (disch := omega) only [go_sem, ↓reduceIte, Nat.reduceEqDiff, Nat.reduceAdd, Nat.reduceMul, Nat.reduceSub, Int.reduceToNat, Int.reduceAdd, Int.reduceSub, Int.reduceMul, Int.reduceNeg, d3] | with_reducible refine vIf_t ?_ | with_reducible refine vIf_f ?_)))
    (refine vCallX_of ?_; (repeat (first | simp (disch := omega) only [go_sem, ↓reduceIte, Nat.reduceEqDiff, Nat.reduceAdd, Nat.reduceMul, Nat.reduceSub, Int.reduceToNat, Int.reduceAdd, Int.reduceSub, Int.reduceMul, Int.reduceNeg] | with_reducible refine vIf_t ?_ | with_reducible refine vIf_f ?_)); refine vCall_eq (g3) (by simp (disch := omega) only [go_sem, Nat.reduceAdd]) rfl (by first | exact Or.inl rfl | exact Or.inr ⟨rfl, rfl⟩ | (apply Or.inr; simp only [go_sem])) ?_; (repeat (first | simp (disch := omega) only [go_sem, ↓reduceIte, Nat.reduceEqDiff, Nat.reduceAdd, Nat.reduceMul, Nat.reduceSub, Int.reduceToNat, Int.reduceAdd, Int.reduceSub, Int.reduceMul, Int.reduceNeg] | with_reducible refine vIf_t ?_ | with_reducible refine vIf_f ?_)))
    by_cases c4 : 1 ≤ st ∧ st ≤ 4000
    case neg =>
      have d4 := decide_eq_false c4
      (try (repeat (first | simp (disch := omega) only [go_sem, ↓reduceIte, Nat.reduceEqDiff, Nat.reduceAdd, Nat.reduceMul, Nat.reduceSub, Int.reduceToNat, Int.reduceAdd, Int.reduceSub, Int.reduceMul, Int.reduceNeg, d4] | with_reducible refine vIf_t ?_ | with_reducible refine vIf_f ?_)))
      (refine retK_of ?_; (repeat (first | simp (disch := omega) only [go_sem, ↓reduceIte, Nat.reduceEqDiff, Nat.reduceAdd, Nat.reduceMul, Nat.reduceSub, Int.reduceToNat, Int.reduceAdd, Int.reduceSub, Int.reduceMul, Int.reduceNeg] | with_reducible refine vIf_t ?_ | with_reducible refine vIf_f ?_)))
      exact no fun h => c4 h.2.2.2
    have d4 := decide_eq_true c4
    have hR : coR fr tp st := ⟨c1, c2, c3, c4⟩
    have hmp := clM_pos c4.1 c3
    have hml := clM_le c4.1 c3 _ (Nat.le_refl _)
    have hcl := coL_len fr tp st
    (try (repeat (first | simp (disch := omega) only [go_sem, ↓reduceIte, Nat.reduceEqDiff, Nat.reduceAdd, Nat.reduceMul, Nat.reduceSub, Int.reduceToNat, Int.reduceAdd, Int.reduceSub, Int.reduceMul, Int.reduceNeg, d4] | with_reducible refine vIf_t ?_ | with_reducible refine vIf_f ?_)))
    refine vcLoop_invF (fun k : Nat => k ≤ clM fr tp st) (coS l fr tp st) (fun k => clM fr tp st - k) 0 (by omega) (by rw [coS_0]; unfold lC; (first | (refine leF_s ?_; ((repeat (first | simp (disch := omega) only [go_sem, ↓reduceIte, Nat.reduceEqDiff, Nat.reduceAdd, Nat.reduceMul, Nat.reduceSub, Int.reduceToNat, Int.reduceAdd, Int.reduceSub, Int.reduceMul, Int.reduceNeg] | with_reducible refine vIf_t ?_ | with_reducible refine vIf_f ?_)); all_goals (try simp); all_goals (try omega)); done) | (refine leF_p ?_; ((repeat (first | simp (disch := omega) only [go_sem, ↓reduceIte, Nat.reduceEqDiff, Nat.reduceAdd, Nat.reduceMul, Nat.reduceSub, Int.reduceToNat, Int.reduceAdd, Int.reduceSub, Int.reduceMul, Int.reduceNeg] | with_reducible refine vIf_t ?_ | with_reducible refine vIf_f ?_)); all_goals (try simp); all_goals (try omega)); done))) ?_
    intro k hk
    by_cases hkl : k < clM fr tp st
    · have hlt := (clM_iff c4.1 c3 k).1 hkl
      have hge := clv_ge (fr := fr) (show 0 ≤ st by omega) k
      have es := clv_s fr st k
      have et := clL_s fr st k
      have eln := clL_len fr st k
      cases k with
      | zero =>
        rw [clv_0] at hlt es et
        rw [clL_0, List.nil_append] at et
        have d5 : decide (fr < tp) = true := decide_eq_true c3
        rw [coS_0]
        unfold lC
        (repeat (first | simp (disch := omega) only [go_sem, ↓reduceIte, Nat.reduceEqDiff, Nat.reduceAdd, Nat.reduceMul, Nat.reduceSub, Int.reduceToNat, Int.reduceAdd, Int.reduceSub, Int.reduceMul, Int.reduceNeg] | with_reducible refine vIf_t ?_ | with_reducible refine vIf_f ?_))
        (try (repeat (first | simp (disch := omega) only [go_sem, ↓reduceIte, Nat.reduceEqDiff, Nat.reduceAdd, Nat.reduceMul, Nat.reduceSub, Int.reduceToNat, Int.reduceAdd, Int.reduceSub, Int.reduceMul, Int.reduceNeg, d5] | with_reducible refine vIf_t ?_ | with_reducible refine vIf_f ?_)))
        refine againF (0 + 1) (by omega) (by omega) ?_
        rw [coS_s, et, es]
        unfold lC
        (first | (refine leF_s ?_; ((repeat (first | simp (disch := omega) only [go_sem, ↓reduceIte, Nat.reduceEqDiff, Nat.reduceAdd, Nat.reduceMul, Nat.reduceSub, Int.reduceToNat, Int.reduceAdd, Int.reduceSub, Int.reduceMul, Int.reduceNeg] | with_reducible refine vIf_t ?_ | with_reducible refine vIf_f ?_)); all_goals (try simp); all_goals (try omega)); done) | (refine leF_p ?_; ((repeat (first | simp (disch := omega) only [go_sem, ↓reduceIte, Nat.reduceEqDiff, Nat.reduceAdd, Nat.reduceMul, Nat.reduceSub, Int.reduceToNat, Int.reduceAdd, Int.reduceSub, Int.reduceMul, Int.reduceNeg] | with_reducible refine vIf_t ?_ | with_reducible refine vIf_f ?_)); all_goals (try simp); all_goals (try omega)); done))
      | succ k =>
        have d5 : decide (clv fr st (k + 1) < tp) = true := decide_eq_true hlt
        rw [coS_s]
        unfold lC
        (repeat (first | simp (disch := omega) only [go_sem, ↓reduceIte, Nat.reduceEqDiff, Nat.reduceAdd, Nat.reduceMul, Nat.reduceSub, Int.reduceToNat, Int.reduceAdd, Int.reduceSub, Int.reduceMul, Int.reduceNeg] | with_reducible refine vIf_t ?_ | with_reducible refine vIf_f ?_))
        (try (repeat (first | simp (disch := omega) only [go_sem, ↓reduceIte, Nat.reduceEqDiff, Nat.reduceAdd, Nat.reduceMul, Nat.reduceSub, Int.reduceToNat, Int.reduceAdd, Int.reduceSub, Int.reduceMul, Int.reduceNeg, d5] | with_reducible refine vIf_t ?_ | with_reducible refine vIf_f ?_)))
        refine againF (k + 1 + 1) (by omega) (by omega) ?_
        rw [coS_s, et, es]
        unfold lC
        (first | (refine leF_s ?_; ((repeat (first | simp (disch := omega) only [go_sem, ↓reduceIte, Nat.reduceEqDiff, Nat.reduceAdd, Nat.reduceMul, Nat.reduceSub, Int.reduceToNat, Int.reduceAdd, Int.reduceSub, Int.reduceMul, Int.reduceNeg] | with_reducible refine vIf_t ?_ | with_reducible refine vIf_f ?_)); all_goals (try simp); all_goals (try omega)); done) | (refine leF_p ?_; ((repeat (first | simp (disch := omega) only [go_sem, ↓reduceIte, Nat.reduceEqDiff, Nat.reduceAdd, Nat.reduceMul, Nat.reduceSub, Int.reduceToNat, Int.reduceAdd, Int.reduceSub, Int.reduceMul, Int.reduceNeg] | with_reducible refine vIf_t ?_ | with_reducible refine vIf_f ?_)); all_goals (try simp); all_goals (try omega)); done))
    · have ek : k = clM fr tp st := by omega
      obtain ⟨m, hm⟩ : ∃ m, clM fr tp st = m + 1 := ⟨clM fr tp st - 1, by omega⟩
      have hnlt : ¬ clv fr st (m + 1) < tp := fun h => by
        have := (clM_iff c4.1 c3 (m + 1)).2 h
        omega
      have d5 : decide (clv fr st (m + 1) < tp) = false := decide_eq_false hnlt
      have eln := clL_len fr st (m + 1)
      have eL : clL fr st (m + 1) ++ [tp] = coL fr tp st := by rw [coL, hm]
      rw [ek, hm, coS_s]
      unfold lC
      (repeat (first | simp (disch := omega) only [go_sem, ↓reduceIte, Nat.reduceEqDiff, Nat.reduceAdd, Nat.reduceMul, Nat.reduceSub, Int.reduceToNat, Int.reduceAdd, Int.reduceSub, Int.reduceMul, Int.reduceNeg] | with_reducible refine vIf_t ?_ | with_reducible refine vIf_f ?_))
      (try (repeat (first | simp (disch := omega) only [go_sem, ↓reduceIte, Nat.reduceEqDiff, Nat.reduceAdd, Nat.reduceMul, Nat.reduceSub, Int.reduceToNat, Int.reduceAdd, Int.reduceSub, Int.reduceMul, Int.reduceNeg, d5] | with_reducible refine vIf_t ?_ | with_reducible refine vIf_f ?_)))
      (try (repeat (first | simp (disch := omega) only [go_sem, ↓reduceIte, Nat.reduceEqDiff, Nat.reduceAdd, Nat.reduceMul, Nat.reduceSub, Int.reduceToNat, Int.reduceAdd, Int.reduceSub, Int.reduceMul, Int.reduceNeg, eL] | with_reducible refine vIf_t ?_ | with_reducible refine vIf_f ?_)))
      refine vcLoop_invF (fun k : Nat => k ≤ m + 2) (coT l fr tp st) (fun k => m + 2 - k) 0 (by omega) (by rw [coT_0, hm]; unfold lC; (first | (refine leF_s ?_; ((repeat (first | simp (disch := omega) only [go_sem, ↓reduceIte, Nat.reduceEqDiff, Nat.reduceAdd, Nat.reduceMul, Nat.reduceSub, Int.reduceToNat, Int.reduceAdd, Int.reduceSub, Int.reduceMul, Int.reduceNeg] | with_reducible refine vIf_t ?_ | with_reducible refine vIf_f ?_)); all_goals (try simp); all_goals (try omega)); done) | (refine leF_p ?_; ((repeat (first | simp (disch := omega) only [go_sem, ↓reduceIte, Nat.reduceEqDiff, Nat.reduceAdd, Nat.reduceMul, Nat.reduceSub, Int.reduceToNat, Int.reduceAdd, Int.reduceSub, Int.reduceMul, Int.reduceNeg] | with_reducible refine vIf_t ?_ | with_reducible refine vIf_f ?_)); all_goals (try simp); all_goals (try omega)); done))) ?_
      intro k hk
      by_cases hkl : k < m + 2
      · have hkL : k < (coL fr tp st).length := by omega
        have hgb := coL_bd c4.1 c3 k hkL
        have v1 := lvol_ok l (gi (coL fr tp st) k) f (by omega)
        have v2 := lvol_ok l fr f c1
        have b1 := llV_bd f (show -2000 ≤ gi (coL fr tp st) k ∧ gi (coL fr tp st) k ≤ 2000 by omega)
        have b2 := llV_bd f c1
        have ew := coW_s (l := l) k hkL
        have ewl := coW_len (l := l) (fr := fr) (tp := tp) (st := st) k (by omega)
        unfold lC at v1 v2
        cases k with
        | zero =>
          rw [show coW l fr tp st 0 = [] from rfl, List.nil_append] at ew
          rw [coT_0, hm]
          unfold lC
          (repeat (first | simp (disch := omega) only [go_sem, ↓reduceIte, Nat.reduceEqDiff, Nat.reduceAdd, Nat.reduceMul, Nat.reduceSub, Int.reduceToNat, Int.reduceAdd, Int.reduceSub, Int.reduceMul, Int.reduceNeg] | with_reducible refine vIf_t ?_ | with_reducible refine vIf_f ?_))
          (refine vDraw_sch 10 [(0, false), (3, false), (6, false), (1, false), (2, false), (5, false), (4, false), (7, false), (8, false), (9, false)] mixed (by kernel_rfl) ?_; simp only [List.cons_append, List.nil_append, List.map_cons, List.map_nil, nthO_zero, nthO_succ, List.drop_succ_cons, List.drop_zero, List.drop_nil]; (repeat (first | simp (disch := omega) only [go_sem, ↓reduceIte, Nat.reduceEqDiff, Nat.reduceAdd, Nat.reduceMul, Nat.reduceSub, Int.reduceToNat, Int.reduceAdd, Int.reduceSub, Int.reduceMul, Int.reduceNeg] | with_reducible refine vIf_t ?_ | with_reducible refine vIf_f ?_)))
          (refine vsCallX_of ?_; (try (repeat (first | simp (disch := omega) only [go_sem, ↓reduceIte, Nat.reduceEqDiff, Nat.reduceAdd, Nat.reduceMul, Nat.reduceSub, Int.reduceToNat, Int.reduceAdd, Int.reduceSub, Int.reduceMul, Int.reduceNeg] | with_reducible refine vIf_t ?_ | with_reducible refine vIf_f ?_))); refine vCall_eq (v1) (by simp (disch := omega) only [go_sem, Nat.reduceAdd]) rfl (by first | exact Or.inl rfl | exact Or.inr ⟨rfl, rfl⟩ | (apply Or.inr; simp only [go_sem])) ?_; (try (repeat (first | simp (disch := omega) only [go_sem, ↓reduceIte, Nat.reduceEqDiff, Nat.reduceAdd, Nat.reduceMul, Nat.reduceSub, Int.reduceToNat, Int.reduceAdd, Int.reduceSub, Int.reduceMul, Int.reduceNeg] | with_reducible refine vIf_t ?_ | with_reducible refine vIf_f ?_))))
          (refine vsCallX_of ?_; (try (repeat (first | simp (disch := omega) only [go_sem, ↓reduceIte, Nat.reduceEqDiff, Nat.reduceAdd, Nat.reduceMul, Nat.reduceSub, Int.reduceToNat, Int.reduceAdd, Int.reduceSub, Int.reduceMul, Int.reduceNeg] | with_reducible refine vIf_t ?_ | with_reducible refine vIf_f ?_))); refine vCall_eq (v2) (by simp (disch := omega) only [go_sem, Nat.reduceAdd]) rfl (by first | exact Or.inl rfl | exact Or.inr ⟨rfl, rfl⟩ | (apply Or.inr; simp only [go_sem])) ?_; (try (repeat (first | simp (disch := omega) only [go_sem, ↓reduceIte, Nat.reduceEqDiff, Nat.reduceAdd, Nat.reduceMul, Nat.reduceSub, Int.reduceToNat, Int.reduceAdd, Int.reduceSub, Int.reduceMul, Int.reduceNeg] | with_reducible refine vIf_t ?_ | with_reducible refine vIf_f ?_))))
          (try (repeat (first | simp (disch := omega) only [go_sem, ↓reduceIte, Nat.reduceEqDiff, Nat.reduceAdd, Nat.reduceMul, Nat.reduceSub, Int.reduceToNat, Int.reduceAdd, Int.reduceSub, Int.reduceMul, Int.reduceNeg] | with_reducible refine vIf_t ?_ | with_reducible refine vIf_f ?_)))
          refine againF (0 + 1) (by omega) (by omega) ?_
          rw [coT_s, ew, hm]
          unfold lC
          (first | (refine leF_s ?_; ((repeat (first | simp (disch := omega) only [go_sem, ↓reduceIte, Nat.reduceEqDiff, Nat.reduceAdd, Nat.reduceMul, Nat.reduceSub, Int.reduceToNat, Int.reduceAdd, Int.reduceSub, Int.reduceMul, Int.reduceNeg] | with_reducible refine vIf_t ?_ | with_reducible refine vIf_f ?_)); all_goals (try simp); all_goals (try omega)); done) | (refine leF_p ?_; ((repeat (first | simp (disch := omega) only [go_sem, ↓reduceIte, Nat.reduceEqDiff, Nat.reduceAdd, Nat.reduceMul, Nat.reduceSub, Int.reduceToNat, Int.reduceAdd, Int.reduceSub, Int.reduceMul, Int.reduceNeg] | with_reducible refine vIf_t ?_ | with_reducible refine vIf_f ?_)); all_goals (try simp); all_goals (try omega)); done))
        | succ k =>
          have hk1 : ((k : Int) + 1).toNat = k + 1 := by omega
          rw [coT_s, hm]
          unfold lC
          (repeat (first | simp (disch := omega) only [go_sem, ↓reduceIte, Nat.reduceEqDiff, Nat.reduceAdd, Nat.reduceMul, Nat.reduceSub, Int.reduceToNat, Int.reduceAdd, Int.reduceSub, Int.reduceMul, Int.reduceNeg, hk1] | with_reducible refine vIf_t ?_ | with_reducible refine vIf_f ?_))
          (refine vDraw_sch 10 [(0, false), (3, false), (6, false), (1, false), (2, false), (5, false), (4, false), (7, false), (8, false), (9, false)] mixed (by kernel_rfl) ?_; simp only [List.cons_append, List.nil_append, List.map_cons, List.map_nil, nthO_zero, nthO_succ, List.drop_succ_cons, List.drop_zero, List.drop_nil]; (repeat (first | simp (disch := omega) only [go_sem, ↓reduceIte, Nat.reduceEqDiff, Nat.reduceAdd, Nat.reduceMul, Nat.reduceSub, Int.reduceToNat, Int.reduceAdd, Int.reduceSub, Int.reduceMul, Int.reduceNeg] | with_reducible refine vIf_t ?_ | with_reducible refine vIf_f ?_)))
          (refine vsCallX_of ?_; (try (repeat (first | simp (disch := omega) only [go_sem, ↓reduceIte, Nat.reduceEqDiff, Nat.reduceAdd, Nat.reduceMul, Nat.reduceSub, Int.reduceToNat, Int.reduceAdd, Int.reduceSub, Int.reduceMul, Int.reduceNeg] | with_reducible refine vIf_t ?_ | with_reducible refine vIf_f ?_))); refine vCall_eq (v1) (by simp (disch := omega) only [go_sem, Nat.reduceAdd]) rfl (by first | exact Or.inl rfl | exact Or.inr ⟨rfl, rfl⟩ | (apply Or.inr; simp only [go_sem])) ?_; (try (repeat (first | simp (disch := omega) only [go_sem, ↓reduceIte, Nat.reduceEqDiff, Nat.reduceAdd, Nat.reduceMul, Nat.reduceSub, Int.reduceToNat, Int.reduceAdd, Int.reduceSub, Int.reduceMul, Int.reduceNeg] | with_reducible refine vIf_t ?_ | with_reducible refine vIf_f ?_))))
          (refine vsCallX_of ?_; (try (repeat (first | simp (disch := omega) only [go_sem, ↓reduceIte, Nat.reduceEqDiff, Nat.reduceAdd, Nat.reduceMul, Nat.reduceSub, Int.reduceToNat, Int.reduceAdd, Int.reduceSub, Int.reduceMul, Int.reduceNeg] | with_reducible refine vIf_t ?_ | with_reducible refine vIf_f ?_))); refine vCall_eq (v2) (by simp (disch := omega) only [go_sem, Nat.reduceAdd]) rfl (by first | exact Or.inl rfl | exact Or.inr ⟨rfl, rfl⟩ | (apply Or.inr; simp only [go_sem])) ?_; (try (repeat (first | simp (disch := omega) only [go_sem, ↓reduceIte, Nat.reduceEqDiff, Nat.reduceAdd, Nat.reduceMul, Nat.reduceSub, Int.reduceToNat, Int.reduceAdd, Int.reduceSub, Int.reduceMul, Int.reduceNeg] | with_reducible refine vIf_t ?_ | with_reducible refine vIf_f ?_))))
          (try (repeat (first | simp (disch := omega) only [go_sem, ↓reduceIte, Nat.reduceEqDiff, Nat.reduceAdd, Nat.reduceMul, Nat.reduceSub, Int.reduceToNat, Int.reduceAdd, Int.reduceSub, Int.reduceMul, Int.reduceNeg, hk1] | with_reducible refine vIf_t ?_ | with_reducible refine vIf_f ?_)))
          refine againF (k + 1 + 1) (by omega) (by omega) ?_
          rw [coT_s, ew, hm]
          unfold lC
          (first | (refine leF_s ?_; ((repeat (first | simp (disch := omega) only [go_sem, ↓reduceIte, Nat.reduceEqDiff, Nat.reduceAdd, Nat.reduceMul, Nat.reduceSub, Int.reduceToNat, Int.reduceAdd, Int.reduceSub, Int.reduceMul, Int.reduceNeg] | with_reducible refine vIf_t ?_ | with_reducible refine vIf_f ?_)); all_goals (try simp); all_goals (try omega)); done) | (refine leF_p ?_; ((repeat (first | simp (disch := omega) only [go_sem, ↓reduceIte, Nat.reduceEqDiff, Nat.reduceAdd, Nat.reduceMul, Nat.reduceSub, Int.reduceToNat, Int.reduceAdd, Int.reduceSub, Int.reduceMul, Int.reduceNeg] | with_reducible refine vIf_t ?_ | with_reducible refine vIf_f ?_)); all_goals (try simp); all_goals (try omega)); done))
      · have ek : k = m + 1 + 1 := by omega
        have eW := coW_all (l := l) (fr := fr) (tp := tp) (st := st)
        rw [hm] at eW
        have eV : (coC l fr tp st).lv = coL fr tp st := rfl
        have evl : (coC l fr tp st).vl.length = m + 1 + 1 := by simp [coC, hcl, hm]
        have hv := validC_ok (coC l fr tp st) (by rw [eV]; omega) (by omega)
        unfold Cv.cells at hv
        rw [evl, eV, hcl, hm] at hv
        rw [ek, coT_s, eW, hm]
        unfold lC
        (repeat (first | simp (disch := omega) only [go_sem, ↓reduceIte, Nat.reduceEqDiff, Nat.reduceAdd, Nat.reduceMul, Nat.reduceSub, Int.reduceToNat, Int.reduceAdd, Int.reduceSub, Int.reduceMul, Int.reduceNeg] | with_reducible refine vIf_t ?_ | with_reducible refine vIf_f ?_))
        by_cases h12 : 12 < m + 1 + 1
        · have d12 : decide ((12 : Int) < ((m + 1 + 1 : Nat) : Int)) = true := decide_eq_true (by omega)
          have e5 := coQ_n (coK_5 e1 hR (by omega)) (by decide)
          (try (repeat (first | simp (disch := omega) only [go_sem, ↓reduceIte, Nat.reduceEqDiff, Nat.reduceAdd, Nat.reduceMul, Nat.reduceSub, Int.reduceToNat, Int.reduceAdd, Int.reduceSub, Int.reduceMul, Int.reduceNeg, d12] | with_reducible refine vIf_t ?_ | with_reducible refine vIf_f ?_)))
          (refine retK_of ?_; (repeat (first | simp (disch := omega) only [go_sem, ↓reduceIte, Nat.reduceEqDiff, Nat.reduceAdd, Nat.reduceMul, Nat.reduceSub, Int.reduceToNat, Int.reduceAdd, Int.reduceSub, Int.reduceMul, Int.reduceNeg] | with_reducible refine vIf_t ?_ | with_reducible refine vIf_f ?_)))
          exact e5
        · have d12 : decide ((12 : Int) < ((m + 1 + 1 : Nat) : Int)) = false := decide_eq_false (by omega)
          (try (repeat (first | simp (disch := omega) only [go_sem, ↓reduceIte, Nat.reduceEqDiff, Nat.reduceAdd, Nat.reduceMul, Nat.reduceSub, Int.reduceToNat, Int.reduceAdd, Int.reduceSub, Int.reduceMul, Int.reduceNeg, d12] | with_reducible refine vIf_t ?_ | with_reducible refine vIf_f ?_)))
          cases ec : okC (coC l fr tp st) with
          | false =>
            rw [ec] at hv
            have e6 := coQ_n (coK_6 e1 hR (by omega) ec) (by decide)
            (refine vCallX_of ?_; (repeat (first | simp (disch := omega) only [go_sem, ↓reduceIte, Nat.reduceEqDiff, Nat.reduceAdd, Nat.reduceMul, Nat.reduceSub, Int.reduceToNat, Int.reduceAdd, Int.reduceSub, Int.reduceMul, Int.reduceNeg] | with_reducible refine vIf_t ?_ | with_reducible refine vIf_f ?_)); refine vCall_eq (hv) (by simp (disch := omega) only [go_sem, Nat.reduceAdd]) rfl (by first | exact Or.inl rfl | exact Or.inr ⟨rfl, rfl⟩ | (apply Or.inr; simp only [go_sem])) ?_; (repeat (first | simp (disch := omega) only [go_sem, ↓reduceIte, Nat.reduceEqDiff, Nat.reduceAdd, Nat.reduceMul, Nat.reduceSub, Int.reduceToNat, Int.reduceAdd, Int.reduceSub, Int.reduceMul, Int.reduceNeg] | with_reducible refine vIf_t ?_ | with_reducible refine vIf_f ?_)))
            (refine retK_of ?_; (repeat (first | simp (disch := omega) only [go_sem, ↓reduceIte, Nat.reduceEqDiff, Nat.reduceAdd, Nat.reduceMul, Nat.reduceSub, Int.reduceToNat, Int.reduceAdd, Int.reduceSub, Int.reduceMul, Int.reduceNeg] | with_reducible refine vIf_t ?_ | with_reducible refine vIf_f ?_)))
            exact e6
          | true =>
            rw [ec] at hv
            have e0 := coK_0 e1 hR (by omega) ec
            (refine vCallX_of ?_; (repeat (first | simp (disch := omega) only [go_sem, ↓reduceIte, Nat.reduceEqDiff, Nat.reduceAdd, Nat.reduceMul, Nat.reduceSub, Int.reduceToNat, Int.reduceAdd, Int.reduceSub, Int.reduceMul, Int.reduceNeg] | with_reducible refine vIf_t ?_ | with_reducible refine vIf_f ?_)); refine vCall_eq (hv) (by simp (disch := omega) only [go_sem, Nat.reduceAdd]) rfl (by first | exact Or.inl rfl | exact Or.inr ⟨rfl, rfl⟩ | (apply Or.inr; simp only [go_sem])) ?_; (repeat (first | simp (disch := omega) only [go_sem, ↓reduceIte, Nat.reduceEqDiff, Nat.reduceAdd, Nat.reduceMul, Nat.reduceSub, Int.reduceToNat, Int.reduceAdd, Int.reduceSub, Int.reduceMul, Int.reduceNeg] | with_reducible refine vIf_t ?_ | with_reducible refine vIf_f ?_)))
            refine retK_fz 3 ⟨1, ints (coL fr tp st)⟩ rfl (by (repeat (first | simp (disch := omega) only [go_sem, ↓reduceIte, Nat.reduceEqDiff, Nat.reduceAdd, Nat.reduceMul, Nat.reduceSub, Int.reduceToNat, Int.reduceAdd, Int.reduceSub, Int.reduceMul, Int.reduceNeg] | with_reducible refine vIf_t ?_ | with_reducible refine vIf_f ?_))) ?_
            (repeat (first | simp (disch := omega) only [go_sem, ↓reduceIte, Nat.reduceEqDiff, Nat.reduceAdd, Nat.reduceMul, Nat.reduceSub, Int.reduceToNat, Int.reduceAdd, Int.reduceSub, Int.reduceMul, Int.reduceNeg] | with_reducible refine vIf_t ?_ | with_reducible refine vIf_f ?_))
            refine retK_fz 4 ⟨1, ints (coC l fr tp st).vl⟩ rfl (by (repeat (first | simp (disch := omega) only [go_sem, ↓reduceIte, Nat.reduceEqDiff, Nat.reduceAdd, Nat.reduceMul, Nat.reduceSub, Int.reduceToNat, Int.reduceAdd, Int.reduceSub, Int.reduceMul, Int.reduceNeg] | with_reducible refine vIf_t ?_ | with_reducible refine vIf_f ?_))) ?_
            (repeat (first | simp (disch := omega) only [go_sem, ↓reduceIte, Nat.reduceEqDiff, Nat.reduceAdd, Nat.reduceMul, Nat.reduceSub, Int.reduceToNat, Int.reduceAdd, Int.reduceSub, Int.reduceMul, Int.reduceNeg] | with_reducible refine vIf_t ?_ | with_reducible refine vIf_f ?_))
            (refine retK_of ?_; (repeat (first | simp (disch := omega) only [go_sem, ↓reduceIte, Nat.reduceEqDiff, Nat.reduceAdd, Nat.reduceMul, Nat.reduceSub, Int.reduceToNat, Int.reduceAdd, Int.reduceSub, Int.reduceMul, Int.reduceNeg] | with_reducible refine vIf_t ?_ | with_reducible refine vIf_f ?_)))
            refine .inl ⟨e0, ?_, rfl⟩
            simp [Cv.cells, evl, eV, hcl, hm]
end Go.Proofs.YtneokdflhleidaaGreatDoor

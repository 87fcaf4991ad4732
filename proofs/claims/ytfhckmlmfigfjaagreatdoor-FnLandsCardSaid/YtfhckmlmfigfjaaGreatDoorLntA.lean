/- lands: texts read by the program -/
import Derived.Test.YtfhckmlmfigfjaaGreatDoorLnt9
import Derived.Test.YtfhckmlmfigfjaaGreatDoorT6
set_option linter.unusedVariables false
set_option linter.unusedSimpArgs false
namespace Go.Proofs.YtfhckmlmfigfjaaGreatDoor
open Go.AG Go.Lib Go.RowKit

attribute [local go_sem] beq_self_eq_true bne_self_eq_false Bool.not_true Bool.not_false
theorem cntNl_ok (l : List UInt8) (hl : l.length ≤ 1000000) : ACalls Tryz.prog 145 [St (tx l), St (tx [10])] [] (fun r o => r = I (l.count 10 : Nat) ∧ o = []) := by
  refine ACalls.lib (Q := fun r => r = I (l.count 10 : Nat)) (vals := [.string (tx l), .string (tx [10])]) ⟨_, Tryz.func145, by kernel_rfl, rfl⟩ rfl fun w X hL hX => ?_
  refine (Tryz.strings_Count_one (tx l) 10 w).mono ?_
  rintro e w' ⟨rfl, rfl⟩
  exact ⟨_, _, rfl, rfl, Below.refl _ _, fun _ _ _ => .d (.sc _)⟩
/-- the land that a text may be -/
def rlC (t : List UInt8) : Ld := ⟨(t.count 10 : Nat), ((nums t).length / t.count 10 : Nat), nums t⟩
theorem rlO_of (t : List UInt8) : rlO t = if okL (rlC t) = true ∧ ldT (rlC t) = t then some (rlC t) else none := by
  by_cases h : okL (rlC t) = true ∧ ldT (rlC t) = t
  · rw [if_pos h]; exact (rlO_iff _ _).2 h
  · rw [if_neg h]
    refine rlO_none fun l Q e => h ?_
    have e1 : rlC t = l := by
      have n1 := ldT_nums Q
      have n2 := ldT_count l
      rw [e] at n1 n2
      unfold rlC
      rw [n1, n2, Q.n, Nat.mul_div_cancel_left _ (by have := Q.r; omega)]
      have := Q.r
      have := Q.c
      cases l
      simp only [Ld.mk.injEq]
      simp only at *
      exact ⟨by omega, by omega, trivial⟩
    rw [e1]
    exact ⟨(okL_iff l).2 Q, e⟩
theorem rl_zero {t : List UInt8} (h : t.count 10 = 0) : rlO t = none := rlO_none fun l Q e => by
  have n2 := ldT_count l
  rw [e, h] at n2
  have := Q.r
  omega
set_option maxRecDepth 20000 in
set_option maxHeartbeats 4000000 in
theorem readLand_ok (t : List UInt8) (ha : Asc t) (hl : t.length ≤ 10000) : ACalls Tryz.prog 46 [St (tx t)] [] (RlQ (rlO t)) := by
  refine ACalls.of_vc Tryz.func46 rfl (by decide) 32 rfl [.cell 2 50, .tmp 3] rfl (by simp) ?_
  have hcnt := cntNl_ok t (by omega)
  have hnum := numbersX_ok t ha (by omega)
  have hnl := (nums_ok t).1
  have hfl := flG_len pn t none
  have hcl : t.count 10 ≤ t.length := List.count_le_length
  have ho := rlO_of t
  have hz := @rl_zero t
  unfold rlC at ho
  generalize nums t = hs at *
  generalize t.count 10 = n at *
  have hsz := size_ok (ints hs) hs.length
  (repeat (first | simp (maxSteps := 2000000) (disch := omega) only [go_sem, ↓reduceIte] | with_reducible refine vIf_t ?_ | with_reducible refine vIf_f ?_))
  (refine vCallX_of ?_; (repeat (first | simp (maxSteps := 2000000) (disch := omega) only [go_sem, ↓reduceIte] | with_reducible refine vIf_t ?_ | with_reducible refine vIf_f ?_)); refine vCall_eq (hcnt) (by simp (disch := omega) only [go_sem]) rfl (by first | exact Or.inl rfl | exact Or.inr ⟨rfl, rfl⟩ | (apply Or.inr; simp only [go_sem])) ?_; (repeat (first | simp (maxSteps := 2000000) (disch := omega) only [go_sem, ↓reduceIte] | with_reducible refine vIf_t ?_ | with_reducible refine vIf_f ?_)))
  (refine vCallX_of ?_; (repeat (first | simp (maxSteps := 2000000) (disch := omega) only [go_sem, ↓reduceIte] | with_reducible refine vIf_t ?_ | with_reducible refine vIf_f ?_)); refine vCall_eq (hnum) (by simp (disch := omega) only [go_sem]) rfl (by first | exact Or.inl rfl | exact Or.inr ⟨rfl, rfl⟩ | (apply Or.inr; simp only [go_sem])) ?_; (repeat (first | simp (maxSteps := 2000000) (disch := omega) only [go_sem, ↓reduceIte] | with_reducible refine vIf_t ?_ | with_reducible refine vIf_f ?_)))
  by_cases h0 : n = 0
  · have e0 : ((n : Int) == 0) = true := by simp; omega
    rw [hz h0]
    unfold RlQ
    (repeat (first | simp (maxSteps := 2000000) (disch := omega) only [go_sem, ↓reduceIte, e0] | with_reducible refine vIf_t ?_ | with_reducible refine vIf_f ?_))
    (try (repeat (first | simp (maxSteps := 2000000) (disch := omega) only [go_sem, ↓reduceIte, e0] | with_reducible refine vIf_t ?_ | with_reducible refine vIf_f ?_)))
    (refine retK_of ?_; (repeat (first | simp (maxSteps := 2000000) (disch := omega) only [go_sem, ↓reduceIte] | with_reducible refine vIf_t ?_ | with_reducible refine vIf_f ?_)))
    try rfl
  have e0 : ((n : Int) == 0) = false := by simp; omega
  have ed : (hs.length : Int).tdiv (n : Int) = ((hs.length / n : Nat) : Int) := rfl
  have hd : hs.length / n ≤ hs.length := Nat.div_le_self _ _
  generalize hs.length / n = c at *
  have hv := validL_ok ⟨n, c, hs⟩ (by simp only; omega)
  have ht := landText_ok ⟨n, c, hs⟩ (by simp only; omega)
  unfold lC at hv ht
  simp only at hv ht
  (repeat (first | simp (maxSteps := 2000000) (disch := omega) only [go_sem, ↓reduceIte, e0] | with_reducible refine vIf_t ?_ | with_reducible refine vIf_f ?_))
  (try (repeat (first | simp (maxSteps := 2000000) (disch := omega) only [go_sem, ↓reduceIte, e0] | with_reducible refine vIf_t ?_ | with_reducible refine vIf_f ?_)))
  (refine vDraw_sch 5 [(0, false), (3, false), (1, false), (4, false), (2, false)] mixed (by kernel_rfl) ?_; simp only [List.cons_append, List.nil_append, List.map_cons, List.map_nil, nthO_zero, nthO_succ, List.drop_succ_cons, List.drop_zero, List.drop_nil]; (repeat (first | simp (maxSteps := 2000000) (disch := omega) only [go_sem, ↓reduceIte] | with_reducible refine vIf_t ?_ | with_reducible refine vIf_f ?_)))
  (refine vsCallX_of ?_; (try (repeat (first | simp (maxSteps := 2000000) (disch := omega) only [go_sem, ↓reduceIte] | with_reducible refine vIf_t ?_ | with_reducible refine vIf_f ?_))); refine vCall_eq (hsz) (by simp (disch := omega) only [go_sem]) rfl (by first | exact Or.inl rfl | exact Or.inr ⟨rfl, rfl⟩ | (apply Or.inr; simp only [go_sem])) ?_; (try (repeat (first | simp (maxSteps := 2000000) (disch := omega) only [go_sem, ↓reduceIte] | with_reducible refine vIf_t ?_ | with_reducible refine vIf_f ?_))))
  (try (repeat (first | simp (maxSteps := 2000000) (disch := omega) only [go_sem, ↓reduceIte, ed] | with_reducible refine vIf_t ?_ | with_reducible refine vIf_f ?_)))
  cases hk : okL ⟨n, c, hs⟩ with
  | false =>
    rw [hk] at hv
    rw [ho, if_neg (by rw [hk]; simp)]
    unfold RlQ
    (refine vCallX_of ?_; (repeat (first | simp (maxSteps := 2000000) (disch := omega) only [go_sem, ↓reduceIte] | with_reducible refine vIf_t ?_ | with_reducible refine vIf_f ?_)); refine vCall_eq (hv) (by simp (disch := omega) only [go_sem]) rfl (by first | exact Or.inl rfl | exact Or.inr ⟨rfl, rfl⟩ | (apply Or.inr; simp only [go_sem])) ?_; (repeat (first | simp (maxSteps := 2000000) (disch := omega) only [go_sem, ↓reduceIte] | with_reducible refine vIf_t ?_ | with_reducible refine vIf_f ?_)))
    (try (repeat (first | simp (maxSteps := 2000000) (disch := omega) only [go_sem, ↓reduceIte] | with_reducible refine vIf_t ?_ | with_reducible refine vIf_f ?_)))
    (refine retK_of ?_; (repeat (first | simp (maxSteps := 2000000) (disch := omega) only [go_sem, ↓reduceIte] | with_reducible refine vIf_t ?_ | with_reducible refine vIf_f ?_)))
    try rfl
  | true =>
    rw [hk] at hv ho
    rw [hk, if_pos rfl] at ht
    (refine vCallX_of ?_; (repeat (first | simp (maxSteps := 2000000) (disch := omega) only [go_sem, ↓reduceIte] | with_reducible refine vIf_t ?_ | with_reducible refine vIf_f ?_)); refine vCall_eq (hv) (by simp (disch := omega) only [go_sem]) rfl (by first | exact Or.inl rfl | exact Or.inr ⟨rfl, rfl⟩ | (apply Or.inr; simp only [go_sem])) ?_; (repeat (first | simp (maxSteps := 2000000) (disch := omega) only [go_sem, ↓reduceIte] | with_reducible refine vIf_t ?_ | with_reducible refine vIf_f ?_)))
    (try (repeat (first | simp (maxSteps := 2000000) (disch := omega) only [go_sem, ↓reduceIte] | with_reducible refine vIf_t ?_ | with_reducible refine vIf_f ?_)))
    by_cases e : ldT ⟨n, c, hs⟩ = t
    · rw [ho, if_pos ⟨rfl, e⟩]
      rw [e] at ht
      unfold RlQ lC
      (refine vCallX_of ?_; (repeat (first | simp (maxSteps := 2000000) (disch := omega) only [go_sem, ↓reduceIte] | with_reducible refine vIf_t ?_ | with_reducible refine vIf_f ?_)); refine vCall_eq (ht) (by simp (disch := omega) only [go_sem]) rfl (by first | exact Or.inl rfl | exact Or.inr ⟨rfl, rfl⟩ | (apply Or.inr; simp only [go_sem])) ?_; (repeat (first | simp (maxSteps := 2000000) (disch := omega) only [go_sem, ↓reduceIte] | with_reducible refine vIf_t ?_ | with_reducible refine vIf_f ?_)))
      (try (repeat (first | simp (maxSteps := 2000000) (disch := omega) only [go_sem, ↓reduceIte] | with_reducible refine vIf_t ?_ | with_reducible refine vIf_f ?_)))
      refine retK_fz 1 _ rfl (by (repeat (first | simp (maxSteps := 2000000) (disch := omega) only [go_sem, ↓reduceIte] | with_reducible refine vIf_t ?_ | with_reducible refine vIf_f ?_))) ?_
      (repeat (first | simp (maxSteps := 2000000) (disch := omega) only [go_sem, ↓reduceIte] | with_reducible refine vIf_t ?_ | with_reducible refine vIf_f ?_))
      (refine retK_of ?_; (repeat (first | simp (maxSteps := 2000000) (disch := omega) only [go_sem, ↓reduceIte] | with_reducible refine vIf_t ?_ | with_reducible refine vIf_f ?_)))
      try rfl
    · have nbq := tx_bq e
      rw [ho, if_neg (fun h => e h.2)]
      unfold RlQ
      (refine vCallX_of ?_; (repeat (first | simp (maxSteps := 2000000) (disch := omega) only [go_sem, ↓reduceIte] | with_reducible refine vIf_t ?_ | with_reducible refine vIf_f ?_)); refine vCall_eq (ht) (by simp (disch := omega) only [go_sem]) rfl (by first | exact Or.inl rfl | exact Or.inr ⟨rfl, rfl⟩ | (apply Or.inr; simp only [go_sem])) ?_; (repeat (first | simp (maxSteps := 2000000) (disch := omega) only [go_sem, ↓reduceIte] | with_reducible refine vIf_t ?_ | with_reducible refine vIf_f ?_)))
      (try (repeat (first | simp (maxSteps := 2000000) (disch := omega) only [go_sem, ↓reduceIte, nbq] | with_reducible refine vIf_t ?_ | with_reducible refine vIf_f ?_)))
      (refine retK_of ?_; (repeat (first | simp (maxSteps := 2000000) (disch := omega) only [go_sem, ↓reduceIte] | with_reducible refine vIf_t ?_ | with_reducible refine vIf_f ?_)))
      try rfl
end Go.Proofs.YtfhckmlmfigfjaaGreatDoor

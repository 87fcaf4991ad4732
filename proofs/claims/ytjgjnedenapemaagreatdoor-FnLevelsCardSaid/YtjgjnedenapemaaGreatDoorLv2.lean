/- levels of gauges: valid, middle, mean, wrong ones, those that rise fast -/
import Derived.Test.YtjgjnedenapemaaGreatDoorLv1
import Derived.Test.YtjgjnedenapemaaGreatDoorLand
import Derived.Test.YtjgjnedenapemaaGreatDoorIxs
import Derived.Test.YtjgjnedenapemaaGreatDoorFrZ
import Derived.Test.YtjgjnedenapemaaGreatDoorRowR
set_option linter.unusedVariables false
set_option linter.unusedSimpArgs false
namespace Go.Proofs.YtjgjnedenapemaaGreatDoor
open Go.AG

attribute [local go_sem] beq_self_eq_true bne_self_eq_false Bool.not_true Bool.not_false
theorem absG_ok (a : Int) (ha : -1000000000000000000 ≤ a ∧ a ≤ 1000000000000000000) : ACalls Tryz.prog 67 [I a] [] (fun r o => r = I a.natAbs ∧ o = []) := by
  refine ACalls.of_vc Tryz.func67 rfl (by decide) 8 rfl [.tmp 2] rfl (by simp) ?_
  (repeat (first | simp (maxSteps := 2000000) (disch := omega) only [go_sem, ↓reduceIte] | with_reducible refine vIf_t ?_ | with_reducible refine vIf_f ?_))
  by_cases h : a < 0
  · (try (repeat (first | simp (maxSteps := 2000000) (disch := omega) only [go_sem, ↓reduceIte, h] | with_reducible refine vIf_t ?_ | with_reducible refine vIf_f ?_)))
    (refine retK_of ?_; (repeat (first | simp (maxSteps := 2000000) (disch := omega) only [go_sem, ↓reduceIte] | with_reducible refine vIf_t ?_ | with_reducible refine vIf_f ?_)))
    congr 2
    omega
  · (try (repeat (first | simp (maxSteps := 2000000) (disch := omega) only [go_sem, ↓reduceIte, h] | with_reducible refine vIf_t ?_ | with_reducible refine vIf_f ?_)))
    (refine retK_of ?_; (repeat (first | simp (maxSteps := 2000000) (disch := omega) only [go_sem, ↓reduceIte] | with_reducible refine vIf_t ?_ | with_reducible refine vIf_f ?_)))
    congr 2
    omega
/-- all are levels -/
def lvB (xs : List Int) : Bool := xs.all fun x => decide (-2000 ≤ x ∧ x ≤ 2000)
def gaB (xs : List Int) : Bool := lvB xs && decide ((xs.length : Int) ≤ 60)
theorem lvB_iff (xs : List Int) : lvB xs = true ↔ ∀ x ∈ xs, -2000 ≤ x ∧ x ≤ 2000 := by simp [lvB]
theorem gaB_iff (xs : List Int) : gaB xs = true ↔ (∀ x ∈ xs, -2000 ≤ x ∧ x ≤ 2000) ∧ xs.length ≤ 60 := by
  rw [gaB, Bool.and_eq_true, lvB_iff, decide_eq_true_eq]
  exact and_congr Iff.rfl (by omega)
theorem areGauges_ok (xs : List Int) (hl : xs.length ≤ 1000000) : ACalls Tryz.prog 61 [.sl xs.length (ints xs)] [] (fun r o => r = B (gaB xs) ∧ o = []) := by
  refine ACalls.of_vc Tryz.func61 rfl (by decide) 10 rfl [.tmp 2] rfl (by simp) ?_
  have h := lvs_ok xs (by omega)
  unfold iS at h
  rw [show (xs.all fun x => decide (-2000 ≤ x ∧ x ≤ 2000)) = lvB xs from rfl] at h
  unfold gaB
  (repeat (first | simp (maxSteps := 2000000) (disch := omega) only [go_sem, ↓reduceIte] | with_reducible refine vIf_t ?_ | with_reducible refine vIf_f ?_))
  (refine vCallX_of ?_; (repeat (first | simp (maxSteps := 2000000) (disch := omega) only [go_sem, ↓reduceIte] | with_reducible refine vIf_t ?_ | with_reducible refine vIf_f ?_)); refine vCall_eq (h) (by simp (disch := omega) only [go_sem]) rfl (by first | exact Or.inl rfl | exact Or.inr ⟨rfl, rfl⟩ | (apply Or.inr; simp only [go_sem])) ?_; (repeat (first | simp (maxSteps := 2000000) (disch := omega) only [go_sem, ↓reduceIte] | with_reducible refine vIf_t ?_ | with_reducible refine vIf_f ?_)))
  cases lvB xs with
  | false =>
    (repeat (first | simp (maxSteps := 2000000) (disch := omega) only [go_sem, ↓reduceIte] | with_reducible refine vIf_t ?_ | with_reducible refine vIf_f ?_))
    (refine retK_of ?_; (repeat (first | simp (maxSteps := 2000000) (disch := omega) only [go_sem, ↓reduceIte] | with_reducible refine vIf_t ?_ | with_reducible refine vIf_f ?_)))
  | true =>
    (repeat (first | simp (maxSteps := 2000000) (disch := omega) only [go_sem, ↓reduceIte] | with_reducible refine vIf_t ?_ | with_reducible refine vIf_f ?_))
    (refine retK_of ?_; (repeat (first | simp (maxSteps := 2000000) (disch := omega) only [go_sem, ↓reduceIte] | with_reducible refine vIf_t ?_ | with_reducible refine vIf_f ?_)))
theorem gaugesS_ok (xs : List Int) (hl : xs.length ≤ 1000000) : ACalls Tryz.prog 65 [.sl xs.length (ints xs)] [] (fun r o => r = I (if gaB xs = true then 0 else 2) ∧ o = []) := by
  refine ACalls.of_vc Tryz.func65 rfl (by decide) 19 rfl [.tmp 2] rfl (by simp) ?_
  (repeat (first | simp (maxSteps := 2000000) (disch := omega) only [go_sem, ↓reduceIte] | with_reducible refine vIf_t ?_ | with_reducible refine vIf_f ?_))
  refine vcLoop_invF (fun k : Nat => k ≤ xs.length ∧ ∀ j, j < k → -2000 ≤ gi xs j ∧ gi xs j ≤ 2000) (fun k => ⟨19, 0, [(3, I k), (0, .sl xs.length (ints xs))], []⟩) (fun k => xs.length - k) 0 ⟨by omega, fun j hj => by omega⟩ (by (first | (refine leF_s ?_; ((repeat (first | simp (maxSteps := 2000000) (disch := omega) only [go_sem, ↓reduceIte] | with_reducible refine vIf_t ?_ | with_reducible refine vIf_f ?_)); all_goals (try simp); all_goals (try omega)); done) | (refine leF_p ?_; ((repeat (first | simp (maxSteps := 2000000) (disch := omega) only [go_sem, ↓reduceIte] | with_reducible refine vIf_t ?_ | with_reducible refine vIf_f ?_)); all_goals (try simp); all_goals (try omega)); done))) ?_
  rintro k ⟨hk, hj⟩
  (repeat (first | simp (maxSteps := 2000000) (disch := omega) only [go_sem, ↓reduceIte] | with_reducible refine vIf_t ?_ | with_reducible refine vIf_f ?_))
  refine vIf_dec (fun h => ?_) (fun h => ?_)
  · have hkl : k < xs.length := by omega
    (repeat (first | simp (maxSteps := 2000000) (disch := omega) only [go_sem, ↓reduceIte] | with_reducible refine vIf_t ?_ | with_reducible refine vIf_f ?_))
    (refine vCallX_of ?_; (repeat (first | simp (maxSteps := 2000000) (disch := omega) only [go_sem, ↓reduceIte] | with_reducible refine vIf_t ?_ | with_reducible refine vIf_f ?_)); refine vCall_eq (lvS_ok (gi xs k)) (by simp (disch := omega) only [go_sem]) rfl (by first | exact Or.inl rfl | exact Or.inr ⟨rfl, rfl⟩ | (apply Or.inr; simp only [go_sem])) ?_; (repeat (first | simp (maxSteps := 2000000) (disch := omega) only [go_sem, ↓reduceIte] | with_reducible refine vIf_t ?_ | with_reducible refine vIf_f ?_)))
    by_cases c : -2000 ≤ gi xs k ∧ gi xs k ≤ 2000
    · have d := decide_eq_true c
      (try (repeat (first | simp (maxSteps := 2000000) (disch := omega) only [go_sem, ↓reduceIte, d] | with_reducible refine vIf_t ?_ | with_reducible refine vIf_f ?_)))
      refine againF (k + 1) ⟨by omega, fun j hjk => ?_⟩ (by omega) (by (first | (refine leF_s ?_; ((repeat (first | simp (maxSteps := 2000000) (disch := omega) only [go_sem, ↓reduceIte] | with_reducible refine vIf_t ?_ | with_reducible refine vIf_f ?_)); all_goals (try simp); all_goals (try omega)); done) | (refine leF_p ?_; ((repeat (first | simp (maxSteps := 2000000) (disch := omega) only [go_sem, ↓reduceIte] | with_reducible refine vIf_t ?_ | with_reducible refine vIf_f ?_)); all_goals (try simp); all_goals (try omega)); done)))
      rcases Nat.lt_succ_iff_lt_or_eq.1 hjk with h2 | rfl
      · exact hj j h2
      · exact c
    · have d := decide_eq_false c
      have e : gaB xs = false := by
        rw [Bool.eq_false_iff, Ne, gaB_iff]
        exact fun q => c (q.1 _ (gi_mem _ _ hkl))
      (try (repeat (first | simp (maxSteps := 2000000) (disch := omega) only [go_sem, ↓reduceIte, d] | with_reducible refine vIf_t ?_ | with_reducible refine vIf_f ?_)))
      (refine retK_of ?_; (repeat (first | simp (maxSteps := 2000000) (disch := omega) only [go_sem, ↓reduceIte] | with_reducible refine vIf_t ?_ | with_reducible refine vIf_f ?_)))
      rw [e]; rfl
  · have ha : ∀ x ∈ xs, -2000 ≤ x ∧ x ≤ 2000 := fun x hx => by
      obtain ⟨i, hi, e⟩ := List.mem_iff_getElem.1 hx
      have := hj i (by omega)
      rw [gi_lt _ _ hi, e] at this
      exact this
    (repeat (first | simp (maxSteps := 2000000) (disch := omega) only [go_sem, ↓reduceIte] | with_reducible refine vIf_t ?_ | with_reducible refine vIf_f ?_))
    by_cases c : (60 : Int) < xs.length
    · have d := decide_eq_true c
      have e : gaB xs = false := by
        rw [Bool.eq_false_iff, Ne, gaB_iff]
        exact fun q => by omega
      (try (repeat (first | simp (maxSteps := 2000000) (disch := omega) only [go_sem, ↓reduceIte, d] | with_reducible refine vIf_t ?_ | with_reducible refine vIf_f ?_)))
      (refine retK_of ?_; (repeat (first | simp (maxSteps := 2000000) (disch := omega) only [go_sem, ↓reduceIte] | with_reducible refine vIf_t ?_ | with_reducible refine vIf_f ?_)))
      rw [e]; rfl
    · have d := decide_eq_false c
      have e : gaB xs = true := (gaB_iff _).2 ⟨ha, by omega⟩
      (try (repeat (first | simp (maxSteps := 2000000) (disch := omega) only [go_sem, ↓reduceIte, d] | with_reducible refine vIf_t ?_ | with_reducible refine vIf_f ?_)))
      (refine retK_of ?_; (repeat (first | simp (maxSteps := 2000000) (disch := omega) only [go_sem, ↓reduceIte] | with_reducible refine vIf_t ?_ | with_reducible refine vIf_f ?_)))
      rw [e]; rfl
/-- the code of levels of which there must be one -/
def mcC (xs : List Int) : Int := if gaB xs = true then (if xs.length = 0 then 3 else 0) else 2
theorem someS_ok (xs : List Int) (hl : xs.length ≤ 1000000) : ACalls Tryz.prog 69 [.sl xs.length (ints xs)] [] (fun r o => r = I (mcC xs) ∧ o = []) := by
  refine ACalls.of_vc Tryz.func69 rfl (by decide) 14 rfl [.tmp 2] rfl (by simp) ?_
  have h := gaugesS_ok xs hl
  unfold mcC
  (repeat (first | simp (maxSteps := 2000000) (disch := omega) only [go_sem, ↓reduceIte] | with_reducible refine vIf_t ?_ | with_reducible refine vIf_f ?_))
  (refine vCallX_of ?_; (repeat (first | simp (maxSteps := 2000000) (disch := omega) only [go_sem, ↓reduceIte] | with_reducible refine vIf_t ?_ | with_reducible refine vIf_f ?_)); refine vCall_eq (h) (by simp (disch := omega) only [go_sem]) rfl (by first | exact Or.inl rfl | exact Or.inr ⟨rfl, rfl⟩ | (apply Or.inr; simp only [go_sem])) ?_; (repeat (first | simp (maxSteps := 2000000) (disch := omega) only [go_sem, ↓reduceIte] | with_reducible refine vIf_t ?_ | with_reducible refine vIf_f ?_)))
  cases gaB xs with
  | false =>
    (repeat (first | simp (maxSteps := 2000000) (disch := omega) only [go_sem, ↓reduceIte] | with_reducible refine vIf_t ?_ | with_reducible refine vIf_f ?_))
    (refine retK_of ?_; (repeat (first | simp (maxSteps := 2000000) (disch := omega) only [go_sem, ↓reduceIte] | with_reducible refine vIf_t ?_ | with_reducible refine vIf_f ?_)))
  | true =>
    by_cases c : xs.length = 0
    · have d : ((xs.length : Int) == 0) = true := by rw [beq_iff_eq]; omega
      rw [if_pos rfl, if_pos c]
      (repeat (first | simp (maxSteps := 2000000) (disch := omega) only [go_sem, ↓reduceIte, d] | with_reducible refine vIf_t ?_ | with_reducible refine vIf_f ?_))
      (refine retK_of ?_; (repeat (first | simp (maxSteps := 2000000) (disch := omega) only [go_sem, ↓reduceIte] | with_reducible refine vIf_t ?_ | with_reducible refine vIf_f ?_)))
    · have d : ((xs.length : Int) == 0) = false := by rw [beq_eq_false_iff_ne]; omega
      rw [if_pos rfl, if_neg c]
      (repeat (first | simp (maxSteps := 2000000) (disch := omega) only [go_sem, ↓reduceIte, d] | with_reducible refine vIf_t ?_ | with_reducible refine vIf_f ?_))
      (refine retK_of ?_; (repeat (first | simp (maxSteps := 2000000) (disch := omega) only [go_sem, ↓reduceIte] | with_reducible refine vIf_t ?_ | with_reducible refine vIf_f ?_)))
def meV (xs : List Int) : Int := if mcC xs = 0 then mdI xs else 0
theorem mc_0 {xs : List Int} (h : mcC xs = 0) : gaB xs = true ∧ 0 < xs.length ∧ xs.length ≤ 60 := by
  unfold mcC at h
  split at h
  · rename_i g
    split at h
    · omega
    · exact ⟨g, by omega, ((gaB_iff _).1 g).2⟩
  · omega
theorem median_ok (xs : List Int) (hl : xs.length ≤ 1000000) : ACalls Tryz.prog 22 [.sl xs.length (ints xs)] [] (fun r o => r = .tup [I (meV xs), I (mcC xs)] ∧ o = []) := by
  refine ACalls.of_vc Tryz.func22 rfl (by decide) 14 rfl [.tmp 2, .tmp 3] rfl (by simp) ?_
  have h := areGauges_ok xs hl
  unfold meV
  (repeat (first | simp (maxSteps := 2000000) (disch := omega) only [go_sem, ↓reduceIte] | with_reducible refine vIf_t ?_ | with_reducible refine vIf_f ?_))
  (refine vCallX_of ?_; (repeat (first | simp (maxSteps := 2000000) (disch := omega) only [go_sem, ↓reduceIte] | with_reducible refine vIf_t ?_ | with_reducible refine vIf_f ?_)); refine vCall_eq (h) (by simp (disch := omega) only [go_sem]) rfl (by first | exact Or.inl rfl | exact Or.inr ⟨rfl, rfl⟩ | (apply Or.inr; simp only [go_sem])) ?_; (repeat (first | simp (maxSteps := 2000000) (disch := omega) only [go_sem, ↓reduceIte] | with_reducible refine vIf_t ?_ | with_reducible refine vIf_f ?_)))
  cases hg : gaB xs with
  | false =>
    have e : mcC xs = 2 := by rw [mcC, hg]; rfl
    (repeat (first | simp (maxSteps := 2000000) (disch := omega) only [go_sem, ↓reduceIte] | with_reducible refine vIf_t ?_ | with_reducible refine vIf_f ?_))
    (refine retK_of ?_; (repeat (first | simp (maxSteps := 2000000) (disch := omega) only [go_sem, ↓reduceIte] | with_reducible refine vIf_t ?_ | with_reducible refine vIf_f ?_)))
    rw [e]; rfl
  | true =>
    by_cases c : xs.length = 0
    · have d : ((xs.length : Int) == 0) = true := by rw [beq_iff_eq]; omega
      have e : mcC xs = 3 := by rw [mcC, hg, if_pos rfl, if_pos c]
      (repeat (first | simp (maxSteps := 2000000) (disch := omega) only [go_sem, ↓reduceIte, d] | with_reducible refine vIf_t ?_ | with_reducible refine vIf_f ?_))
      (refine retK_of ?_; (repeat (first | simp (maxSteps := 2000000) (disch := omega) only [go_sem, ↓reduceIte] | with_reducible refine vIf_t ?_ | with_reducible refine vIf_f ?_)))
      rw [e]; rfl
    · have d : ((xs.length : Int) == 0) = false := by rw [beq_eq_false_iff_ne]; omega
      have e : mcC xs = 0 := by rw [mcC, hg, if_pos rfl, if_neg c]
      have hm := middle_ok xs (by omega) hl
      (repeat (first | simp (maxSteps := 2000000) (disch := omega) only [go_sem, ↓reduceIte, d] | with_reducible refine vIf_t ?_ | with_reducible refine vIf_f ?_))
      (refine vCallX_of ?_; (repeat (first | simp (maxSteps := 2000000) (disch := omega) only [go_sem, ↓reduceIte] | with_reducible refine vIf_t ?_ | with_reducible refine vIf_f ?_)); refine vCall_eq (hm) (by simp (disch := omega) only [go_sem]) rfl (by first | exact Or.inl rfl | exact Or.inr ⟨rfl, rfl⟩ | (apply Or.inr; simp only [go_sem])) ?_; (repeat (first | simp (maxSteps := 2000000) (disch := omega) only [go_sem, ↓reduceIte] | with_reducible refine vIf_t ?_ | with_reducible refine vIf_f ?_)))
      (refine retK_of ?_; (repeat (first | simp (maxSteps := 2000000) (disch := omega) only [go_sem, ↓reduceIte] | with_reducible refine vIf_t ?_ | with_reducible refine vIf_f ?_)))
      rw [e]; rfl
theorem middleS_ok (xs : List Int) (h : 0 < xs.length) (hl : xs.length ≤ 1000000) : ACalls Tryz.prog 68 [.sl xs.length (ints xs)] [] (fun r o => r = I (mdI xs) ∧ o = []) := by
  refine ACalls.of_vc Tryz.func68 rfl (by decide) 11 rfl [.tmp 2] rfl (by simp) ?_
  have hso := sortedS_ok xs hl
  have hsl := srtI_len xs
  have hix : ((xs.length : Int) - 1).tdiv 2 = ((xs.length - 1) / 2 : Nat) := by
    rw [show (xs.length : Int) - 1 = ((xs.length - 1 : Nat) : Int) by omega]; rfl
  have hlt : (xs.length - 1) / 2 < xs.length := by omega
  (repeat (first | simp (maxSteps := 2000000) (disch := omega) only [go_sem, ↓reduceIte] | with_reducible refine vIf_t ?_ | with_reducible refine vIf_f ?_))
  (refine vCallX_of ?_; (repeat (first | simp (maxSteps := 2000000) (disch := omega) only [go_sem, ↓reduceIte] | with_reducible refine vIf_t ?_ | with_reducible refine vIf_f ?_)); refine vCall_eq (hso) (by simp (disch := omega) only [go_sem]) rfl (by first | exact Or.inl rfl | exact Or.inr ⟨rfl, rfl⟩ | (apply Or.inr; simp only [go_sem])) ?_; (repeat (first | simp (maxSteps := 2000000) (disch := omega) only [go_sem, ↓reduceIte] | with_reducible refine vIf_t ?_ | with_reducible refine vIf_f ?_)))
  (repeat (first | simp (maxSteps := 2000000) (disch := omega) only [go_sem, ↓reduceIte, hix] | with_reducible refine vIf_t ?_ | with_reducible refine vIf_f ?_))
  (refine retK_of ?_; (repeat (first | simp (maxSteps := 2000000) (disch := omega) only [go_sem, ↓reduceIte] | with_reducible refine vIf_t ?_ | with_reducible refine vIf_f ?_)))
  rfl
theorem medianS_ok (xs : List Int) (hl : xs.length ≤ 1000000) : ACalls Tryz.prog 23 [.sl xs.length (ints xs)] [] (fun r o => r = .tup [I (meV xs), I (mcC xs)] ∧ o = []) := by
  refine ACalls.of_vc Tryz.func23 rfl (by decide) 12 rfl [.tmp 2, .tmp 3] rfl (by simp) ?_
  have h := someS_ok xs hl
  unfold meV
  (repeat (first | simp (maxSteps := 2000000) (disch := omega) only [go_sem, ↓reduceIte] | with_reducible refine vIf_t ?_ | with_reducible refine vIf_f ?_))
  (refine vCallX_of ?_; (repeat (first | simp (maxSteps := 2000000) (disch := omega) only [go_sem, ↓reduceIte] | with_reducible refine vIf_t ?_ | with_reducible refine vIf_f ?_)); refine vCall_eq (h) (by simp (disch := omega) only [go_sem]) rfl (by first | exact Or.inl rfl | exact Or.inr ⟨rfl, rfl⟩ | (apply Or.inr; simp only [go_sem])) ?_; (repeat (first | simp (maxSteps := 2000000) (disch := omega) only [go_sem, ↓reduceIte] | with_reducible refine vIf_t ?_ | with_reducible refine vIf_f ?_)))
  by_cases c : mcC xs = 0
  · have d : (mcC xs != 0) = false := by simp [c]
    have hm := middleS_ok xs (mc_0 c).2.1 hl
    (repeat (first | simp (maxSteps := 2000000) (disch := omega) only [go_sem, ↓reduceIte, d] | with_reducible refine vIf_t ?_ | with_reducible refine vIf_f ?_))
    (refine vCallX_of ?_; (repeat (first | simp (maxSteps := 2000000) (disch := omega) only [go_sem, ↓reduceIte] | with_reducible refine vIf_t ?_ | with_reducible refine vIf_f ?_)); refine vCall_eq (hm) (by simp (disch := omega) only [go_sem]) rfl (by first | exact Or.inl rfl | exact Or.inr ⟨rfl, rfl⟩ | (apply Or.inr; simp only [go_sem])) ?_; (repeat (first | simp (maxSteps := 2000000) (disch := omega) only [go_sem, ↓reduceIte] | with_reducible refine vIf_t ?_ | with_reducible refine vIf_f ?_)))
    (refine retK_of ?_; (repeat (first | simp (maxSteps := 2000000) (disch := omega) only [go_sem, ↓reduceIte] | with_reducible refine vIf_t ?_ | with_reducible refine vIf_f ?_)))
    rw [c]; rfl
  · have d : (mcC xs != 0) = true := by simp [c]
    (repeat (first | simp (maxSteps := 2000000) (disch := omega) only [go_sem, ↓reduceIte, d] | with_reducible refine vIf_t ?_ | with_reducible refine vIf_f ?_))
    (refine retK_of ?_; (repeat (first | simp (maxSteps := 2000000) (disch := omega) only [go_sem, ↓reduceIte] | with_reducible refine vIf_t ?_ | with_reducible refine vIf_f ?_)))
    rw [if_neg c]
/-! means -/
theorem wsum_lv {xs : List Int} (h : ∀ x ∈ xs, -2000 ≤ x ∧ x ≤ 2000) (hl : xs.length ≤ 60) : -120000 ≤ wsum xs ∧ wsum xs ≤ 120000 := by
  have : ∀ n, n ≤ xs.length → -2000 * (n : Int) ≤ wsum (xs.take n) ∧ wsum (xs.take n) ≤ 2000 * n := by
    intro n
    induction n with
    | zero => intro _; simp [wsum_nil]
    | succ n ih =>
      intro hn
      have := ih (by omega)
      have hx := h _ (gi_mem xs n (by omega))
      rw [gi_lt _ _ (by omega)] at hx
      rw [List.take_succ_eq_append_getElem (by omega), wsum_snoc, wrap_i64_id _ (by omega)]
      omega
  have := this xs.length (Nat.le_refl _)
  rw [List.take_length] at this
  omega
def mnN (xs : List Int) : Int := if mcC xs = 0 then wsum xs / (Int.gcd (wsum xs) xs.length : Int) else 0
def mnD (xs : List Int) : Int := if mcC xs = 0 then (xs.length : Int) / (Int.gcd (wsum xs) xs.length : Int) else 0
theorem mean_law {xs : List Int} (h : mcC xs = 0) : mnN xs * xs.length = wsum xs * mnD xs ∧ (-120000 ≤ mnN xs ∧ mnN xs ≤ 120000) ∧ (0 ≤ mnD xs ∧ mnD xs ≤ 60) := by
  obtain ⟨h1, h2, h3⟩ := mc_0 h
  unfold mnN mnD
  rw [if_pos h, if_pos h]
  obtain ⟨_, e2, e3, e4⟩ := gcd_div (wsum xs) xs.length (by omega)
  have b := wsum_lv ((gaB_iff _).1 h1).1 h3
  have q1 := quot_bd e2 e4 120000 b
  have q2 := quot_bd e3 e4 60 (by omega)
  refine ⟨?_, q1, ?_, q2.2⟩
  · generalize ((Int.gcd (wsum xs) xs.length : Nat) : Int) = g at *
    calc wsum xs / g * (xs.length : Int) = wsum xs / g * ((xs.length : Int) / g * g) := by rw [e3]
      _ = wsum xs / g * g * ((xs.length : Int) / g) := by rw [Int.mul_comm ((xs.length : Int) / g) g, ← Int.mul_assoc]
      _ = wsum xs * ((xs.length : Int) / g) := by rw [e2]
  · exact Int.ediv_nonneg (by omega) (by omega)
theorem frGS_ok (a b : Int) (ha : -1000000000000000000 ≤ a ∧ a ≤ 1000000000000000000) (hb : 1 ≤ b ∧ b ≤ 1000000000000000000) : ACalls Tryz.prog 72 [I a, I b] [] (fun r o => r = .agg [I (a / (Int.gcd a b : Int)), I (b / (Int.gcd a b : Int))] ∧ o = []) := by
  refine ACalls.of_vc Tryz.func72 rfl (by decide) 17 rfl [.cell 4 42] rfl (by simp) ?_
  obtain ⟨e1, e2, e3, e4⟩ := gcd_div a b hb.1
  have e5 : b.tdiv (Int.gcd a b) = b / (Int.gcd a b : Int) := Int.tdiv_eq_ediv_of_dvd (Int.gcd_dvd_right ..)
  have q1 := quot_bd e2 e4 1000000000000000000 ha
  have q2 := quot_bd e3 e4 1000000000000000000 (by omega)
  have hg := gcdS_ok a.natAbs b.natAbs (by omega) (by omega)
  rw [show ((b.natAbs : Nat) : Int) = b by omega, show Nat.gcd a.natAbs b.natAbs = Int.gcd a b from rfl] at hg
  (repeat (first | simp (maxSteps := 2000000) (disch := omega) only [go_sem, ↓reduceIte] | with_reducible refine vIf_t ?_ | with_reducible refine vIf_f ?_))
  (refine vCallX_of ?_; (repeat (first | simp (maxSteps := 2000000) (disch := omega) only [go_sem, ↓reduceIte] | with_reducible refine vIf_t ?_ | with_reducible refine vIf_f ?_)); refine vCall_eq (absG_ok a ha) (by simp (disch := omega) only [go_sem]) rfl (by first | exact Or.inl rfl | exact Or.inr ⟨rfl, rfl⟩ | (apply Or.inr; simp only [go_sem])) ?_; (repeat (first | simp (maxSteps := 2000000) (disch := omega) only [go_sem, ↓reduceIte] | with_reducible refine vIf_t ?_ | with_reducible refine vIf_f ?_)))
  (refine vCallX_of ?_; (repeat (first | simp (maxSteps := 2000000) (disch := omega) only [go_sem, ↓reduceIte] | with_reducible refine vIf_t ?_ | with_reducible refine vIf_f ?_)); refine vCall_eq (hg) (by simp (disch := omega) only [go_sem]) rfl (by first | exact Or.inl rfl | exact Or.inr ⟨rfl, rfl⟩ | (apply Or.inr; simp only [go_sem])) ?_; (repeat (first | simp (maxSteps := 2000000) (disch := omega) only [go_sem, ↓reduceIte] | with_reducible refine vIf_t ?_ | with_reducible refine vIf_f ?_)))
  (refine vDraw_tail 6 mixed (by kernel_rfl) ?_; simp only [List.take_succ_cons, List.take_zero, List.drop_succ_cons, List.drop_zero]; (repeat (first | simp (maxSteps := 2000000) (disch := omega) only [go_sem, ↓reduceIte] | with_reducible refine vIf_t ?_ | with_reducible refine vIf_f ?_)))
  (try (repeat (first | simp (maxSteps := 2000000) (disch := omega) only [go_sem, ↓reduceIte, e1, e5] | with_reducible refine vIf_t ?_ | with_reducible refine vIf_f ?_)))
  (refine retK_of ?_; (repeat (first | simp (maxSteps := 2000000) (disch := omega) only [go_sem, ↓reduceIte] | with_reducible refine vIf_t ?_ | with_reducible refine vIf_f ?_)))
theorem mean_ok (xs : List Int) (hl : xs.length ≤ 1000000) : ACalls Tryz.prog 24 [.sl xs.length (ints xs)] [] (fun r o => r = .tup [.agg [I (mnN xs), I (mnD xs)], I (mcC xs)] ∧ o = []) := by
  refine ACalls.of_vc Tryz.func24 rfl (by decide) 19 rfl [.cell 2 42, .tmp 3] rfl (by simp) ?_
  have h := areGauges_ok xs hl
  unfold mnN mnD
  (repeat (first | simp (maxSteps := 2000000) (disch := omega) only [go_sem, ↓reduceIte] | with_reducible refine vIf_t ?_ | with_reducible refine vIf_f ?_))
  (refine vCallX_of ?_; (repeat (first | simp (maxSteps := 2000000) (disch := omega) only [go_sem, ↓reduceIte] | with_reducible refine vIf_t ?_ | with_reducible refine vIf_f ?_)); refine vCall_eq (h) (by simp (disch := omega) only [go_sem]) rfl (by first | exact Or.inl rfl | exact Or.inr ⟨rfl, rfl⟩ | (apply Or.inr; simp only [go_sem])) ?_; (repeat (first | simp (maxSteps := 2000000) (disch := omega) only [go_sem, ↓reduceIte] | with_reducible refine vIf_t ?_ | with_reducible refine vIf_f ?_)))
  cases hg : gaB xs with
  | false =>
    have e : mcC xs = 2 := by rw [mcC, hg]; rfl
    (repeat (first | simp (maxSteps := 2000000) (disch := omega) only [go_sem, ↓reduceIte] | with_reducible refine vIf_t ?_ | with_reducible refine vIf_f ?_))
    (refine retK_of ?_; (repeat (first | simp (maxSteps := 2000000) (disch := omega) only [go_sem, ↓reduceIte] | with_reducible refine vIf_t ?_ | with_reducible refine vIf_f ?_)))
    rw [e]; rfl
  | true =>
    by_cases c : xs.length = 0
    · have d : ((xs.length : Int) == 0) = true := by rw [beq_iff_eq]; omega
      have e : mcC xs = 3 := by rw [mcC, hg, if_pos rfl, if_pos c]
      (repeat (first | simp (maxSteps := 2000000) (disch := omega) only [go_sem, ↓reduceIte, d] | with_reducible refine vIf_t ?_ | with_reducible refine vIf_f ?_))
      (refine retK_of ?_; (repeat (first | simp (maxSteps := 2000000) (disch := omega) only [go_sem, ↓reduceIte] | with_reducible refine vIf_t ?_ | with_reducible refine vIf_f ?_)))
      rw [e]; rfl
    · have d : ((xs.length : Int) == 0) = false := by rw [beq_eq_false_iff_ne]; omega
      have e : mcC xs = 0 := by rw [mcC, hg, if_pos rfl, if_neg c]
      obtain ⟨_, _, g3⟩ := mc_0 e
      have b := wsum_lv ((gaB_iff _).1 hg).1 g3
      have hm := sum_ok xs (by omega)
      have hf := frZ_ok (wsum xs) xs.length (by omega) (by omega)
      unfold iS at hm
      (repeat (first | simp (maxSteps := 2000000) (disch := omega) only [go_sem, ↓reduceIte, d] | with_reducible refine vIf_t ?_ | with_reducible refine vIf_f ?_))
      (refine vCallX_of ?_; (repeat (first | simp (maxSteps := 2000000) (disch := omega) only [go_sem, ↓reduceIte] | with_reducible refine vIf_t ?_ | with_reducible refine vIf_f ?_)); refine vCall_eq (hm) (by simp (disch := omega) only [go_sem]) rfl (by first | exact Or.inl rfl | exact Or.inr ⟨rfl, rfl⟩ | (apply Or.inr; simp only [go_sem])) ?_; (repeat (first | simp (maxSteps := 2000000) (disch := omega) only [go_sem, ↓reduceIte] | with_reducible refine vIf_t ?_ | with_reducible refine vIf_f ?_)))
      (refine vCallX_of ?_; (repeat (first | simp (maxSteps := 2000000) (disch := omega) only [go_sem, ↓reduceIte] | with_reducible refine vIf_t ?_ | with_reducible refine vIf_f ?_)); refine vCall_eq (size_ok (ints xs) xs.length) (by simp (disch := omega) only [go_sem]) rfl (by first | exact Or.inl rfl | exact Or.inr ⟨rfl, rfl⟩ | (apply Or.inr; simp only [go_sem])) ?_; (repeat (first | simp (maxSteps := 2000000) (disch := omega) only [go_sem, ↓reduceIte] | with_reducible refine vIf_t ?_ | with_reducible refine vIf_f ?_)))
      (refine vCallX_of ?_; (repeat (first | simp (maxSteps := 2000000) (disch := omega) only [go_sem, ↓reduceIte] | with_reducible refine vIf_t ?_ | with_reducible refine vIf_f ?_)); refine vCall_eq (hf) (by simp (disch := omega) only [go_sem]) rfl (by first | exact Or.inl rfl | exact Or.inr ⟨rfl, rfl⟩ | (apply Or.inr; simp only [go_sem])) ?_; (repeat (first | simp (maxSteps := 2000000) (disch := omega) only [go_sem, ↓reduceIte] | with_reducible refine vIf_t ?_ | with_reducible refine vIf_f ?_)))
      (refine retK_of ?_; (repeat (first | simp (maxSteps := 2000000) (disch := omega) only [go_sem, ↓reduceIte] | with_reducible refine vIf_t ?_ | with_reducible refine vIf_f ?_)))
      rw [e]; rfl
theorem meanS_ok (xs : List Int) (hl : xs.length ≤ 1000000) : ACalls Tryz.prog 25 [.sl xs.length (ints xs)] [] (fun r o => r = .tup [.agg [I (mnN xs), I (mnD xs)], I (mcC xs)] ∧ o = []) := by
  refine ACalls.of_vc Tryz.func25 rfl (by decide) 16 rfl [.cell 2 42, .tmp 3] rfl (by simp) ?_
  have h := someS_ok xs hl
  unfold mnN mnD
  (repeat (first | simp (maxSteps := 2000000) (disch := omega) only [go_sem, ↓reduceIte] | with_reducible refine vIf_t ?_ | with_reducible refine vIf_f ?_))
  (refine vCallX_of ?_; (repeat (first | simp (maxSteps := 2000000) (disch := omega) only [go_sem, ↓reduceIte] | with_reducible refine vIf_t ?_ | with_reducible refine vIf_f ?_)); refine vCall_eq (h) (by simp (disch := omega) only [go_sem]) rfl (by first | exact Or.inl rfl | exact Or.inr ⟨rfl, rfl⟩ | (apply Or.inr; simp only [go_sem])) ?_; (repeat (first | simp (maxSteps := 2000000) (disch := omega) only [go_sem, ↓reduceIte] | with_reducible refine vIf_t ?_ | with_reducible refine vIf_f ?_)))
  by_cases c : mcC xs = 0
  · have d : (mcC xs != 0) = false := by simp [c]
    obtain ⟨hg, g2, g3⟩ := mc_0 c
    have b := wsum_lv ((gaB_iff _).1 hg).1 g3
    have hm := sumS_ok xs (by omega)
    have hf := frGS_ok (wsum xs) xs.length (by omega) (by omega)
    unfold iS at hm
    (repeat (first | simp (maxSteps := 2000000) (disch := omega) only [go_sem, ↓reduceIte, d] | with_reducible refine vIf_t ?_ | with_reducible refine vIf_f ?_))
    (refine vCallX_of ?_; (repeat (first | simp (maxSteps := 2000000) (disch := omega) only [go_sem, ↓reduceIte] | with_reducible refine vIf_t ?_ | with_reducible refine vIf_f ?_)); refine vCall_eq (hm) (by simp (disch := omega) only [go_sem]) rfl (by first | exact Or.inl rfl | exact Or.inr ⟨rfl, rfl⟩ | (apply Or.inr; simp only [go_sem])) ?_; (repeat (first | simp (maxSteps := 2000000) (disch := omega) only [go_sem, ↓reduceIte] | with_reducible refine vIf_t ?_ | with_reducible refine vIf_f ?_)))
    (refine vCallX_of ?_; (repeat (first | simp (maxSteps := 2000000) (disch := omega) only [go_sem, ↓reduceIte] | with_reducible refine vIf_t ?_ | with_reducible refine vIf_f ?_)); refine vCall_eq (hf) (by simp (disch := omega) only [go_sem]) rfl (by first | exact Or.inl rfl | exact Or.inr ⟨rfl, rfl⟩ | (apply Or.inr; simp only [go_sem])) ?_; (repeat (first | simp (maxSteps := 2000000) (disch := omega) only [go_sem, ↓reduceIte] | with_reducible refine vIf_t ?_ | with_reducible refine vIf_f ?_)))
    (refine retK_of ?_; (repeat (first | simp (maxSteps := 2000000) (disch := omega) only [go_sem, ↓reduceIte] | with_reducible refine vIf_t ?_ | with_reducible refine vIf_f ?_)))
    rw [c]; rfl
  · have d : (mcC xs != 0) = true := by simp [c]
    (repeat (first | simp (maxSteps := 2000000) (disch := omega) only [go_sem, ↓reduceIte, d] | with_reducible refine vIf_t ?_ | with_reducible refine vIf_f ?_))
    (refine retK_of ?_; (repeat (first | simp (maxSteps := 2000000) (disch := omega) only [go_sem, ↓reduceIte] | with_reducible refine vIf_t ?_ | with_reducible refine vIf_f ?_)))
    rw [if_neg c, if_neg c]
/-! gauges that are wrong -/
def gaC (xs : List Int) (a m : Int) : Int := if gaB xs = true ∧ (a ≤ m ∧ m ≤ 4000) then 0 else 2
def wrB (xs : List Int) (m : Int) (i : Nat) : Bool := decide (m < ((gi xs i - mdI xs).natAbs : Int))
def wrL (xs : List Int) (m : Int) : List Int := if gaC xs 0 m = 0 then ixs xs.length (wrB xs m) else []
theorem gaC_0 {xs : List Int} {a m : Int} (h : gaC xs a m = 0) : gaB xs = true ∧ (a ≤ m ∧ m ≤ 4000) := by
  unfold gaC at h
  split at h
  · assumption
  · omega
theorem gaC_yes {xs : List Int} {a m : Int} (h : gaB xs = true) (h2 : a ≤ m ∧ m ≤ 4000) : gaC xs a m = 0 := if_pos ⟨h, h2⟩
theorem gaC_no {xs : List Int} {a m : Int} (h : ¬ (gaB xs = true ∧ (a ≤ m ∧ m ≤ 4000))) : gaC xs a m = 2 := if_neg h
theorem md_lv {xs : List Int} (h : gaB xs = true) {i : Nat} (hi : i < xs.length) : (-2000 ≤ mdI xs ∧ mdI xs ≤ 2000) ∧ (-2000 ≤ gi xs i ∧ gi xs i ≤ 2000) := by
  have h1 := ((gaB_iff _).1 h).1
  exact ⟨mdI_bd h1 (by omega), h1 _ (gi_mem _ _ hi)⟩
theorem wrong1_ok (xs : List Int) (m : Int) (h : gaB xs = true) (i : Nat) (hi : i < xs.length) : ACalls Tryz.prog 62 [I i, .ip [.sl xs.length (ints xs)] 0, .ip [I m] 0] [] (fun r o => r = B (wrB xs m i) ∧ o = []) := by
  refine ACalls.of_vc Tryz.func62 rfl (by decide) 15 rfl [.tmp 4] rfl (by simp) ?_
  obtain ⟨b1, b2⟩ := md_lv h hi
  have h3 := ((gaB_iff _).1 h).2
  have hm := middle_ok xs (by omega) (by omega)
  have ha := absZ_ok (gi xs i - mdI xs) (by omega)
  (repeat (first | simp (maxSteps := 2000000) (disch := omega) only [go_sem, ↓reduceIte] | with_reducible refine vIf_t ?_ | with_reducible refine vIf_f ?_))
  (refine vDraw_sch 9 [(1, false), (0, false), (2, false), (3, false), (4, false), (8, false), (5, false), (6, false), (7, false)] mixed (by kernel_rfl) ?_; simp only [List.cons_append, List.nil_append, List.map_cons, List.map_nil, nthO_zero, nthO_succ, List.drop_succ_cons, List.drop_zero, List.drop_nil]; (repeat (first | simp (maxSteps := 2000000) (disch := omega) only [go_sem, ↓reduceIte] | with_reducible refine vIf_t ?_ | with_reducible refine vIf_f ?_)))
  (refine vsCallX_of ?_; (try (repeat (first | simp (maxSteps := 2000000) (disch := omega) only [go_sem, ↓reduceIte] | with_reducible refine vIf_t ?_ | with_reducible refine vIf_f ?_))); refine vCall_eq (hm) (by simp (disch := omega) only [go_sem]) rfl (by first | exact Or.inl rfl | exact Or.inr ⟨rfl, rfl⟩ | (apply Or.inr; simp only [go_sem])) ?_; (try (repeat (first | simp (maxSteps := 2000000) (disch := omega) only [go_sem, ↓reduceIte] | with_reducible refine vIf_t ?_ | with_reducible refine vIf_f ?_))))
  (try (repeat (first | simp (maxSteps := 2000000) (disch := omega) only [go_sem, ↓reduceIte] | with_reducible refine vIf_t ?_ | with_reducible refine vIf_f ?_)))
  (refine vsCallX_of ?_; (try (repeat (first | simp (maxSteps := 2000000) (disch := omega) only [go_sem, ↓reduceIte] | with_reducible refine vIf_t ?_ | with_reducible refine vIf_f ?_))); refine vCall_eq (ha) (by simp (disch := omega) only [go_sem]) rfl (by first | exact Or.inl rfl | exact Or.inr ⟨rfl, rfl⟩ | (apply Or.inr; simp only [go_sem])) ?_; (try (repeat (first | simp (maxSteps := 2000000) (disch := omega) only [go_sem, ↓reduceIte] | with_reducible refine vIf_t ?_ | with_reducible refine vIf_f ?_))))
  (try (repeat (first | simp (maxSteps := 2000000) (disch := omega) only [go_sem, ↓reduceIte] | with_reducible refine vIf_t ?_ | with_reducible refine vIf_f ?_)))
  (refine retK_of ?_; (repeat (first | simp (maxSteps := 2000000) (disch := omega) only [go_sem, ↓reduceIte] | with_reducible refine vIf_t ?_ | with_reducible refine vIf_f ?_)))
  rfl
theorem wrongG_ok (xs : List Int) (m : Int) (hl : xs.length ≤ 1000000) : ACalls Tryz.prog 20 [.sl xs.length (ints xs), I m] [] (RowR (wrL xs m) (gaC xs 0 m)) := by
  refine ACalls.of_vc Tryz.func20 rfl (by decide) 19 rfl [.tmp 4, .tmp 5] rfl (by simp) ?_
  have h := areGauges_ok xs hl
  have bad : gaC xs 0 m = 2 → RowR (wrL xs m) (gaC xs 0 m) (.tup [.ref 0 0 0, I 2]) [oI []] := fun q => by
    rw [wrL, q]
    exact .inl ⟨rfl, rfl⟩
  (repeat (first | simp (maxSteps := 2000000) (disch := omega) only [go_sem, ↓reduceIte] | with_reducible refine vIf_t ?_ | with_reducible refine vIf_f ?_))
  (refine vCallX_of ?_; (repeat (first | simp (maxSteps := 2000000) (disch := omega) only [go_sem, ↓reduceIte] | with_reducible refine vIf_t ?_ | with_reducible refine vIf_f ?_)); refine vCall_eq (h) (by simp (disch := omega) only [go_sem]) rfl (by first | exact Or.inl rfl | exact Or.inr ⟨rfl, rfl⟩ | (apply Or.inr; simp only [go_sem])) ?_; (repeat (first | simp (maxSteps := 2000000) (disch := omega) only [go_sem, ↓reduceIte] | with_reducible refine vIf_t ?_ | with_reducible refine vIf_f ?_)))
  cases hg : gaB xs with
  | false =>
    (repeat (first | simp (maxSteps := 2000000) (disch := omega) only [go_sem, ↓reduceIte] | with_reducible refine vIf_t ?_ | with_reducible refine vIf_f ?_))
    (refine retK_of ?_; (repeat (first | simp (maxSteps := 2000000) (disch := omega) only [go_sem, ↓reduceIte] | with_reducible refine vIf_t ?_ | with_reducible refine vIf_f ?_)))
    exact bad (gaC_no fun q => by rw [hg] at q; simp at q)
  | true =>
    (repeat (first | simp (maxSteps := 2000000) (disch := omega) only [go_sem, ↓reduceIte] | with_reducible refine vIf_t ?_ | with_reducible refine vIf_f ?_))
    (refine vCallX_of ?_; (repeat (first | simp (maxSteps := 2000000) (disch := omega) only [go_sem, ↓reduceIte] | with_reducible refine vIf_t ?_ | with_reducible refine vIf_f ?_)); refine vCall_eq (in_ok m 0 4000) (by simp (disch := omega) only [go_sem]) rfl (by first | exact Or.inl rfl | exact Or.inr ⟨rfl, rfl⟩ | (apply Or.inr; simp only [go_sem])) ?_; (repeat (first | simp (maxSteps := 2000000) (disch := omega) only [go_sem, ↓reduceIte] | with_reducible refine vIf_t ?_ | with_reducible refine vIf_f ?_)))
    by_cases c : 0 ≤ m ∧ m ≤ 4000
    · have d := decide_eq_true c
      have e : gaC xs 0 m = 0 := gaC_yes hg c
      have h3 := ixw_ok xs.length 62 [.ip [.sl xs.length (ints xs)] 0, .ip [I m] 0] (wrB xs m) (fun i hi => wrong1_ok xs m hg i hi) rfl (by omega)
      (repeat (first | simp (maxSteps := 2000000) (disch := omega) only [go_sem, ↓reduceIte, d] | with_reducible refine vIf_t ?_ | with_reducible refine vIf_f ?_))
      (refine vCallX_of ?_; (repeat (first | simp (maxSteps := 2000000) (disch := omega) only [go_sem, ↓reduceIte] | with_reducible refine vIf_t ?_ | with_reducible refine vIf_f ?_)); refine vCall_eq (size_ok (ints xs) xs.length) (by simp (disch := omega) only [go_sem]) rfl (by first | exact Or.inl rfl | exact Or.inr ⟨rfl, rfl⟩ | (apply Or.inr; simp only [go_sem])) ?_; (repeat (first | simp (maxSteps := 2000000) (disch := omega) only [go_sem, ↓reduceIte] | with_reducible refine vIf_t ?_ | with_reducible refine vIf_f ?_)))
      (refine vCallX_of ?_; (repeat (first | simp (maxSteps := 2000000) (disch := omega) only [go_sem, ↓reduceIte] | with_reducible refine vIf_t ?_ | with_reducible refine vIf_f ?_)); refine vCall_eq (h3) (by simp (disch := omega) only [go_sem]) rfl (by first | exact Or.inl rfl | exact Or.inr ⟨rfl, rfl⟩ | (apply Or.inr; simp only [go_sem])) ?_; (repeat (first | simp (maxSteps := 2000000) (disch := omega) only [go_sem, ↓reduceIte] | with_reducible refine vIf_t ?_ | with_reducible refine vIf_f ?_)))
      (refine retK_of ?_; (repeat (first | simp (maxSteps := 2000000) (disch := omega) only [go_sem, ↓reduceIte] | with_reducible refine vIf_t ?_ | with_reducible refine vIf_f ?_)))
      rw [wrL, e, if_pos rfl]
      exact .inl ⟨rfl, rfl⟩
    · have d := decide_eq_false c
      (repeat (first | simp (maxSteps := 2000000) (disch := omega) only [go_sem, ↓reduceIte, d] | with_reducible refine vIf_t ?_ | with_reducible refine vIf_f ?_))
      (refine retK_of ?_; (repeat (first | simp (maxSteps := 2000000) (disch := omega) only [go_sem, ↓reduceIte] | with_reducible refine vIf_t ?_ | with_reducible refine vIf_f ?_)))
      exact bad (gaC_no fun q => c q.2)
theorem wrongGS_ok (xs : List Int) (m : Int) (hl : xs.length ≤ 1000000) : ACalls Tryz.prog 21 [.sl xs.length (ints xs), I m] [] (RowR (wrL xs m) (gaC xs 0 m)) := by
  refine ACalls.of_vc Tryz.func21 rfl (by decide) 43 rfl [.tmp 4, .tmp 5] rfl (by simp) ?_
  have h := gaugesS_ok xs hl
  have bad : gaC xs 0 m = 2 → RowR (wrL xs m) (gaC xs 0 m) (.tup [.sc (.slice none 0 0), I 2]) [] := fun q => by
    rw [wrL, q]
    exact .inr ⟨rfl, rfl, rfl⟩
  (repeat (first | simp (maxSteps := 2000000) (disch := omega) only [go_sem, ↓reduceIte] | with_reducible refine vIf_t ?_ | with_reducible refine vIf_f ?_))
  (refine vCallX_of ?_; (repeat (first | simp (maxSteps := 2000000) (disch := omega) only [go_sem, ↓reduceIte] | with_reducible refine vIf_t ?_ | with_reducible refine vIf_f ?_)); refine vCall_eq (h) (by simp (disch := omega) only [go_sem]) rfl (by first | exact Or.inl rfl | exact Or.inr ⟨rfl, rfl⟩ | (apply Or.inr; simp only [go_sem])) ?_; (repeat (first | simp (maxSteps := 2000000) (disch := omega) only [go_sem, ↓reduceIte] | with_reducible refine vIf_t ?_ | with_reducible refine vIf_f ?_)))
  cases hg : gaB xs with
  | false =>
    (repeat (first | simp (maxSteps := 2000000) (disch := omega) only [go_sem, ↓reduceIte] | with_reducible refine vIf_t ?_ | with_reducible refine vIf_f ?_))
    (refine retK_of ?_; (repeat (first | simp (maxSteps := 2000000) (disch := omega) only [go_sem, ↓reduceIte] | with_reducible refine vIf_t ?_ | with_reducible refine vIf_f ?_)))
    exact bad (gaC_no fun q => by rw [hg] at q; simp at q)
  | true =>
    (repeat (first | simp (maxSteps := 2000000) (disch := omega) only [go_sem, ↓reduceIte] | with_reducible refine vIf_t ?_ | with_reducible refine vIf_f ?_))
    (refine vCallX_of ?_; (repeat (first | simp (maxSteps := 2000000) (disch := omega) only [go_sem, ↓reduceIte] | with_reducible refine vIf_t ?_ | with_reducible refine vIf_f ?_)); refine vCall_eq (inS_ok m 0 4000) (by simp (disch := omega) only [go_sem]) rfl (by first | exact Or.inl rfl | exact Or.inr ⟨rfl, rfl⟩ | (apply Or.inr; simp only [go_sem])) ?_; (repeat (first | simp (maxSteps := 2000000) (disch := omega) only [go_sem, ↓reduceIte] | with_reducible refine vIf_t ?_ | with_reducible refine vIf_f ?_)))
    by_cases c : 0 ≤ m ∧ m ≤ 4000
    · have d := decide_eq_true c
      have e : gaC xs 0 m = 0 := gaC_yes hg c
      (repeat (first | simp (maxSteps := 2000000) (disch := omega) only [go_sem, ↓reduceIte, d] | with_reducible refine vIf_t ?_ | with_reducible refine vIf_f ?_))
      refine vcLoop_invF (fun k : Nat => k ≤ xs.length) (fun k => ⟨43, 0, [(8, I k), (7, .ref 0 0 (ixs k (wrB xs m)).length), (1, I m), (0, .sl xs.length (ints xs))], [oI (ixs k (wrB xs m))]⟩) (fun k => xs.length - k) 0 (by omega) (by rw [ixs_zero]; (first | (refine leF_s ?_; ((repeat (first | simp (maxSteps := 2000000) (disch := omega) only [go_sem, ↓reduceIte] | with_reducible refine vIf_t ?_ | with_reducible refine vIf_f ?_)); all_goals (try simp); all_goals (try omega)); done) | (refine leF_p ?_; ((repeat (first | simp (maxSteps := 2000000) (disch := omega) only [go_sem, ↓reduceIte] | with_reducible refine vIf_t ?_ | with_reducible refine vIf_f ?_)); all_goals (try simp); all_goals (try omega)); done))) ?_
      intro k hk
      have hxl := ixs_len k (wrB xs m)
      have h60 := ((gaB_iff _).1 hg).2
      (repeat (first | simp (maxSteps := 2000000) (disch := omega) only [go_sem, ↓reduceIte] | with_reducible refine vIf_t ?_ | with_reducible refine vIf_f ?_))
      refine vIf_dec (fun h2 => ?_) (fun h2 => ?_)
      · have hkl : k < xs.length := by omega
        obtain ⟨b1, b2⟩ := md_lv hg hkl
        have hm := middleS_ok xs (by omega) (by omega)
        have ha := absG_ok (gi xs k - mdI xs) (by omega)
        (repeat (first | simp (maxSteps := 2000000) (disch := omega) only [go_sem, ↓reduceIte] | with_reducible refine vIf_t ?_ | with_reducible refine vIf_f ?_))
        (refine vDraw_sch 9 [(0, false), (1, false), (2, false), (4, false), (8, false), (3, false), (5, false), (6, false), (7, false)] mixed (by kernel_rfl) ?_; simp only [List.cons_append, List.nil_append, List.map_cons, List.map_nil, nthO_zero, nthO_succ, List.drop_succ_cons, List.drop_zero, List.drop_nil]; (repeat (first | simp (maxSteps := 2000000) (disch := omega) only [go_sem, ↓reduceIte] | with_reducible refine vIf_t ?_ | with_reducible refine vIf_f ?_)))
        (refine vsCallX_of ?_; (try (repeat (first | simp (maxSteps := 2000000) (disch := omega) only [go_sem, ↓reduceIte] | with_reducible refine vIf_t ?_ | with_reducible refine vIf_f ?_))); refine vCall_eq (hm) (by simp (disch := omega) only [go_sem]) rfl (by first | exact Or.inl rfl | exact Or.inr ⟨rfl, rfl⟩ | (apply Or.inr; simp only [go_sem])) ?_; (try (repeat (first | simp (maxSteps := 2000000) (disch := omega) only [go_sem, ↓reduceIte] | with_reducible refine vIf_t ?_ | with_reducible refine vIf_f ?_))))
        (try (repeat (first | simp (maxSteps := 2000000) (disch := omega) only [go_sem, ↓reduceIte] | with_reducible refine vIf_t ?_ | with_reducible refine vIf_f ?_)))
        (refine vsCallX_of ?_; (try (repeat (first | simp (maxSteps := 2000000) (disch := omega) only [go_sem, ↓reduceIte] | with_reducible refine vIf_t ?_ | with_reducible refine vIf_f ?_))); refine vCall_eq (ha) (by simp (disch := omega) only [go_sem]) rfl (by first | exact Or.inl rfl | exact Or.inr ⟨rfl, rfl⟩ | (apply Or.inr; simp only [go_sem])) ?_; (try (repeat (first | simp (maxSteps := 2000000) (disch := omega) only [go_sem, ↓reduceIte] | with_reducible refine vIf_t ?_ | with_reducible refine vIf_f ?_))))
        (try (repeat (first | simp (maxSteps := 2000000) (disch := omega) only [go_sem, ↓reduceIte] | with_reducible refine vIf_t ?_ | with_reducible refine vIf_f ?_)))
        by_cases c2 : m < ((gi xs k - mdI xs).natAbs : Int)
        · have d2 := decide_eq_true c2
          have e2 := ixs_yes (n := k) (q := wrB xs m) d2
          (try (repeat (first | simp (maxSteps := 2000000) (disch := omega) only [go_sem, ↓reduceIte, d2] | with_reducible refine vIf_t ?_ | with_reducible refine vIf_f ?_)))
          refine againF (k + 1) (by omega) (by omega) ?_
          rw [e2]
          (first | (refine leF_s ?_; ((repeat (first | simp (maxSteps := 2000000) (disch := omega) only [go_sem, ↓reduceIte] | with_reducible refine vIf_t ?_ | with_reducible refine vIf_f ?_)); all_goals (try simp); all_goals (try omega)); done) | (refine leF_p ?_; ((repeat (first | simp (maxSteps := 2000000) (disch := omega) only [go_sem, ↓reduceIte] | with_reducible refine vIf_t ?_ | with_reducible refine vIf_f ?_)); all_goals (try simp); all_goals (try omega)); done))
        · have d2 := decide_eq_false c2
          have e2 := ixs_no (n := k) (q := wrB xs m) d2
          (try (repeat (first | simp (maxSteps := 2000000) (disch := omega) only [go_sem, ↓reduceIte, d2] | with_reducible refine vIf_t ?_ | with_reducible refine vIf_f ?_)))
          refine againF (k + 1) (by omega) (by omega) ?_
          rw [e2]
          (first | (refine leF_s ?_; ((repeat (first | simp (maxSteps := 2000000) (disch := omega) only [go_sem, ↓reduceIte] | with_reducible refine vIf_t ?_ | with_reducible refine vIf_f ?_)); all_goals (try simp); all_goals (try omega)); done) | (refine leF_p ?_; ((repeat (first | simp (maxSteps := 2000000) (disch := omega) only [go_sem, ↓reduceIte] | with_reducible refine vIf_t ?_ | with_reducible refine vIf_f ?_)); all_goals (try simp); all_goals (try omega)); done))
      · have ek : k = xs.length := by omega
        (repeat (first | simp (maxSteps := 2000000) (disch := omega) only [go_sem, ↓reduceIte] | with_reducible refine vIf_t ?_ | with_reducible refine vIf_f ?_))
        (refine retK_of ?_; (repeat (first | simp (maxSteps := 2000000) (disch := omega) only [go_sem, ↓reduceIte] | with_reducible refine vIf_t ?_ | with_reducible refine vIf_f ?_)))
        rw [wrL, e, if_pos rfl, ek]
        exact .inl ⟨rfl, rfl⟩
    · have d := decide_eq_false c
      (repeat (first | simp (maxSteps := 2000000) (disch := omega) only [go_sem, ↓reduceIte, d] | with_reducible refine vIf_t ?_ | with_reducible refine vIf_f ?_))
      (refine retK_of ?_; (repeat (first | simp (maxSteps := 2000000) (disch := omega) only [go_sem, ↓reduceIte] | with_reducible refine vIf_t ?_ | with_reducible refine vIf_f ?_)))
      exact bad (gaC_no fun q => c q.2)
/-! levels that rise fast -/
def riB (xs : List Int) (b : Int) (i : Nat) : Bool := decide (0 < i) && decide (b ≤ gi xs i - gi xs (i - 1))
def riL (xs : List Int) (b : Int) : List Int := if gaC xs 1 b = 0 then ixs xs.length (riB xs b) else []
theorem rises1_ok (xs : List Int) (m : Int) (h : gaB xs = true) (i : Nat) (hi : i < xs.length) : ACalls Tryz.prog 74 [I i, .ip [.sl xs.length (ints xs)] 0, .ip [I m] 0] [] (fun r o => r = B (riB xs m i) ∧ o = []) := by
  refine ACalls.of_vc Tryz.func74 rfl (by decide) 21 rfl [.tmp 4] rfl (by simp) ?_
  obtain ⟨_, b2⟩ := md_lv h hi
  have h3 := ((gaB_iff _).1 h).2
  by_cases c : 0 < i
  · obtain ⟨_, b3⟩ := md_lv h (show i - 1 < xs.length by omega)
    have c0 : decide (0 < (i : Int)) = true := decide_eq_true (by omega)
    have c1 : decide (0 < i) = true := decide_eq_true c
    have j1 : ((i : Int) - 1).toNat = i - 1 := by omega
    unfold riB
    rw [c1]
    (repeat (first | simp (maxSteps := 2000000) (disch := omega) only [go_sem, ↓reduceIte] | with_reducible refine vIf_t ?_ | with_reducible refine vIf_f ?_))
    (refine vDraw_sch 14 [(0, false), (1, false), (2, false), (3, false), (4, false), (5, false), (6, false), (7, false), (8, false), (9, false), (10, false), (11, false), (12, false), (13, false)] mixed (by kernel_rfl) ?_; simp only [List.cons_append, List.nil_append, List.map_cons, List.map_nil, nthO_zero, nthO_succ, List.drop_succ_cons, List.drop_zero, List.drop_nil]; (repeat (first | simp (maxSteps := 2000000) (disch := omega) only [go_sem, ↓reduceIte] | with_reducible refine vIf_t ?_ | with_reducible refine vIf_f ?_)))
    (try (repeat (first | simp (maxSteps := 2000000) (disch := omega) only [go_sem, ↓reduceIte, c0, j1] | with_reducible refine vIf_t ?_ | with_reducible refine vIf_f ?_)))
    (refine retK_of ?_; (repeat (first | simp (maxSteps := 2000000) (disch := omega) only [go_sem, ↓reduceIte] | with_reducible refine vIf_t ?_ | with_reducible refine vIf_f ?_)))
  · have c0 : decide (0 < (i : Int)) = false := decide_eq_false (by omega)
    have c1 : decide (0 < i) = false := decide_eq_false c
    unfold riB
    rw [c1]
    (repeat (first | simp (maxSteps := 2000000) (disch := omega) only [go_sem, ↓reduceIte] | with_reducible refine vIf_t ?_ | with_reducible refine vIf_f ?_))
    (refine vDraw_sch 14 [(0, false), (1, false), (2, false), (3, false), (4, false), (5, false), (6, false), (7, false), (8, false), (9, false), (10, false), (11, false), (12, false), (13, false)] mixed (by kernel_rfl) ?_; simp only [List.cons_append, List.nil_append, List.map_cons, List.map_nil, nthO_zero, nthO_succ, List.drop_succ_cons, List.drop_zero, List.drop_nil]; (repeat (first | simp (maxSteps := 2000000) (disch := omega) only [go_sem, ↓reduceIte] | with_reducible refine vIf_t ?_ | with_reducible refine vIf_f ?_)))
    (try (repeat (first | simp (maxSteps := 2000000) (disch := omega) only [go_sem, ↓reduceIte, c0] | with_reducible refine vIf_t ?_ | with_reducible refine vIf_f ?_)))
    (refine retK_of ?_; (repeat (first | simp (maxSteps := 2000000) (disch := omega) only [go_sem, ↓reduceIte] | with_reducible refine vIf_t ?_ | with_reducible refine vIf_f ?_)))
theorem risesG_ok (xs : List Int) (m : Int) (hl : xs.length ≤ 1000000) : ACalls Tryz.prog 26 [.sl xs.length (ints xs), I m] [] (RowR (riL xs m) (gaC xs 1 m)) := by
  refine ACalls.of_vc Tryz.func26 rfl (by decide) 19 rfl [.tmp 4, .tmp 5] rfl (by simp) ?_
  have h := areGauges_ok xs hl
  have bad : gaC xs 1 m = 2 → RowR (riL xs m) (gaC xs 1 m) (.tup [.ref 0 0 0, I 2]) [oI []] := fun q => by
    rw [riL, q]
    exact .inl ⟨rfl, rfl⟩
  (repeat (first | simp (maxSteps := 2000000) (disch := omega) only [go_sem, ↓reduceIte] | with_reducible refine vIf_t ?_ | with_reducible refine vIf_f ?_))
  (refine vCallX_of ?_; (repeat (first | simp (maxSteps := 2000000) (disch := omega) only [go_sem, ↓reduceIte] | with_reducible refine vIf_t ?_ | with_reducible refine vIf_f ?_)); refine vCall_eq (h) (by simp (disch := omega) only [go_sem]) rfl (by first | exact Or.inl rfl | exact Or.inr ⟨rfl, rfl⟩ | (apply Or.inr; simp only [go_sem])) ?_; (repeat (first | simp (maxSteps := 2000000) (disch := omega) only [go_sem, ↓reduceIte] | with_reducible refine vIf_t ?_ | with_reducible refine vIf_f ?_)))
  cases hg : gaB xs with
  | false =>
    (repeat (first | simp (maxSteps := 2000000) (disch := omega) only [go_sem, ↓reduceIte] | with_reducible refine vIf_t ?_ | with_reducible refine vIf_f ?_))
    (refine retK_of ?_; (repeat (first | simp (maxSteps := 2000000) (disch := omega) only [go_sem, ↓reduceIte] | with_reducible refine vIf_t ?_ | with_reducible refine vIf_f ?_)))
    exact bad (gaC_no fun q => by rw [hg] at q; simp at q)
  | true =>
    (repeat (first | simp (maxSteps := 2000000) (disch := omega) only [go_sem, ↓reduceIte] | with_reducible refine vIf_t ?_ | with_reducible refine vIf_f ?_))
    (refine vCallX_of ?_; (repeat (first | simp (maxSteps := 2000000) (disch := omega) only [go_sem, ↓reduceIte] | with_reducible refine vIf_t ?_ | with_reducible refine vIf_f ?_)); refine vCall_eq (in_ok m 1 4000) (by simp (disch := omega) only [go_sem]) rfl (by first | exact Or.inl rfl | exact Or.inr ⟨rfl, rfl⟩ | (apply Or.inr; simp only [go_sem])) ?_; (repeat (first | simp (maxSteps := 2000000) (disch := omega) only [go_sem, ↓reduceIte] | with_reducible refine vIf_t ?_ | with_reducible refine vIf_f ?_)))
    by_cases c : 1 ≤ m ∧ m ≤ 4000
    · have d := decide_eq_true c
      have e : gaC xs 1 m = 0 := gaC_yes hg c
      have h3 := ixw_ok xs.length 74 [.ip [.sl xs.length (ints xs)] 0, .ip [I m] 0] (riB xs m) (fun i hi => rises1_ok xs m hg i hi) rfl (by omega)
      (repeat (first | simp (maxSteps := 2000000) (disch := omega) only [go_sem, ↓reduceIte, d] | with_reducible refine vIf_t ?_ | with_reducible refine vIf_f ?_))
      (refine vCallX_of ?_; (repeat (first | simp (maxSteps := 2000000) (disch := omega) only [go_sem, ↓reduceIte] | with_reducible refine vIf_t ?_ | with_reducible refine vIf_f ?_)); refine vCall_eq (size_ok (ints xs) xs.length) (by simp (disch := omega) only [go_sem]) rfl (by first | exact Or.inl rfl | exact Or.inr ⟨rfl, rfl⟩ | (apply Or.inr; simp only [go_sem])) ?_; (repeat (first | simp (maxSteps := 2000000) (disch := omega) only [go_sem, ↓reduceIte] | with_reducible refine vIf_t ?_ | with_reducible refine vIf_f ?_)))
      (refine vCallX_of ?_; (repeat (first | simp (maxSteps := 2000000) (disch := omega) only [go_sem, ↓reduceIte] | with_reducible refine vIf_t ?_ | with_reducible refine vIf_f ?_)); refine vCall_eq (h3) (by simp (disch := omega) only [go_sem]) rfl (by first | exact Or.inl rfl | exact Or.inr ⟨rfl, rfl⟩ | (apply Or.inr; simp only [go_sem])) ?_; (repeat (first | simp (maxSteps := 2000000) (disch := omega) only [go_sem, ↓reduceIte] | with_reducible refine vIf_t ?_ | with_reducible refine vIf_f ?_)))
      (refine retK_of ?_; (repeat (first | simp (maxSteps := 2000000) (disch := omega) only [go_sem, ↓reduceIte] | with_reducible refine vIf_t ?_ | with_reducible refine vIf_f ?_)))
      rw [riL, e, if_pos rfl]
      exact .inl ⟨rfl, rfl⟩
    · have d := decide_eq_false c
      (repeat (first | simp (maxSteps := 2000000) (disch := omega) only [go_sem, ↓reduceIte, d] | with_reducible refine vIf_t ?_ | with_reducible refine vIf_f ?_))
      (refine retK_of ?_; (repeat (first | simp (maxSteps := 2000000) (disch := omega) only [go_sem, ↓reduceIte] | with_reducible refine vIf_t ?_ | with_reducible refine vIf_f ?_)))
      exact bad (gaC_no fun q => c q.2)
theorem risesGS_ok (xs : List Int) (m : Int) (hl : xs.length ≤ 1000000) : ACalls Tryz.prog 27 [.sl xs.length (ints xs), I m] [] (RowR (riL xs m) (gaC xs 1 m)) := by
  refine ACalls.of_vc Tryz.func27 rfl (by decide) 45 rfl [.tmp 4, .tmp 5] rfl (by simp) ?_
  have h := gaugesS_ok xs hl
  have bad : gaC xs 1 m = 2 → RowR (riL xs m) (gaC xs 1 m) (.tup [.sc (.slice none 0 0), I 2]) [] := fun q => by
    rw [riL, q]
    exact .inr ⟨rfl, rfl, rfl⟩
  (repeat (first | simp (maxSteps := 2000000) (disch := omega) only [go_sem, ↓reduceIte] | with_reducible refine vIf_t ?_ | with_reducible refine vIf_f ?_))
  (refine vCallX_of ?_; (repeat (first | simp (maxSteps := 2000000) (disch := omega) only [go_sem, ↓reduceIte] | with_reducible refine vIf_t ?_ | with_reducible refine vIf_f ?_)); refine vCall_eq (h) (by simp (disch := omega) only [go_sem]) rfl (by first | exact Or.inl rfl | exact Or.inr ⟨rfl, rfl⟩ | (apply Or.inr; simp only [go_sem])) ?_; (repeat (first | simp (maxSteps := 2000000) (disch := omega) only [go_sem, ↓reduceIte] | with_reducible refine vIf_t ?_ | with_reducible refine vIf_f ?_)))
  cases hg : gaB xs with
  | false =>
    (repeat (first | simp (maxSteps := 2000000) (disch := omega) only [go_sem, ↓reduceIte] | with_reducible refine vIf_t ?_ | with_reducible refine vIf_f ?_))
    (refine retK_of ?_; (repeat (first | simp (maxSteps := 2000000) (disch := omega) only [go_sem, ↓reduceIte] | with_reducible refine vIf_t ?_ | with_reducible refine vIf_f ?_)))
    exact bad (gaC_no fun q => by rw [hg] at q; simp at q)
  | true =>
    (repeat (first | simp (maxSteps := 2000000) (disch := omega) only [go_sem, ↓reduceIte] | with_reducible refine vIf_t ?_ | with_reducible refine vIf_f ?_))
    (refine vCallX_of ?_; (repeat (first | simp (maxSteps := 2000000) (disch := omega) only [go_sem, ↓reduceIte] | with_reducible refine vIf_t ?_ | with_reducible refine vIf_f ?_)); refine vCall_eq (inS_ok m 1 4000) (by simp (disch := omega) only [go_sem]) rfl (by first | exact Or.inl rfl | exact Or.inr ⟨rfl, rfl⟩ | (apply Or.inr; simp only [go_sem])) ?_; (repeat (first | simp (maxSteps := 2000000) (disch := omega) only [go_sem, ↓reduceIte] | with_reducible refine vIf_t ?_ | with_reducible refine vIf_f ?_)))
    by_cases c : 1 ≤ m ∧ m ≤ 4000
    · have d := decide_eq_true c
      have e : gaC xs 1 m = 0 := gaC_yes hg c
      have z1 : ixs 1 (riB xs m) = [] := by rw [ixs_no rfl, ixs_zero]
      (repeat (first | simp (maxSteps := 2000000) (disch := omega) only [go_sem, ↓reduceIte, d] | with_reducible refine vIf_t ?_ | with_reducible refine vIf_f ?_))
      refine vcLoop_invF (fun k : Nat => k + 1 ≤ xs.length ∨ k = 0) (fun k => ⟨45, 0, [(8, I (k + 1)), (7, .ref 0 0 (ixs (k + 1) (riB xs m)).length), (1, I m), (0, .sl xs.length (ints xs))], [oI (ixs (k + 1) (riB xs m))]⟩) (fun k => xs.length - k) 0 (by omega) (by rw [Nat.zero_add, z1]; (first | (refine leF_s ?_; ((repeat (first | simp (maxSteps := 2000000) (disch := omega) only [go_sem, ↓reduceIte] | with_reducible refine vIf_t ?_ | with_reducible refine vIf_f ?_)); all_goals (try simp); all_goals (try omega)); done) | (refine leF_p ?_; ((repeat (first | simp (maxSteps := 2000000) (disch := omega) only [go_sem, ↓reduceIte] | with_reducible refine vIf_t ?_ | with_reducible refine vIf_f ?_)); all_goals (try simp); all_goals (try omega)); done))) ?_
      intro k hk
      have hxl := ixs_len (k + 1) (riB xs m)
      have h60 := ((gaB_iff _).1 hg).2
      (repeat (first | simp (maxSteps := 2000000) (disch := omega) only [go_sem, ↓reduceIte] | with_reducible refine vIf_t ?_ | with_reducible refine vIf_f ?_))
      refine vIf_dec (fun h2 => ?_) (fun h2 => ?_)
      · have hkl : k + 1 < xs.length := by omega
        obtain ⟨_, b2⟩ := md_lv hg hkl
        obtain ⟨_, b3⟩ := md_lv hg (show k < xs.length by omega)
        have j1 : ((k : Int) + 1).toNat = k + 1 := by omega
        have j2 : ((k : Int) + 1 - 1).toNat = k := by omega
        have c0 : decide (0 < k + 1) = true := decide_eq_true (by omega)
        (repeat (first | simp (maxSteps := 2000000) (disch := omega) only [go_sem, ↓reduceIte] | with_reducible refine vIf_t ?_ | with_reducible refine vIf_f ?_))
        (refine vDraw_sch 11 [(0, false), (1, false), (2, false), (4, false), (5, false), (6, false), (7, false), (10, false), (3, false), (8, true), (9, false)] mixed (by kernel_rfl) ?_; simp only [List.cons_append, List.nil_append, List.map_cons, List.map_nil, nthO_zero, nthO_succ, List.drop_succ_cons, List.drop_zero, List.drop_nil]; (repeat (first | simp (maxSteps := 2000000) (disch := omega) only [go_sem, ↓reduceIte] | with_reducible refine vIf_t ?_ | with_reducible refine vIf_f ?_)))
        (try (repeat (first | simp (maxSteps := 2000000) (disch := omega) only [go_sem, ↓reduceIte, j1, j2] | with_reducible refine vIf_t ?_ | with_reducible refine vIf_f ?_)))
        by_cases c2 : m ≤ gi xs (k + 1) - gi xs k
        · have d2 := decide_eq_true c2
          have e2 := ixs_yes (n := k + 1) (q := riB xs m) (by rw [riB, c0, Nat.add_sub_cancel, d2]; rfl)
          (try (repeat (first | simp (maxSteps := 2000000) (disch := omega) only [go_sem, ↓reduceIte, d2] | with_reducible refine vIf_t ?_ | with_reducible refine vIf_f ?_)))
          refine againF (k + 1) (by omega) (by omega) ?_
          rw [e2]
          (first | (refine leF_s ?_; ((repeat (first | simp (maxSteps := 2000000) (disch := omega) only [go_sem, ↓reduceIte] | with_reducible refine vIf_t ?_ | with_reducible refine vIf_f ?_)); all_goals (try simp); all_goals (try omega)); done) | (refine leF_p ?_; ((repeat (first | simp (maxSteps := 2000000) (disch := omega) only [go_sem, ↓reduceIte] | with_reducible refine vIf_t ?_ | with_reducible refine vIf_f ?_)); all_goals (try simp); all_goals (try omega)); done))
        · have d2 := decide_eq_false c2
          have e2 := ixs_no (n := k + 1) (q := riB xs m) (by rw [riB, c0, Nat.add_sub_cancel, d2]; rfl)
          (try (repeat (first | simp (maxSteps := 2000000) (disch := omega) only [go_sem, ↓reduceIte, d2] | with_reducible refine vIf_t ?_ | with_reducible refine vIf_f ?_)))
          refine againF (k + 1) (by omega) (by omega) ?_
          rw [e2]
          (first | (refine leF_s ?_; ((repeat (first | simp (maxSteps := 2000000) (disch := omega) only [go_sem, ↓reduceIte] | with_reducible refine vIf_t ?_ | with_reducible refine vIf_f ?_)); all_goals (try simp); all_goals (try omega)); done) | (refine leF_p ?_; ((repeat (first | simp (maxSteps := 2000000) (disch := omega) only [go_sem, ↓reduceIte] | with_reducible refine vIf_t ?_ | with_reducible refine vIf_f ?_)); all_goals (try simp); all_goals (try omega)); done))
      · (repeat (first | simp (maxSteps := 2000000) (disch := omega) only [go_sem, ↓reduceIte] | with_reducible refine vIf_t ?_ | with_reducible refine vIf_f ?_))
        (refine retK_of ?_; (repeat (first | simp (maxSteps := 2000000) (disch := omega) only [go_sem, ↓reduceIte] | with_reducible refine vIf_t ?_ | with_reducible refine vIf_f ?_)))
        have ek : ixs (k + 1) (riB xs m) = ixs xs.length (riB xs m) := by
          rcases hk with hk | hk
          · rw [show k + 1 = xs.length by omega]
          · subst hk
            rcases (show xs.length = 0 ∨ xs.length = 1 by omega) with q | q
            · rw [q, z1, ixs_zero]
            · rw [q]
        rw [riL, e, if_pos rfl, ek]
        exact .inl ⟨rfl, rfl⟩
    · have d := decide_eq_false c
      (repeat (first | simp (maxSteps := 2000000) (disch := omega) only [go_sem, ↓reduceIte, d] | with_reducible refine vIf_t ?_ | with_reducible refine vIf_f ?_))
      (refine retK_of ?_; (repeat (first | simp (maxSteps := 2000000) (disch := omega) only [go_sem, ↓reduceIte] | with_reducible refine vIf_t ?_ | with_reducible refine vIf_f ?_)))
      exact bad (gaC_no fun q => c q.2)
/-! a gauge -/
def lgC (z r : Int) : Int := if (-2000 ≤ z ∧ z ≤ 2000) ∧ (0 ≤ r ∧ r ≤ 10000) then (if -2000 ≤ z + r ∧ z + r ≤ 2000 then 0 else 5) else 2
def lgV (z r : Int) : Int := if lgC z r = 0 then z + r else 0
theorem levelG_ok (z r : Int) : ACalls Tryz.prog 29 [I z, I r] [] (fun q o => q = .tup [I (lgV z r), I (lgC z r)] ∧ o = []) := by
  refine ACalls.of_vc Tryz.func29 rfl (by decide) 24 rfl [.tmp 4, .tmp 5] rfl (by simp) ?_
  unfold lgV
  (repeat (first | simp (maxSteps := 2000000) (disch := omega) only [go_sem, ↓reduceIte] | with_reducible refine vIf_t ?_ | with_reducible refine vIf_f ?_))
  (refine vCallX_of ?_; (repeat (first | simp (maxSteps := 2000000) (disch := omega) only [go_sem, ↓reduceIte] | with_reducible refine vIf_t ?_ | with_reducible refine vIf_f ?_)); refine vCall_eq (lv_ok z) (by simp (disch := omega) only [go_sem]) rfl (by first | exact Or.inl rfl | exact Or.inr ⟨rfl, rfl⟩ | (apply Or.inr; simp only [go_sem])) ?_; (repeat (first | simp (maxSteps := 2000000) (disch := omega) only [go_sem, ↓reduceIte] | with_reducible refine vIf_t ?_ | with_reducible refine vIf_f ?_)))
  by_cases c1 : -2000 ≤ z ∧ z ≤ 2000
  · have d1 := decide_eq_true c1
    (repeat (first | simp (maxSteps := 2000000) (disch := omega) only [go_sem, ↓reduceIte, d1] | with_reducible refine vIf_t ?_ | with_reducible refine vIf_f ?_))
    (refine vCallX_of ?_; (repeat (first | simp (maxSteps := 2000000) (disch := omega) only [go_sem, ↓reduceIte] | with_reducible refine vIf_t ?_ | with_reducible refine vIf_f ?_)); refine vCall_eq (in_ok r 0 10000) (by simp (disch := omega) only [go_sem]) rfl (by first | exact Or.inl rfl | exact Or.inr ⟨rfl, rfl⟩ | (apply Or.inr; simp only [go_sem])) ?_; (repeat (first | simp (maxSteps := 2000000) (disch := omega) only [go_sem, ↓reduceIte] | with_reducible refine vIf_t ?_ | with_reducible refine vIf_f ?_)))
    by_cases c2 : 0 ≤ r ∧ r ≤ 10000
    · have d2 := decide_eq_true c2
      (repeat (first | simp (maxSteps := 2000000) (disch := omega) only [go_sem, ↓reduceIte, d2] | with_reducible refine vIf_t ?_ | with_reducible refine vIf_f ?_))
      (refine vCallX_of ?_; (repeat (first | simp (maxSteps := 2000000) (disch := omega) only [go_sem, ↓reduceIte] | with_reducible refine vIf_t ?_ | with_reducible refine vIf_f ?_)); refine vCall_eq (lv_ok (z + r)) (by simp (disch := omega) only [go_sem]) rfl (by first | exact Or.inl rfl | exact Or.inr ⟨rfl, rfl⟩ | (apply Or.inr; simp only [go_sem])) ?_; (repeat (first | simp (maxSteps := 2000000) (disch := omega) only [go_sem, ↓reduceIte] | with_reducible refine vIf_t ?_ | with_reducible refine vIf_f ?_)))
      by_cases c3 : -2000 ≤ z + r ∧ z + r ≤ 2000
      · have d3 := decide_eq_true c3
        have e : lgC z r = 0 := by rw [lgC, if_pos ⟨c1, c2⟩, if_pos c3]
        (repeat (first | simp (maxSteps := 2000000) (disch := omega) only [go_sem, ↓reduceIte, d3] | with_reducible refine vIf_t ?_ | with_reducible refine vIf_f ?_))
        (refine retK_of ?_; (repeat (first | simp (maxSteps := 2000000) (disch := omega) only [go_sem, ↓reduceIte] | with_reducible refine vIf_t ?_ | with_reducible refine vIf_f ?_)))
        rw [e]; rfl
      · have d3 := decide_eq_false c3
        have e : lgC z r = 5 := by rw [lgC, if_pos ⟨c1, c2⟩, if_neg c3]
        (repeat (first | simp (maxSteps := 2000000) (disch := omega) only [go_sem, ↓reduceIte, d3] | with_reducible refine vIf_t ?_ | with_reducible refine vIf_f ?_))
        (refine retK_of ?_; (repeat (first | simp (maxSteps := 2000000) (disch := omega) only [go_sem, ↓reduceIte] | with_reducible refine vIf_t ?_ | with_reducible refine vIf_f ?_)))
        rw [e]; rfl
    · have d2 := decide_eq_false c2
      have e : lgC z r = 2 := by rw [lgC, if_neg fun q => c2 q.2]
      (repeat (first | simp (maxSteps := 2000000) (disch := omega) only [go_sem, ↓reduceIte, d2] | with_reducible refine vIf_t ?_ | with_reducible refine vIf_f ?_))
      (refine retK_of ?_; (repeat (first | simp (maxSteps := 2000000) (disch := omega) only [go_sem, ↓reduceIte] | with_reducible refine vIf_t ?_ | with_reducible refine vIf_f ?_)))
      rw [e]; rfl
  · have d1 := decide_eq_false c1
    have e : lgC z r = 2 := by rw [lgC, if_neg fun q => c1 q.1]
    (repeat (first | simp (maxSteps := 2000000) (disch := omega) only [go_sem, ↓reduceIte, d1] | with_reducible refine vIf_t ?_ | with_reducible refine vIf_f ?_))
    (refine retK_of ?_; (repeat (first | simp (maxSteps := 2000000) (disch := omega) only [go_sem, ↓reduceIte] | with_reducible refine vIf_t ?_ | with_reducible refine vIf_f ?_)))
    rw [e]; rfl
theorem levelGS_ok (z r : Int) : ACalls Tryz.prog 30 [I z, I r] [] (fun q o => q = .tup [I (lgV z r), I (lgC z r)] ∧ o = []) := by
  refine ACalls.of_vc Tryz.func30 rfl (by decide) 22 rfl [.tmp 4, .tmp 5] rfl (by simp) ?_
  unfold lgV
  (repeat (first | simp (maxSteps := 2000000) (disch := omega) only [go_sem, ↓reduceIte] | with_reducible refine vIf_t ?_ | with_reducible refine vIf_f ?_))
  (refine vCallX_of ?_; (repeat (first | simp (maxSteps := 2000000) (disch := omega) only [go_sem, ↓reduceIte] | with_reducible refine vIf_t ?_ | with_reducible refine vIf_f ?_)); refine vCall_eq (lvS_ok z) (by simp (disch := omega) only [go_sem]) rfl (by first | exact Or.inl rfl | exact Or.inr ⟨rfl, rfl⟩ | (apply Or.inr; simp only [go_sem])) ?_; (repeat (first | simp (maxSteps := 2000000) (disch := omega) only [go_sem, ↓reduceIte] | with_reducible refine vIf_t ?_ | with_reducible refine vIf_f ?_)))
  by_cases c1 : -2000 ≤ z ∧ z ≤ 2000
  · have d1 := decide_eq_true c1
    (repeat (first | simp (maxSteps := 2000000) (disch := omega) only [go_sem, ↓reduceIte, d1] | with_reducible refine vIf_t ?_ | with_reducible refine vIf_f ?_))
    (refine vCallX_of ?_; (repeat (first | simp (maxSteps := 2000000) (disch := omega) only [go_sem, ↓reduceIte] | with_reducible refine vIf_t ?_ | with_reducible refine vIf_f ?_)); refine vCall_eq (inS_ok r 0 10000) (by simp (disch := omega) only [go_sem]) rfl (by first | exact Or.inl rfl | exact Or.inr ⟨rfl, rfl⟩ | (apply Or.inr; simp only [go_sem])) ?_; (repeat (first | simp (maxSteps := 2000000) (disch := omega) only [go_sem, ↓reduceIte] | with_reducible refine vIf_t ?_ | with_reducible refine vIf_f ?_)))
    by_cases c2 : 0 ≤ r ∧ r ≤ 10000
    · have d2 := decide_eq_true c2
      (repeat (first | simp (maxSteps := 2000000) (disch := omega) only [go_sem, ↓reduceIte, d2] | with_reducible refine vIf_t ?_ | with_reducible refine vIf_f ?_))
      (refine vCallX_of ?_; (repeat (first | simp (maxSteps := 2000000) (disch := omega) only [go_sem, ↓reduceIte] | with_reducible refine vIf_t ?_ | with_reducible refine vIf_f ?_)); refine vCall_eq (lvS_ok (z + r)) (by simp (disch := omega) only [go_sem]) rfl (by first | exact Or.inl rfl | exact Or.inr ⟨rfl, rfl⟩ | (apply Or.inr; simp only [go_sem])) ?_; (repeat (first | simp (maxSteps := 2000000) (disch := omega) only [go_sem, ↓reduceIte] | with_reducible refine vIf_t ?_ | with_reducible refine vIf_f ?_)))
      by_cases c3 : -2000 ≤ z + r ∧ z + r ≤ 2000
      · have d3 := decide_eq_true c3
        have e : lgC z r = 0 := by rw [lgC, if_pos ⟨c1, c2⟩, if_pos c3]
        (repeat (first | simp (maxSteps := 2000000) (disch := omega) only [go_sem, ↓reduceIte, d3] | with_reducible refine vIf_t ?_ | with_reducible refine vIf_f ?_))
        (refine retK_of ?_; (repeat (first | simp (maxSteps := 2000000) (disch := omega) only [go_sem, ↓reduceIte] | with_reducible refine vIf_t ?_ | with_reducible refine vIf_f ?_)))
        rw [e]; rfl
      · have d3 := decide_eq_false c3
        have e : lgC z r = 5 := by rw [lgC, if_pos ⟨c1, c2⟩, if_neg c3]
        (repeat (first | simp (maxSteps := 2000000) (disch := omega) only [go_sem, ↓reduceIte, d3] | with_reducible refine vIf_t ?_ | with_reducible refine vIf_f ?_))
        (refine retK_of ?_; (repeat (first | simp (maxSteps := 2000000) (disch := omega) only [go_sem, ↓reduceIte] | with_reducible refine vIf_t ?_ | with_reducible refine vIf_f ?_)))
        rw [e]; rfl
    · have d2 := decide_eq_false c2
      have e : lgC z r = 2 := by rw [lgC, if_neg fun q => c2 q.2]
      (repeat (first | simp (maxSteps := 2000000) (disch := omega) only [go_sem, ↓reduceIte, d2] | with_reducible refine vIf_t ?_ | with_reducible refine vIf_f ?_))
      (refine retK_of ?_; (repeat (first | simp (maxSteps := 2000000) (disch := omega) only [go_sem, ↓reduceIte] | with_reducible refine vIf_t ?_ | with_reducible refine vIf_f ?_)))
      rw [e]; rfl
  · have d1 := decide_eq_false c1
    have e : lgC z r = 2 := by rw [lgC, if_neg fun q => c1 q.1]
    (repeat (first | simp (maxSteps := 2000000) (disch := omega) only [go_sem, ↓reduceIte, d1] | with_reducible refine vIf_t ?_ | with_reducible refine vIf_f ?_))
    (refine retK_of ?_; (repeat (first | simp (maxSteps := 2000000) (disch := omega) only [go_sem, ↓reduceIte] | with_reducible refine vIf_t ?_ | with_reducible refine vIf_f ?_)))
    rw [e]; rfl
theorem dayG_ok (n : Int) : ACalls Tryz.prog 41 [I n] [] (fun r o => r = B (decide (0 ≤ n ∧ n ≤ 100000)) ∧ o = []) := by
  refine ACalls.of_vc Tryz.func41 rfl (by decide) 5 rfl [.tmp 2] rfl (by simp) ?_
  (repeat (first | simp (maxSteps := 2000000) (disch := omega) only [go_sem, ↓reduceIte] | with_reducible refine vIf_t ?_ | with_reducible refine vIf_f ?_))
  (refine vCallX_of ?_; (repeat (first | simp (maxSteps := 2000000) (disch := omega) only [go_sem, ↓reduceIte] | with_reducible refine vIf_t ?_ | with_reducible refine vIf_f ?_)); refine vCall_eq (in_ok n 0 100000) (by simp (disch := omega) only [go_sem]) rfl (by first | exact Or.inl rfl | exact Or.inr ⟨rfl, rfl⟩ | (apply Or.inr; simp only [go_sem])) ?_; (repeat (first | simp (maxSteps := 2000000) (disch := omega) only [go_sem, ↓reduceIte] | with_reducible refine vIf_t ?_ | with_reducible refine vIf_f ?_)))
  (refine retK_of ?_; (repeat (first | simp (maxSteps := 2000000) (disch := omega) only [go_sem, ↓reduceIte] | with_reducible refine vIf_t ?_ | with_reducible refine vIf_f ?_)))
theorem dayG0_ok (n : Int) : ACalls Tryz.prog 92 [I n] [] (fun r o => r = B (decide (0 ≤ n ∧ n ≤ 100000)) ∧ o = []) := by
  refine ACalls.of_vc Tryz.func92 rfl (by decide) 5 rfl [.tmp 2] rfl (by simp) ?_
  (repeat (first | simp (maxSteps := 2000000) (disch := omega) only [go_sem, ↓reduceIte] | with_reducible refine vIf_t ?_ | with_reducible refine vIf_f ?_))
  (refine vCallX_of ?_; (repeat (first | simp (maxSteps := 2000000) (disch := omega) only [go_sem, ↓reduceIte] | with_reducible refine vIf_t ?_ | with_reducible refine vIf_f ?_)); refine vCall_eq (inS_ok n 0 100000) (by simp (disch := omega) only [go_sem]) rfl (by first | exact Or.inl rfl | exact Or.inr ⟨rfl, rfl⟩ | (apply Or.inr; simp only [go_sem])) ?_; (repeat (first | simp (maxSteps := 2000000) (disch := omega) only [go_sem, ↓reduceIte] | with_reducible refine vIf_t ?_ | with_reducible refine vIf_f ?_)))
  (refine retK_of ?_; (repeat (first | simp (maxSteps := 2000000) (disch := omega) only [go_sem, ↓reduceIte] | with_reducible refine vIf_t ?_ | with_reducible refine vIf_f ?_)))
theorem dayGS_ok (n : Int) : ACalls Tryz.prog 42 [I n] [] (fun r o => r = B (decide (0 ≤ n ∧ n ≤ 100000)) ∧ o = []) := by
  refine ACalls.of_vc Tryz.func42 rfl (by decide) 5 rfl [.tmp 2] rfl (by simp) ?_
  (repeat (first | simp (maxSteps := 2000000) (disch := omega) only [go_sem, ↓reduceIte] | with_reducible refine vIf_t ?_ | with_reducible refine vIf_f ?_))
  (refine vCallX_of ?_; (repeat (first | simp (maxSteps := 2000000) (disch := omega) only [go_sem, ↓reduceIte] | with_reducible refine vIf_t ?_ | with_reducible refine vIf_f ?_)); refine vCall_eq (dayG0_ok n) (by simp (disch := omega) only [go_sem]) rfl (by first | exact Or.inl rfl | exact Or.inr ⟨rfl, rfl⟩ | (apply Or.inr; simp only [go_sem])) ?_; (repeat (first | simp (maxSteps := 2000000) (disch := omega) only [go_sem, ↓reduceIte] | with_reducible refine vIf_t ?_ | with_reducible refine vIf_f ?_)))
  (refine retK_of ?_; (repeat (first | simp (maxSteps := 2000000) (disch := omega) only [go_sem, ↓reduceIte] | with_reducible refine vIf_t ?_ | with_reducible refine vIf_f ?_)))
theorem lvGS_ok (n : Int) : ACalls Tryz.prog 39 [I n] [] (fun r o => r = B (decide (-2000 ≤ n ∧ n ≤ 2000)) ∧ o = []) := by
  refine ACalls.of_vc Tryz.func39 rfl (by decide) 5 rfl [.tmp 2] rfl (by simp) ?_
  (repeat (first | simp (maxSteps := 2000000) (disch := omega) only [go_sem, ↓reduceIte] | with_reducible refine vIf_t ?_ | with_reducible refine vIf_f ?_))
  (refine vCallX_of ?_; (repeat (first | simp (maxSteps := 2000000) (disch := omega) only [go_sem, ↓reduceIte] | with_reducible refine vIf_t ?_ | with_reducible refine vIf_f ?_)); refine vCall_eq (lvS_ok n) (by simp (disch := omega) only [go_sem]) rfl (by first | exact Or.inl rfl | exact Or.inr ⟨rfl, rfl⟩ | (apply Or.inr; simp only [go_sem])) ?_; (repeat (first | simp (maxSteps := 2000000) (disch := omega) only [go_sem, ↓reduceIte] | with_reducible refine vIf_t ?_ | with_reducible refine vIf_f ?_)))
  (refine retK_of ?_; (repeat (first | simp (maxSteps := 2000000) (disch := omega) only [go_sem, ↓reduceIte] | with_reducible refine vIf_t ?_ | with_reducible refine vIf_f ?_)))
end Go.Proofs.YtjgjnedenapemaaGreatDoor

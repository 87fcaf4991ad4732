/- alarms: stages, escalations, warning times -/
import Derived.Test.YtjgjnedenapemaaGreatDoorAl2
set_option linter.unusedVariables false
set_option linter.unusedSimpArgs false
namespace Go.Proofs.YtjgjnedenapemaaGreatDoor
open Go.AG

attribute [local go_sem] beq_self_eq_true bne_self_eq_false Bool.not_true Bool.not_false
theorem alStages_ok (xs ls : List Int) (h : Nat) (hx : AlX xs) (hv : ∀ x ∈ ls, -2000 ≤ x ∧ x ≤ 2000) (hl : ls.length ≤ 200) (hh : h ≤ 100) : ACalls Tryz.prog 9 [.sl xs.length (ints xs), .sl ls.length (ints ls), I h] [] (fun r o => r = .tup [.ref 0 0 ls.length, I 0] ∧ o = [oI (stL xs ls h ls.length)]) := by
  refine ACalls.of_vc Tryz.func9 rfl (by decide) 24 rfl [.tmp 6, .tmp 7] rfl (by simp) ?_
  have h1 := alarmCode_ok xs ls hx hv hl
  have h2 := in_ok (h : Int) 0 100
  rw [decide_eq_true (show 0 ≤ (h : Int) ∧ (h : Int) ≤ 100 by omega)] at h2
  have h3 := alarmStages_ok xs ls h hx.n5 hl hh
  (repeat (first | simp (maxSteps := 2000000) (disch := omega) only [go_sem, ↓reduceIte] | with_reducible refine vIf_t ?_ | with_reducible refine vIf_f ?_))
  (refine vCallX_of ?_; (repeat (first | simp (maxSteps := 2000000) (disch := omega) only [go_sem, ↓reduceIte] | with_reducible refine vIf_t ?_ | with_reducible refine vIf_f ?_)); refine vCall_eq (h1) (by simp (disch := omega) only [go_sem]) rfl (by first | exact Or.inl rfl | exact Or.inr ⟨rfl, rfl⟩ | (apply Or.inr; simp only [go_sem])) ?_; (repeat (first | simp (maxSteps := 2000000) (disch := omega) only [go_sem, ↓reduceIte] | with_reducible refine vIf_t ?_ | with_reducible refine vIf_f ?_)))
  (refine vCallX_of ?_; (repeat (first | simp (maxSteps := 2000000) (disch := omega) only [go_sem, ↓reduceIte] | with_reducible refine vIf_t ?_ | with_reducible refine vIf_f ?_)); refine vCall_eq (h2) (by simp (disch := omega) only [go_sem]) rfl (by first | exact Or.inl rfl | exact Or.inr ⟨rfl, rfl⟩ | (apply Or.inr; simp only [go_sem])) ?_; (repeat (first | simp (maxSteps := 2000000) (disch := omega) only [go_sem, ↓reduceIte] | with_reducible refine vIf_t ?_ | with_reducible refine vIf_f ?_)))
  (refine vCallX_of ?_; (repeat (first | simp (maxSteps := 2000000) (disch := omega) only [go_sem, ↓reduceIte] | with_reducible refine vIf_t ?_ | with_reducible refine vIf_f ?_)); refine vCall_eq (h3) (by simp (disch := omega) only [go_sem]) rfl (by first | exact Or.inl rfl | exact Or.inr ⟨rfl, rfl⟩ | (apply Or.inr; simp only [go_sem])) ?_; (repeat (first | simp (maxSteps := 2000000) (disch := omega) only [go_sem, ↓reduceIte] | with_reducible refine vIf_t ?_ | with_reducible refine vIf_f ?_)))
  (refine retK_of ?_; (repeat (first | simp (maxSteps := 2000000) (disch := omega) only [go_sem, ↓reduceIte] | with_reducible refine vIf_t ?_ | with_reducible refine vIf_f ?_)))
theorem alStagesF_ok (xs ls : List Int) (h : Nat) (hx : AlX xs) (hv : ∀ x ∈ ls, -2000 ≤ x ∧ x ≤ 2000) (hl : ls.length ≤ 200) (hh : h ≤ 100) : ACalls Tryz.prog 9 [.sl xs.length (ints xs), .sl ls.length (ints ls), I h] [] (fun r o => r = .tup [.sl ls.length (ints (stL xs ls h ls.length)), I 0] ∧ o = []) := by
  refine (alStages_ok xs ls h hx hv hl hh).fz ?_
  rintro r o ⟨rfl, rfl⟩
  have l2 := stL_len xs ls h ls.length
  refine ⟨.tup [.sl ls.length (ints (stL xs ls h ls.length)), I 0], .step 0 ⟨1, ints (stL xs ls h ls.length)⟩ rfl (by (repeat (first | simp (maxSteps := 2000000) (disch := omega) only [go_sem, ↓reduceIte] | with_reducible refine vIf_t ?_ | with_reducible refine vIf_f ?_))) ?_, rfl, rfl⟩
  (repeat (first | simp (maxSteps := 2000000) (disch := omega) only [go_sem, ↓reduceIte, l2] | with_reducible refine vIf_t ?_ | with_reducible refine vIf_f ?_))
  exact .done rfl
/-- the hours in which the stage rises -/
def esQ (xs ls : List Int) (h : Nat) (i : Nat) : Bool := decide (nwS (sgN xs ls) h i < nwS (sgN xs ls) h (i + 1))
def esL (xs ls : List Int) (h : Nat) : List Int := ixs ls.length (esQ xs ls h)
theorem esc1_ok (xs ls : List Int) (h : Nat) (i : Nat) (hi : i < ls.length) (hl : ls.length ≤ 200) : ACalls Tryz.prog 52 [I i, .ip [.sl ls.length (ints (stL xs ls h ls.length))] 0] [] (fun r o => r = B (esQ xs ls h i) ∧ o = []) := by
  refine ACalls.of_vc Tryz.func52 rfl (by decide) 28 rfl [.tmp 3] rfl (by simp) ?_
  have l2 := stL_len xs ls h ls.length
  have g1 := stL_gi xs ls h ls.length i hi
  obtain ⟨S, hS⟩ : ∃ S, S = stL xs ls h ls.length := ⟨_, rfl⟩
  rw [← hS] at l2 g1 ⊢
  unfold esQ
  by_cases c : i = 0
  · have c0 : ((i : Int) == 0) = true := by simp; omega
    have c1 : decide (0 < (i : Int)) = false := decide_eq_false (by omega)
    have g0 : gi S 0 = gi S i := by rw [c]
    have e : nwS (sgN xs ls) h i = 0 := by rw [c]; rfl
    rw [e, ← g1]
    by_cases q : 0 < gi S i
    · have d := decide_eq_true q
      rw [d]
      (repeat (first | simp (maxSteps := 2000000) (disch := omega) only [go_sem, ↓reduceIte] | with_reducible refine vIf_t ?_ | with_reducible refine vIf_f ?_))
      (refine vDraw_sch 21 [(0, false), (1, false), (2, false), (3, false), (4, false), (5, false), (6, false), (7, false), (8, false), (9, false), (10, false), (11, false), (12, false), (13, false), (14, false), (15, false), (16, false), (17, false), (18, false), (19, false), (20, false)] mixed (by kernel_rfl) ?_; simp only [List.cons_append, List.nil_append, List.map_cons, List.map_nil, nthO_zero, nthO_succ, List.drop_succ_cons, List.drop_zero, List.drop_nil]; (repeat (first | simp (maxSteps := 2000000) (disch := omega) only [go_sem, ↓reduceIte] | with_reducible refine vIf_t ?_ | with_reducible refine vIf_f ?_)))
      (try (repeat (first | simp (maxSteps := 2000000) (disch := omega) only [go_sem, ↓reduceIte, c0, c1, g0, d] | with_reducible refine vIf_t ?_ | with_reducible refine vIf_f ?_)))
      (refine retK_of ?_; (repeat (first | simp (maxSteps := 2000000) (disch := omega) only [go_sem, ↓reduceIte] | with_reducible refine vIf_t ?_ | with_reducible refine vIf_f ?_)))
    · have d := decide_eq_false q
      rw [d]
      (repeat (first | simp (maxSteps := 2000000) (disch := omega) only [go_sem, ↓reduceIte] | with_reducible refine vIf_t ?_ | with_reducible refine vIf_f ?_))
      (refine vDraw_sch 21 [(0, false), (1, false), (2, false), (3, false), (4, false), (5, false), (6, false), (7, false), (8, false), (9, false), (10, false), (11, false), (12, false), (13, false), (14, false), (15, false), (16, false), (17, false), (18, false), (19, false), (20, false)] mixed (by kernel_rfl) ?_; simp only [List.cons_append, List.nil_append, List.map_cons, List.map_nil, nthO_zero, nthO_succ, List.drop_succ_cons, List.drop_zero, List.drop_nil]; (repeat (first | simp (maxSteps := 2000000) (disch := omega) only [go_sem, ↓reduceIte] | with_reducible refine vIf_t ?_ | with_reducible refine vIf_f ?_)))
      (try (repeat (first | simp (maxSteps := 2000000) (disch := omega) only [go_sem, ↓reduceIte, c0, c1, g0, d] | with_reducible refine vIf_t ?_ | with_reducible refine vIf_f ?_)))
      (refine retK_of ?_; (repeat (first | simp (maxSteps := 2000000) (disch := omega) only [go_sem, ↓reduceIte] | with_reducible refine vIf_t ?_ | with_reducible refine vIf_f ?_)))
  · have c0 : ((i : Int) == 0) = false := by simp; omega
    have c1 : decide (0 < (i : Int)) = true := decide_eq_true (by omega)
    have j1 : ((i : Int) - 1).toNat = i - 1 := by omega
    have g2 := stL_gi xs ls h ls.length (i - 1) (by omega)
    rw [← hS, show i - 1 + 1 = i by omega] at g2
    rw [← g1, ← g2]
    (repeat (first | simp (maxSteps := 2000000) (disch := omega) only [go_sem, ↓reduceIte] | with_reducible refine vIf_t ?_ | with_reducible refine vIf_f ?_))
    (refine vDraw_sch 21 [(0, false), (1, false), (2, false), (3, false), (4, false), (5, false), (6, false), (7, false), (8, false), (9, false), (10, false), (11, false), (12, false), (13, false), (14, false), (15, false), (16, false), (17, false), (18, false), (19, false), (20, false)] mixed (by kernel_rfl) ?_; simp only [List.cons_append, List.nil_append, List.map_cons, List.map_nil, nthO_zero, nthO_succ, List.drop_succ_cons, List.drop_zero, List.drop_nil]; (repeat (first | simp (maxSteps := 2000000) (disch := omega) only [go_sem, ↓reduceIte] | with_reducible refine vIf_t ?_ | with_reducible refine vIf_f ?_)))
    (try (repeat (first | simp (maxSteps := 2000000) (disch := omega) only [go_sem, ↓reduceIte, c0, c1, j1] | with_reducible refine vIf_t ?_ | with_reducible refine vIf_f ?_)))
    (refine retK_of ?_; (repeat (first | simp (maxSteps := 2000000) (disch := omega) only [go_sem, ↓reduceIte] | with_reducible refine vIf_t ?_ | with_reducible refine vIf_f ?_)))
theorem esc_ok (xs ls : List Int) (h : Nat) (hx : AlX xs) (hv : ∀ x ∈ ls, -2000 ≤ x ∧ x ≤ 2000) (hl : ls.length ≤ 200) (hh : h ≤ 100) : ACalls Tryz.prog 10 [.sl xs.length (ints xs), .sl ls.length (ints ls), I h] [] (fun r o => r = .tup [.sl (esL xs ls h).length (ints (esL xs ls h)), I 0] ∧ o = []) := by
  refine ACalls.of_vc Tryz.func10 rfl (by decide) 25 rfl [.tmp 6, .tmp 7] rfl (by simp) ?_
  have h1 := alStagesF_ok xs ls h hx hv hl hh
  have h3 := ixw_ok ls.length 52 [.ip [.sl ls.length (ints (stL xs ls h ls.length))] 0] (esQ xs ls h) (fun i hi => esc1_ok xs ls h i hi hl) rfl (by omega)
  (repeat (first | simp (maxSteps := 2000000) (disch := omega) only [go_sem, ↓reduceIte] | with_reducible refine vIf_t ?_ | with_reducible refine vIf_f ?_))
  (refine vCallX_of ?_; (repeat (first | simp (maxSteps := 2000000) (disch := omega) only [go_sem, ↓reduceIte] | with_reducible refine vIf_t ?_ | with_reducible refine vIf_f ?_)); refine vCall_eq (h1) (by simp (disch := omega) only [go_sem]) rfl (by first | exact Or.inl rfl | exact Or.inr ⟨rfl, rfl⟩ | (apply Or.inr; simp only [go_sem])) ?_; (repeat (first | simp (maxSteps := 2000000) (disch := omega) only [go_sem, ↓reduceIte] | with_reducible refine vIf_t ?_ | with_reducible refine vIf_f ?_)))
  (refine vCallX_of ?_; (repeat (first | simp (maxSteps := 2000000) (disch := omega) only [go_sem, ↓reduceIte] | with_reducible refine vIf_t ?_ | with_reducible refine vIf_f ?_)); refine vCall_eq (size_ok (ints (stL xs ls h ls.length)) ls.length) (by simp (disch := omega) only [go_sem]) rfl (by first | exact Or.inl rfl | exact Or.inr ⟨rfl, rfl⟩ | (apply Or.inr; simp only [go_sem])) ?_; (repeat (first | simp (maxSteps := 2000000) (disch := omega) only [go_sem, ↓reduceIte] | with_reducible refine vIf_t ?_ | with_reducible refine vIf_f ?_)))
  (refine vCallX_of ?_; (repeat (first | simp (maxSteps := 2000000) (disch := omega) only [go_sem, ↓reduceIte] | with_reducible refine vIf_t ?_ | with_reducible refine vIf_f ?_)); refine vCall_eq (h3) (by simp (disch := omega) only [go_sem]) rfl (by first | exact Or.inl rfl | exact Or.inr ⟨rfl, rfl⟩ | (apply Or.inr; simp only [go_sem])) ?_; (repeat (first | simp (maxSteps := 2000000) (disch := omega) only [go_sem, ↓reduceIte] | with_reducible refine vIf_t ?_ | with_reducible refine vIf_f ?_)))
  refine retK_frz (.step 1 ⟨1, ints (ixs ls.length (esQ xs ls h))⟩ rfl (by (repeat (first | simp (maxSteps := 2000000) (disch := omega) only [go_sem, ↓reduceIte] | with_reducible refine vIf_t ?_ | with_reducible refine vIf_f ?_))) (.refl _)) ?_
  (repeat (first | simp (maxSteps := 2000000) (disch := omega) only [go_sem, ↓reduceIte] | with_reducible refine vIf_t ?_ | with_reducible refine vIf_f ?_))
  rfl
/-- the first hour with a stage -/
def WtP (xs ls : List Int) (st : Int) (v c : Int) : Prop := (c = 0 ∧ ∃ i : Nat, v = i ∧ i < ls.length ∧ st ≤ sgN xs ls i ∧ ∀ j, j < i → sgN xs ls j < st) ∨ (c = 3 ∧ ∀ j, j < ls.length → sgN xs ls j < st)
theorem warn_ok (xs ls : List Int) (st : Int) (hx : AlX xs) (hv : ∀ x ∈ ls, -2000 ≤ x ∧ x ≤ 2000) (hl : ls.length ≤ 200) (hs : 1 ≤ st ∧ st ≤ xs.length) : ACalls Tryz.prog 16 [.sl xs.length (ints xs), .sl ls.length (ints ls), I st] [] (fun r o => ∃ v c, r = .tup [I v, I c] ∧ o = [] ∧ WtP xs ls st v c) := by
  refine ACalls.of_vc Tryz.func16 rfl (by decide) 36 rfl [.tmp 6, .tmp 7] rfl (by simp) ?_
  have n5 := hx.n5
  have h1 := alarmCode_ok xs ls hx hv hl
  have h2 := in_ok st 1 xs.length
  rw [decide_eq_true hs] at h2
  (repeat (first | simp (maxSteps := 2000000) (disch := omega) only [go_sem, ↓reduceIte] | with_reducible refine vIf_t ?_ | with_reducible refine vIf_f ?_))
  (refine vCallX_of ?_; (repeat (first | simp (maxSteps := 2000000) (disch := omega) only [go_sem, ↓reduceIte] | with_reducible refine vIf_t ?_ | with_reducible refine vIf_f ?_)); refine vCall_eq (h1) (by simp (disch := omega) only [go_sem]) rfl (by first | exact Or.inl rfl | exact Or.inr ⟨rfl, rfl⟩ | (apply Or.inr; simp only [go_sem])) ?_; (repeat (first | simp (maxSteps := 2000000) (disch := omega) only [go_sem, ↓reduceIte] | with_reducible refine vIf_t ?_ | with_reducible refine vIf_f ?_)))
  (refine vCallX_of ?_; (repeat (first | simp (maxSteps := 2000000) (disch := omega) only [go_sem, ↓reduceIte] | with_reducible refine vIf_t ?_ | with_reducible refine vIf_f ?_)); refine vCall_eq (size_ok (ints xs) xs.length) (by simp (disch := omega) only [go_sem]) rfl (by first | exact Or.inl rfl | exact Or.inr ⟨rfl, rfl⟩ | (apply Or.inr; simp only [go_sem])) ?_; (repeat (first | simp (maxSteps := 2000000) (disch := omega) only [go_sem, ↓reduceIte] | with_reducible refine vIf_t ?_ | with_reducible refine vIf_f ?_)))
  (refine vCallX_of ?_; (repeat (first | simp (maxSteps := 2000000) (disch := omega) only [go_sem, ↓reduceIte] | with_reducible refine vIf_t ?_ | with_reducible refine vIf_f ?_)); refine vCall_eq (h2) (by simp (disch := omega) only [go_sem]) rfl (by first | exact Or.inl rfl | exact Or.inr ⟨rfl, rfl⟩ | (apply Or.inr; simp only [go_sem])) ?_; (repeat (first | simp (maxSteps := 2000000) (disch := omega) only [go_sem, ↓reduceIte] | with_reducible refine vIf_t ?_ | with_reducible refine vIf_f ?_)))
  refine vcLoop_invF (fun k : Nat => k ≤ ls.length ∧ ∀ j, j < k → sgN xs ls j < st) (fun k => ⟨36, 0, [(24, I k), (2, I st), (0, .sl xs.length (ints xs)), (22, .sl ls.length (ints ls)), (23, I ls.length)], []⟩) (fun k => ls.length - k) 0 ⟨by omega, fun j hj => by omega⟩ (by (first | (refine leF_s ?_; ((repeat (first | simp (maxSteps := 2000000) (disch := omega) only [go_sem, ↓reduceIte] | with_reducible refine vIf_t ?_ | with_reducible refine vIf_f ?_)); all_goals (try simp); all_goals (try omega)); done) | (refine leF_p ?_; ((repeat (first | simp (maxSteps := 2000000) (disch := omega) only [go_sem, ↓reduceIte] | with_reducible refine vIf_t ?_ | with_reducible refine vIf_f ?_)); all_goals (try simp); all_goals (try omega)); done))) ?_
  rintro k ⟨hk, hj⟩
  (repeat (first | simp (maxSteps := 2000000) (disch := omega) only [go_sem, ↓reduceIte] | with_reducible refine vIf_t ?_ | with_reducible refine vIf_f ?_))
  refine vIf_dec (fun hc => ?_) (fun hc => ?_)
  · have hkl : k < ls.length := by omega
    have h3 := stageOf_ok xs (gi ls k) (by omega)
    rw [show (stg xs (gi ls k) : Int) = sgN xs ls k from rfl] at h3
    (repeat (first | simp (maxSteps := 2000000) (disch := omega) only [go_sem, ↓reduceIte] | with_reducible refine vIf_t ?_ | with_reducible refine vIf_f ?_))
    (refine vCallX_of ?_; (repeat (first | simp (maxSteps := 2000000) (disch := omega) only [go_sem, ↓reduceIte] | with_reducible refine vIf_t ?_ | with_reducible refine vIf_f ?_)); refine vCall_eq (h3) (by simp (disch := omega) only [go_sem]) rfl (by first | exact Or.inl rfl | exact Or.inr ⟨rfl, rfl⟩ | (apply Or.inr; simp only [go_sem])) ?_; (repeat (first | simp (maxSteps := 2000000) (disch := omega) only [go_sem, ↓reduceIte] | with_reducible refine vIf_t ?_ | with_reducible refine vIf_f ?_)))
    by_cases c : st ≤ sgN xs ls k
    · have d := decide_eq_true c
      (try (repeat (first | simp (maxSteps := 2000000) (disch := omega) only [go_sem, ↓reduceIte, d] | with_reducible refine vIf_t ?_ | with_reducible refine vIf_f ?_)))
      (refine retK_of ?_; (repeat (first | simp (maxSteps := 2000000) (disch := omega) only [go_sem, ↓reduceIte] | with_reducible refine vIf_t ?_ | with_reducible refine vIf_f ?_)))
      exact ⟨_, _, rfl, .inl ⟨rfl, k, rfl, hkl, c, hj⟩⟩
    · have d := decide_eq_false c
      (try (repeat (first | simp (maxSteps := 2000000) (disch := omega) only [go_sem, ↓reduceIte, d] | with_reducible refine vIf_t ?_ | with_reducible refine vIf_f ?_)))
      refine againF (k + 1) ⟨by omega, fun j hjk => ?_⟩ (by omega) (by (first | (refine leF_s ?_; ((repeat (first | simp (maxSteps := 2000000) (disch := omega) only [go_sem, ↓reduceIte] | with_reducible refine vIf_t ?_ | with_reducible refine vIf_f ?_)); all_goals (try simp); all_goals (try omega)); done) | (refine leF_p ?_; ((repeat (first | simp (maxSteps := 2000000) (disch := omega) only [go_sem, ↓reduceIte] | with_reducible refine vIf_t ?_ | with_reducible refine vIf_f ?_)); all_goals (try simp); all_goals (try omega)); done)))
      rcases Nat.lt_succ_iff_lt_or_eq.1 hjk with h2 | rfl
      · exact hj j h2
      · omega
  · (repeat (first | simp (maxSteps := 2000000) (disch := omega) only [go_sem, ↓reduceIte] | with_reducible refine vIf_t ?_ | with_reducible refine vIf_f ?_))
    (refine retK_of ?_; (repeat (first | simp (maxSteps := 2000000) (disch := omega) only [go_sem, ↓reduceIte] | with_reducible refine vIf_t ?_ | with_reducible refine vIf_f ?_)))
    exact ⟨_, _, rfl, .inr ⟨rfl, fun j hjl => hj j (by omega)⟩⟩
end Go.Proofs.YtjgjnedenapemaaGreatDoor

/- alarms: drawn data; equal lists -/
import Derived.Test.YtjgjnedenapemaaGreatDoorSrc2
import Derived.Test.YtjgjnedenapemaaGreatDoorAl1
import Derived.Test.YtjgjnedenapemaaGreatDoorFzC
set_option linter.unusedVariables false
set_option linter.unusedSimpArgs false
namespace Go.Proofs.YtjgjnedenapemaaGreatDoor
open Go.AG

attribute [local go_sem] beq_self_eq_true bne_self_eq_false Bool.not_true Bool.not_false
/-- rising numbers below the next one -/
structure AlI (xs : List Int) (a : Int) : Prop where
  b : ∀ j, j < xs.length → 0 ≤ gi xs j ∧ gi xs j < a
  s : ∀ j, j + 1 < xs.length → gi xs j < gi xs (j + 1)
theorem AlI.nil (a : Int) : AlI [] a := ⟨fun j hj => by simp at hj, fun j hj => by simp at hj⟩
theorem AlI.snoc {xs : List Int} {a c : Int} (h : AlI xs a) (ha : 0 ≤ a) (hc : a < c) : AlI (xs ++ [a]) c := by
  have hl : (xs ++ [a]).length = xs.length + 1 := by simp
  have g : gi (xs ++ [a]) xs.length = a := by rw [gi_append_right _ _ _ (Nat.le_refl _), Nat.sub_self]; rfl
  refine ⟨fun j hj => ?_, fun j hj => ?_⟩
  · rw [hl] at hj
    rcases Nat.lt_succ_iff_lt_or_eq.1 hj with h1 | rfl
    · rw [gi_append_left _ _ _ h1]; have := h.b j h1; omega
    · rw [g]; omega
  · rw [hl] at hj
    rcases Nat.lt_succ_iff_lt_or_eq.1 hj with h1 | h1
    · rw [gi_append_left _ _ _ h1, gi_append_left _ _ _ (by omega)]; exact h.s j h1
    · rw [gi_append_left _ _ _ (by omega), h1, g]; exact (h.b j (by omega)).2
theorem AlI.x {xs : List Int} {a : Int} (h : AlI xs a) (h1 : 1 ≤ xs.length) (h5 : xs.length ≤ 5) (ha : a ≤ 1500) : AlX xs := by
  refine ⟨h1, h5, decide_eq_true fun j hj => rok_yes _ _ _ _ ?_ ?_⟩
  · have := h.b j hj; omega
  · rcases Nat.eq_zero_or_pos j with e | e
    · left; omega
    · right
      have := h.s (j - 1) (by omega)
      rw [show j - 1 + 1 = j by omega] at this
      rw [show ((j : Int) - 1).toNat = j - 1 by omega]
      exact this
theorem l16Draw_e {code : List Int} (g : SrOk code) (σ : Sr) (hp : σ.pos ≤ 1000000) : ACalls Tryz.prog 44 [.ptr 0 0] [srO code σ]
    (fun r o => ∃ (xs : List Int) (σ' : Sr), r = .ref 1 0 xs.length ∧ o = [srO code σ', oI xs] ∧ AlX xs) := by
  refine ACalls.of_vc Tryz.func44 rfl (by decide) 28 rfl [.tmp 2] rfl (by simp) ?_
  (repeat (first | simp (maxSteps := 2000000) (disch := omega) only [go_sem, ↓reduceIte] | with_reducible refine vIf_t ?_ | with_reducible refine vIf_f ?_))
  (refine vCallX_io [0] ?_; (repeat (first | simp (maxSteps := 2000000) (disch := omega) only [go_sem, ↓reduceIte] | with_reducible refine vIf_t ?_ | with_reducible refine vIf_f ?_)); refine vCallIO_ex (pick_e g 8 σ (by omega)) (by simp (disch := omega) only [go_sem]) (by simp (disch := omega) only [go_sem]) (by first | rfl | (simp (disch := omega) only [go_sem])) (by first | rfl | (simp (disch := omega) only [go_sem])) (by first | rfl | (simp (disch := omega) only [go_sem])) ?_); rintro _ _ ⟨v0, σ0, rfl, rfl, k1, k2, k3⟩; (refine ⟨by first | (simp (disch := omega) only [go_sem]) | trivial, ?_⟩; (repeat (first | simp (maxSteps := 2000000) (disch := omega) only [go_sem, ↓reduceIte] | with_reducible refine vIf_t ?_ | with_reducible refine vIf_f ?_)))
  (refine vCallX_io [0] ?_; (repeat (first | simp (maxSteps := 2000000) (disch := omega) only [go_sem, ↓reduceIte] | with_reducible refine vIf_t ?_ | with_reducible refine vIf_f ?_)); refine vCallIO_ex (pick_e g 5 σ0 (by omega)) (by simp (disch := omega) only [go_sem]) (by simp (disch := omega) only [go_sem]) (by first | rfl | (simp (disch := omega) only [go_sem])) (by first | rfl | (simp (disch := omega) only [go_sem])) (by first | rfl | (simp (disch := omega) only [go_sem])) ?_); rintro _ _ ⟨v1, σ1, rfl, rfl, h1, h2, h3⟩; (refine ⟨by first | (simp (disch := omega) only [go_sem]) | trivial, ?_⟩; (repeat (first | simp (maxSteps := 2000000) (disch := omega) only [go_sem, ↓reduceIte] | with_reducible refine vIf_t ?_ | with_reducible refine vIf_f ?_)))
  refine vcLoop_invF (fun x : Int × List Int × Int × Sr => 0 ≤ x.1 ∧ (1 ≤ x.1 + x.2.1.length ∧ x.1 + x.2.1.length ≤ 5) ∧ (0 ≤ x.2.2.1 ∧ x.2.2.1 ≤ 350 + 150 * (x.2.1.length : Int)) ∧ AlI x.2.1 x.2.2.1 ∧ x.2.2.2.pos ≤ σ.pos + 4 + 2 * x.2.1.length) (fun x => ⟨28, 1, [(5, I x.1), (0, .ptr 0 0), (4, I x.2.2.1), (3, .ref 1 0 x.2.1.length)], [srO code x.2.2.2, oI x.2.1]⟩) (fun x => x.1.toNat) (1 + v1, [], 50 * v0, σ1) ⟨by simp only; omega, by simp; omega, by simp; omega, AlI.nil _, by simp; omega⟩ (by (first | (refine leF_s ?_; ((repeat (first | simp (maxSteps := 2000000) (disch := omega) only [go_sem, ↓reduceIte] | with_reducible refine vIf_t ?_ | with_reducible refine vIf_f ?_)); all_goals (try simp); all_goals (try omega)); done) | (refine leF_p ?_; ((repeat (first | simp (maxSteps := 2000000) (disch := omega) only [go_sem, ↓reduceIte] | with_reducible refine vIf_t ?_ | with_reducible refine vIf_f ?_)); all_goals (try simp); all_goals (try omega)); done))) ?_
  rintro ⟨k, xs, a, σ2⟩ ⟨g1, g2, g3, g4, g5⟩
  simp only at g1 g2 g3 g4 g5
  (repeat (first | simp (maxSteps := 2000000) (disch := omega) only [go_sem, ↓reduceIte] | with_reducible refine vIf_t ?_ | with_reducible refine vIf_f ?_))
  refine vIf_dec (fun h => ?_) (fun h => ?_)
  · (repeat (first | simp (maxSteps := 2000000) (disch := omega) only [go_sem, ↓reduceIte] | with_reducible refine vIf_t ?_ | with_reducible refine vIf_f ?_))
    (refine vCallX_io [0] ?_; (repeat (first | simp (maxSteps := 2000000) (disch := omega) only [go_sem, ↓reduceIte] | with_reducible refine vIf_t ?_ | with_reducible refine vIf_f ?_)); refine vCallIO_ex (pick_e g 6 σ2 (by omega)) (by simp (disch := omega) only [go_sem]) (by simp (disch := omega) only [go_sem]) (by first | rfl | (simp (disch := omega) only [go_sem])) (by first | rfl | (simp (disch := omega) only [go_sem])) (by first | rfl | (simp (disch := omega) only [go_sem])) ?_); rintro _ _ ⟨v3, σ3, rfl, rfl, h7, h8, h9⟩; (refine ⟨by first | (simp (disch := omega) only [go_sem]) | trivial, ?_⟩; (repeat (first | simp (maxSteps := 2000000) (disch := omega) only [go_sem, ↓reduceIte] | with_reducible refine vIf_t ?_ | with_reducible refine vIf_f ?_)))
    refine againF ((k - 1, xs ++ [a], a + 25 * (1 + v3), σ3)) ?_ ?_ (by (first | (refine leF_s ?_; ((repeat (first | simp (maxSteps := 2000000) (disch := omega) only [go_sem, ↓reduceIte] | with_reducible refine vIf_t ?_ | with_reducible refine vIf_f ?_)); all_goals (try simp); all_goals (try omega)); done) | (refine leF_p ?_; ((repeat (first | simp (maxSteps := 2000000) (disch := omega) only [go_sem, ↓reduceIte] | with_reducible refine vIf_t ?_ | with_reducible refine vIf_f ?_)); all_goals (try simp); all_goals (try omega)); done)))
    · exact ⟨by simp only; omega, by simp; omega, by simp; omega, g4.snoc g3.1 (show a < a + 25 * (1 + v3) by omega), by simp; omega⟩
    · simp only; omega
  · (repeat (first | simp (maxSteps := 2000000) (disch := omega) only [go_sem, ↓reduceIte] | with_reducible refine vIf_t ?_ | with_reducible refine vIf_f ?_))
    (refine retK_of ?_; (repeat (first | simp (maxSteps := 2000000) (disch := omega) only [go_sem, ↓reduceIte] | with_reducible refine vIf_t ?_ | with_reducible refine vIf_f ?_)))
    exact ⟨xs, σ2, rfl, rfl, g4.x (by omega) (by omega) (by omega)⟩
theorem a2Alarms_e {code : List Int} (g : SrOk code) : ACalls Tryz.prog 6 [bS code] []
    (fun r o => ∃ (xs : List Int), r = .ref 0 0 xs.length ∧ o = [oI xs] ∧ AlX xs) := by
  refine ACalls.of_vc Tryz.func6 rfl (by decide) 6 rfl [.tmp 2] rfl (by simp) ?_
  have hf := from_e g
  unfold bS at hf ⊢
  (repeat (first | simp (maxSteps := 2000000) (disch := omega) only [go_sem, ↓reduceIte] | with_reducible refine vIf_t ?_ | with_reducible refine vIf_f ?_))
  (refine vCallX_of ?_; (repeat (first | simp (maxSteps := 2000000) (disch := omega) only [go_sem, ↓reduceIte] | with_reducible refine vIf_t ?_ | with_reducible refine vIf_f ?_)); refine vCall_eq (hf) (by simp (disch := omega) only [go_sem]) rfl (by first | exact Or.inl rfl | exact Or.inr ⟨rfl, rfl⟩ | (apply Or.inr; simp only [go_sem])) ?_; (repeat (first | simp (maxSteps := 2000000) (disch := omega) only [go_sem, ↓reduceIte] | with_reducible refine vIf_t ?_ | with_reducible refine vIf_f ?_)))
  (refine vCallX_io [0] ?_; (repeat (first | simp (maxSteps := 2000000) (disch := omega) only [go_sem, ↓reduceIte] | with_reducible refine vIf_t ?_ | with_reducible refine vIf_f ?_)); refine vCallIO_ex (l16Draw_e g ⟨0, 0⟩ (by simp)) (by simp (disch := omega) only [go_sem]) (by simp (disch := omega) only [go_sem]) (by first | rfl | (simp (disch := omega) only [go_sem])) (by first | rfl | (simp (disch := omega) only [go_sem])) (by first | rfl | (simp (disch := omega) only [go_sem])) ?_); rintro _ _ ⟨xs, σ1, rfl, rfl, h1⟩; (refine ⟨by first | (simp (disch := omega) only [go_sem]) | trivial, ?_⟩; (repeat (first | simp (maxSteps := 2000000) (disch := omega) only [go_sem, ↓reduceIte] | with_reducible refine vIf_t ?_ | with_reducible refine vIf_f ?_)))
  (refine retK_of ?_; (repeat (first | simp (maxSteps := 2000000) (disch := omega) only [go_sem, ↓reduceIte] | with_reducible refine vIf_t ?_ | with_reducible refine vIf_f ?_)))
  exact ⟨xs, rfl, rfl, h1⟩
theorem a2LevelsA_e {code : List Int} (g : SrOk code) : ACalls Tryz.prog 7 [bS code] []
    (fun r o => ∃ (xs : List Int), r = .ref 0 0 xs.length ∧ o = [oI xs] ∧ (∀ x ∈ xs, -2000 ≤ x ∧ x ≤ 2000) ∧ xs.length ≤ 9) := by
  refine ACalls.of_vc Tryz.func7 rfl (by decide) 32 rfl [.tmp 2] rfl (by simp) ?_
  have hf := from_e g
  unfold bS at hf ⊢
  (repeat (first | simp (maxSteps := 2000000) (disch := omega) only [go_sem, ↓reduceIte] | with_reducible refine vIf_t ?_ | with_reducible refine vIf_f ?_))
  (refine vCallX_of ?_; (repeat (first | simp (maxSteps := 2000000) (disch := omega) only [go_sem, ↓reduceIte] | with_reducible refine vIf_t ?_ | with_reducible refine vIf_f ?_)); refine vCall_eq (hf) (by simp (disch := omega) only [go_sem]) rfl (by first | exact Or.inl rfl | exact Or.inr ⟨rfl, rfl⟩ | (apply Or.inr; simp only [go_sem])) ?_; (repeat (first | simp (maxSteps := 2000000) (disch := omega) only [go_sem, ↓reduceIte] | with_reducible refine vIf_t ?_ | with_reducible refine vIf_f ?_)))
  (refine vCallX_io [0] ?_; (repeat (first | simp (maxSteps := 2000000) (disch := omega) only [go_sem, ↓reduceIte] | with_reducible refine vIf_t ?_ | with_reducible refine vIf_f ?_)); refine vCallIO_ex (pick_e g 30 ⟨0, 0⟩ (by simp)) (by simp (disch := omega) only [go_sem]) (by simp (disch := omega) only [go_sem]) (by first | rfl | (simp (disch := omega) only [go_sem])) (by first | rfl | (simp (disch := omega) only [go_sem])) (by first | rfl | (simp (disch := omega) only [go_sem])) ?_); rintro _ _ ⟨v0, σ0, rfl, rfl, k1, k2, k3⟩; (refine ⟨by first | (simp (disch := omega) only [go_sem]) | trivial, ?_⟩; (repeat (first | simp (maxSteps := 2000000) (disch := omega) only [go_sem, ↓reduceIte] | with_reducible refine vIf_t ?_ | with_reducible refine vIf_f ?_)))
  simp only at k3
  (refine vCallX_io [0] ?_; (repeat (first | simp (maxSteps := 2000000) (disch := omega) only [go_sem, ↓reduceIte] | with_reducible refine vIf_t ?_ | with_reducible refine vIf_f ?_)); refine vCallIO_ex (pick_e g 9 σ0 (by omega)) (by simp (disch := omega) only [go_sem]) (by simp (disch := omega) only [go_sem]) (by first | rfl | (simp (disch := omega) only [go_sem])) (by first | rfl | (simp (disch := omega) only [go_sem])) (by first | rfl | (simp (disch := omega) only [go_sem])) ?_); rintro _ _ ⟨v1, σ1, rfl, rfl, h1, h2, h3⟩; (refine ⟨by first | (simp (disch := omega) only [go_sem]) | trivial, ?_⟩; (repeat (first | simp (maxSteps := 2000000) (disch := omega) only [go_sem, ↓reduceIte] | with_reducible refine vIf_t ?_ | with_reducible refine vIf_f ?_)))
  refine vcLoop_invF (fun x : List Int × Sr × Int × Int => (∀ y ∈ x.1, -2000 ≤ y ∧ y ≤ 2000) ∧ 0 ≤ x.2.2.1 ∧ (x.1.length : Int) + x.2.2.1 ≤ 9 ∧ x.2.1.pos ≤ 4 + 2 * x.1.length ∧ (-100 - 40 * (x.1.length : Int) ≤ x.2.2.2 ∧ x.2.2.2 ≤ 190 + 40 * (x.1.length : Int)))
    (fun x => ⟨32, 0, [(6, I x.2.2.1), (3, .ptr 0 0), (5, I x.2.2.2), (4, .ref 1 0 x.1.length)], [srO code x.2.1, oI x.1]⟩) (fun x => x.2.2.1.toNat) ([], σ1, 1 + v1, 10 * v0 - 100) ⟨by simp, by simp only; omega, by simp; omega, by simp; omega, by simp; omega⟩ (by (first | (refine leF_s ?_; ((repeat (first | simp (maxSteps := 2000000) (disch := omega) only [go_sem, ↓reduceIte] | with_reducible refine vIf_t ?_ | with_reducible refine vIf_f ?_)); all_goals (try simp); all_goals (try omega)); done) | (refine leF_p ?_; ((repeat (first | simp (maxSteps := 2000000) (disch := omega) only [go_sem, ↓reduceIte] | with_reducible refine vIf_t ?_ | with_reducible refine vIf_f ?_)); all_goals (try simp); all_goals (try omega)); done))) ?_
  rintro ⟨xs, σ', k, at'⟩ hx
  obtain ⟨g1, g2, g3, g4, g5⟩ := hx
  simp only at g1 g2 g3 g4 g5
  (repeat (first | simp (maxSteps := 2000000) (disch := omega) only [go_sem, ↓reduceIte] | with_reducible refine vIf_t ?_ | with_reducible refine vIf_f ?_))
  refine vIf_dec (fun h => ?_) (fun h => ?_)
  · (repeat (first | simp (maxSteps := 2000000) (disch := omega) only [go_sem, ↓reduceIte] | with_reducible refine vIf_t ?_ | with_reducible refine vIf_f ?_))
    (refine vCallX_io [0] ?_; (repeat (first | simp (maxSteps := 2000000) (disch := omega) only [go_sem, ↓reduceIte] | with_reducible refine vIf_t ?_ | with_reducible refine vIf_f ?_)); refine vCallIO_ex (pick_e g 5 σ' (by omega)) (by simp (disch := omega) only [go_sem]) (by simp (disch := omega) only [go_sem]) (by first | rfl | (simp (disch := omega) only [go_sem])) (by first | rfl | (simp (disch := omega) only [go_sem])) (by first | rfl | (simp (disch := omega) only [go_sem])) ?_); rintro _ _ ⟨v3, σ3, rfl, rfl, h7, h8, h9⟩; (refine ⟨by first | (simp (disch := omega) only [go_sem]) | trivial, ?_⟩; (repeat (first | simp (maxSteps := 2000000) (disch := omega) only [go_sem, ↓reduceIte] | with_reducible refine vIf_t ?_ | with_reducible refine vIf_f ?_)))
    refine againF ((xs ++ [at'], σ3, k - 1, at' + (20 * v3 - 40))) ?_ ?_ (by (first | (refine leF_s ?_; ((repeat (first | simp (maxSteps := 2000000) (disch := omega) only [go_sem, ↓reduceIte] | with_reducible refine vIf_t ?_ | with_reducible refine vIf_f ?_)); all_goals (try simp); all_goals (try omega)); done) | (refine leF_p ?_; ((repeat (first | simp (maxSteps := 2000000) (disch := omega) only [go_sem, ↓reduceIte] | with_reducible refine vIf_t ?_ | with_reducible refine vIf_f ?_)); all_goals (try simp); all_goals (try omega)); done)))
    · refine ⟨?_, ?_, ?_, ?_, ?_⟩
      · intro y hy
        rcases List.mem_append.1 hy with h | h
        · exact g1 y h
        · rw [List.mem_singleton.1 h]; omega
      all_goals simp <;> omega
    · simp only; omega
  · (repeat (first | simp (maxSteps := 2000000) (disch := omega) only [go_sem, ↓reduceIte] | with_reducible refine vIf_t ?_ | with_reducible refine vIf_f ?_))
    (refine retK_of ?_; (repeat (first | simp (maxSteps := 2000000) (disch := omega) only [go_sem, ↓reduceIte] | with_reducible refine vIf_t ?_ | with_reducible refine vIf_f ?_)))
    exact ⟨xs, rfl, rfl, g1, by omega⟩
theorem a2SameA_ok (xs : List Int) (hl : xs.length ≤ 10000) : ACalls Tryz.prog 13 [.sl xs.length (ints xs), .sl xs.length (ints xs)] [] (fun r o => r = B true ∧ o = []) := by
  refine ACalls.of_vc Tryz.func13 rfl (by decide) 26 rfl [.tmp 4] rfl (by simp) ?_
  (repeat (first | simp (maxSteps := 2000000) (disch := omega) only [go_sem, ↓reduceIte] | with_reducible refine vIf_t ?_ | with_reducible refine vIf_f ?_))
  refine vcLoop_invF (fun k : Nat => k ≤ xs.length) (fun k => ⟨26, 0, [(5, I k), (1, .sl xs.length (ints xs)), (0, .sl xs.length (ints xs))], []⟩) (fun k => xs.length - k) 0 (by omega) (by (first | (refine leF_s ?_; ((repeat (first | simp (maxSteps := 2000000) (disch := omega) only [go_sem, ↓reduceIte] | with_reducible refine vIf_t ?_ | with_reducible refine vIf_f ?_)); all_goals (try simp); all_goals (try omega)); done) | (refine leF_p ?_; ((repeat (first | simp (maxSteps := 2000000) (disch := omega) only [go_sem, ↓reduceIte] | with_reducible refine vIf_t ?_ | with_reducible refine vIf_f ?_)); all_goals (try simp); all_goals (try omega)); done))) ?_
  intro k hk
  (repeat (first | simp (maxSteps := 2000000) (disch := omega) only [go_sem, ↓reduceIte] | with_reducible refine vIf_t ?_ | with_reducible refine vIf_f ?_))
  refine vIf_dec (fun h => ?_) (fun h => ?_)
  · (repeat (first | simp (maxSteps := 2000000) (disch := omega) only [go_sem, ↓reduceIte] | with_reducible refine vIf_t ?_ | with_reducible refine vIf_f ?_))
    (refine vDraw_sch 8 [(0, false), (1, false), (2, false), (4, false), (5, false), (6, false), (3, false), (7, true)] mixed (by kernel_rfl) ?_; simp only [List.cons_append, List.nil_append, List.map_cons, List.map_nil, nthO_zero, nthO_succ, List.drop_succ_cons, List.drop_zero, List.drop_nil]; (repeat (first | simp (maxSteps := 2000000) (disch := omega) only [go_sem, ↓reduceIte] | with_reducible refine vIf_t ?_ | with_reducible refine vIf_f ?_)))
    (try (repeat (first | simp (maxSteps := 2000000) (disch := omega) only [go_sem, ↓reduceIte] | with_reducible refine vIf_t ?_ | with_reducible refine vIf_f ?_)))
    refine againF (k + 1) (by omega) (by omega) (by (first | (refine leF_s ?_; ((repeat (first | simp (maxSteps := 2000000) (disch := omega) only [go_sem, ↓reduceIte] | with_reducible refine vIf_t ?_ | with_reducible refine vIf_f ?_)); all_goals (try simp); all_goals (try omega)); done) | (refine leF_p ?_; ((repeat (first | simp (maxSteps := 2000000) (disch := omega) only [go_sem, ↓reduceIte] | with_reducible refine vIf_t ?_ | with_reducible refine vIf_f ?_)); all_goals (try simp); all_goals (try omega)); done)))
  · (repeat (first | simp (maxSteps := 2000000) (disch := omega) only [go_sem, ↓reduceIte] | with_reducible refine vIf_t ?_ | with_reducible refine vIf_f ?_))
    (refine retK_of ?_; (repeat (first | simp (maxSteps := 2000000) (disch := omega) only [go_sem, ↓reduceIte] | with_reducible refine vIf_t ?_ | with_reducible refine vIf_f ?_)))
end Go.Proofs.YtjgjnedenapemaaGreatDoor

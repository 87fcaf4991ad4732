/- control of pumps: the drawn data -/
import Derived.Test.YtbgjkjiepkopkaaGreatDoorCurve5
set_option linter.unusedVariables false
set_option linter.unusedSimpArgs false
namespace Go.Proofs.YtbgjkjiepkopkaaGreatDoor
open Go.AG

/-- a rising list, and what comes next -/
structure Ris (xs : List Int) (nx lo : Int) : Prop where
  b : ∀ i, i < xs.length → lo ≤ gi xs i ∧ gi xs i < nx
  r : ∀ i j, i < j → j < xs.length → gi xs i < gi xs j
theorem Ris.one {x nx lo : Int} (h : lo ≤ x) (hn : x < nx) : Ris [x] nx lo :=
  ⟨fun i hi => by
    have : i = 0 := by simp at hi; exact hi
    subst this
    show lo ≤ x ∧ x < nx
    omega, fun i j hij hj => by simp at hj; omega⟩
theorem Ris.snoc {xs : List Int} {nx nx' lo : Int} (h : Ris xs nx lo) (hl : lo ≤ nx) (hn : nx < nx') : Ris (xs ++ [nx]) nx' lo := by
  have hg : gi (xs ++ [nx]) xs.length = nx := by rw [gi_append_right _ _ _ (Nat.le_refl _), Nat.sub_self]; rfl
  refine ⟨fun i hi => ?_, fun i j hij hj => ?_⟩
  · simp only [List.length_append, List.length_cons, List.length_nil] at hi
    by_cases e : i < xs.length
    · rw [gi_append_left _ _ _ e]; have := h.b i e; omega
    · have : i = xs.length := by omega
      subst this
      rw [hg]; omega
  · simp only [List.length_append, List.length_cons, List.length_nil] at hj
    by_cases e : j < xs.length
    · rw [gi_append_left _ _ _ e, gi_append_left _ _ _ (by omega)]; exact h.r i j hij e
    · have : j = xs.length := by omega
      subst this
      rw [hg, gi_append_left _ _ _ hij]
      exact (h.b i hij).2
theorem rises_of {xs : List Int} {lo hi : Int} (b : ∀ i, i < xs.length → lo ≤ gi xs i ∧ gi xs i ≤ hi) (r : ∀ i j, i < j → j < xs.length → gi xs i < gi xs j) : risesB xs lo hi = true := by
  refine decide_eq_true fun i hl => ?_
  unfold rok
  rw [show ((i : Int) - 1).toNat = i - 1 by omega]
  have h1 := b i hl
  simp only [Bool.and_eq_true, decide_eq_true_eq, Bool.not_eq_true', decide_eq_false_iff_not]
  refine ⟨h1, ?_⟩
  by_cases h0 : 0 < i
  · have := r (i - 1) i (by omega) hl; omega
  · omega
theorem okC_of {lv vl : List Int} {a b : Int} (h2 : 2 ≤ lv.length) (h12 : lv.length ≤ 12) (e : vl.length = lv.length) (h : Ris lv a (-2000)) (h' : Ris vl b 0) (ha : a ≤ 2000) (hb : b ≤ 1000000000) (h0 : gi vl 0 = 0) : okC ⟨lv, vl⟩ = true := by
  have r1 : risesB lv (-2000) 2000 = true := rises_of (fun i hi => by have := h.b i hi; omega) h.r
  have r2 : risesB vl 0 1000000000 = true := rises_of (fun i hi => by have := h'.b i hi; omega) h'.r
  simp only [okC, Bool.and_eq_true, decide_eq_true_eq]
  exact ⟨by omega, e, r1, r2, h0⟩
set_option maxHeartbeats 2000000 in
theorem l12Curve_e {code : List Int} (g : SrOk code) (σ : Sr) (hp : σ.pos ≤ 100000000) : ACalls Tryz.prog 17 [.ptr 0 0] [srO code σ]
    (fun r o => ∃ (lv vl : List Int) (σ' : Sr), r = .agg [.ref 1 0 lv.length, .ref 2 0 vl.length] ∧ o = [srO code σ', oI lv, oI vl] ∧ okC ⟨lv, vl⟩ = true ∧ gi vl (lv.length - 1) ≤ 60000 ∧ σ'.pos ≤ σ.pos + 100) := by
  refine ACalls.of_vc Tryz.func17 rfl (by decide) 44 rfl [.cell 2 26] rfl (by simp) ?_
  (repeat (first | simp (maxSteps := 2000000) (disch := omega) only [go_sem, ↓reduceIte, Nat.reduceEqDiff, Nat.reduceAdd, Nat.reduceMul, Nat.reduceSub, Int.reduceToNat, Int.reduceAdd, Int.reduceSub, Int.reduceMul, Int.reduceNeg] | with_reducible refine vIf_t ?_ | with_reducible refine vIf_f ?_))
  (refine vCallX_io [0] ?_; (repeat (first | simp (maxSteps := 2000000) (disch := omega) only [go_sem, ↓reduceIte, Nat.reduceEqDiff, Nat.reduceAdd, Nat.reduceMul, Nat.reduceSub, Int.reduceToNat, Int.reduceAdd, Int.reduceSub, Int.reduceMul, Int.reduceNeg] | with_reducible refine vIf_t ?_ | with_reducible refine vIf_f ?_)); refine vCallIO_ex (pick_e g 10 σ (by omega)) (by simp (disch := omega) only [go_sem, Nat.reduceAdd, Nat.reduceEqDiff]) (by simp (disch := omega) only [go_sem, Nat.reduceAdd, Nat.reduceEqDiff]) (by first | rfl | (simp (disch := omega) only [go_sem, Nat.reduceAdd, Nat.reduceEqDiff])) (by first | rfl | (simp (disch := omega) only [go_sem, Nat.reduceAdd, Nat.reduceEqDiff])) (by first | rfl | (simp (disch := omega) only [go_sem, Nat.reduceAdd, Nat.reduceEqDiff])) ?_); rintro _ _ ⟨v1, σ1, rfl, rfl, h1, h2, h3⟩; (refine ⟨by first | (simp (disch := omega) only [go_sem, Nat.reduceAdd, Nat.reduceEqDiff]) | trivial, ?_⟩; (repeat (first | simp (maxSteps := 2000000) (disch := omega) only [go_sem, ↓reduceIte, Nat.reduceEqDiff, Nat.reduceAdd, Nat.reduceMul, Nat.reduceSub, Int.reduceToNat, Int.reduceAdd, Int.reduceSub, Int.reduceMul, Int.reduceNeg] | with_reducible refine vIf_t ?_ | with_reducible refine vIf_f ?_)))
  (refine vCallX_io [0] ?_; (repeat (first | simp (maxSteps := 2000000) (disch := omega) only [go_sem, ↓reduceIte, Nat.reduceEqDiff, Nat.reduceAdd, Nat.reduceMul, Nat.reduceSub, Int.reduceToNat, Int.reduceAdd, Int.reduceSub, Int.reduceMul, Int.reduceNeg] | with_reducible refine vIf_t ?_ | with_reducible refine vIf_f ?_)); refine vCallIO_ex (pick_e g 4 σ1 (by omega)) (by simp (disch := omega) only [go_sem, Nat.reduceAdd, Nat.reduceEqDiff]) (by simp (disch := omega) only [go_sem, Nat.reduceAdd, Nat.reduceEqDiff]) (by first | rfl | (simp (disch := omega) only [go_sem, Nat.reduceAdd, Nat.reduceEqDiff])) (by first | rfl | (simp (disch := omega) only [go_sem, Nat.reduceAdd, Nat.reduceEqDiff])) (by first | rfl | (simp (disch := omega) only [go_sem, Nat.reduceAdd, Nat.reduceEqDiff])) ?_); rintro _ _ ⟨v2, σ2, rfl, rfl, h4, h5, h6⟩; (refine ⟨by first | (simp (disch := omega) only [go_sem, Nat.reduceAdd, Nat.reduceEqDiff]) | trivial, ?_⟩; (repeat (first | simp (maxSteps := 2000000) (disch := omega) only [go_sem, ↓reduceIte, Nat.reduceEqDiff, Nat.reduceAdd, Nat.reduceMul, Nat.reduceSub, Int.reduceToNat, Int.reduceAdd, Int.reduceSub, Int.reduceMul, Int.reduceNeg] | with_reducible refine vIf_t ?_ | with_reducible refine vIf_f ?_)))
  refine vcLoop_invF (fun x : Option (List Int × List Int) × Sr × Int × Int × Int => (match x.1 with | none => (2 ≤ x.2.2.2.2 ∧ x.2.2.2.2 ≤ 5) ∧ x.2.1.pos ≤ σ.pos + 4 ∧ (-200 ≤ x.2.2.1 ∧ x.2.2.1 ≤ -110) ∧ x.2.2.2.1 = 0 | some c => c.2.length = c.1.length ∧ 0 ≤ x.2.2.2.2 ∧ 2 ≤ (c.1.length : Int) + x.2.2.2.2 ∧ (c.1.length : Int) + x.2.2.2.2 ≤ 5 ∧ x.2.1.pos ≤ σ.pos + 4 + 4 * c.1.length ∧ 1 ≤ c.1.length ∧ Ris c.1 x.2.2.1 (-2000) ∧ Ris c.2 x.2.2.2.1 0 ∧ gi c.2 0 = 0 ∧ (-200 ≤ x.2.2.1 ∧ x.2.2.1 ≤ -110 + 200 * (c.1.length : Int)) ∧ (0 ≤ x.2.2.2.1 ∧ x.2.2.2.1 ≤ 9000 * (c.1.length : Int))))
    (fun x => match x.1 with
      | none => ⟨44, 1, [(0, .ptr 0 0), (2, .ptr 1 0), (3, .ptr 2 0), (4, I x.2.2.1), (5, I x.2.2.2.1), (6, I x.2.2.2.2)], [srO code x.2.1, some ⟨2, [nilS, nilS]⟩, some ⟨2, [nilS, nilS]⟩]⟩
      | some c => ⟨44, 1, [(0, .ptr 0 0), (2, .ptr 1 0), (3, .ptr 2 0), (4, I x.2.2.1), (5, I x.2.2.2.1), (6, I x.2.2.2.2)], [srO code x.2.1, some ⟨2, [nilS, nilS]⟩, some ⟨2, [.ref 3 0 c.1.length, .ref 4 0 c.2.length]⟩, oI c.1, oI c.2]⟩)
    (fun x => x.2.2.2.2.toNat) (none, σ2, -200 + 10 * v1, 0, 2 + v2) ⟨by simp only; omega, by simp only; omega, by simp only; omega, rfl⟩ (by (first | (refine leF_s ?_; ((repeat (first | simp (maxSteps := 2000000) (disch := omega) only [go_sem, ↓reduceIte, Nat.reduceEqDiff, Nat.reduceAdd, Nat.reduceMul, Nat.reduceSub, Int.reduceToNat, Int.reduceAdd, Int.reduceSub, Int.reduceMul, Int.reduceNeg] | with_reducible refine vIf_t ?_ | with_reducible refine vIf_f ?_)); all_goals (try simp); all_goals (try omega)); done) | (refine leF_p ?_; ((repeat (first | simp (maxSteps := 2000000) (disch := omega) only [go_sem, ↓reduceIte, Nat.reduceEqDiff, Nat.reduceAdd, Nat.reduceMul, Nat.reduceSub, Int.reduceToNat, Int.reduceAdd, Int.reduceSub, Int.reduceMul, Int.reduceNeg] | with_reducible refine vIf_t ?_ | with_reducible refine vIf_f ?_)); all_goals (try simp); all_goals (try omega)); done))) ?_
  rintro ⟨x, σ', lev, vol, k⟩ hx
  cases x with
  | none =>
    obtain ⟨g1, g2, g3, g4⟩ := hx
    simp only at g1 g2 g3 g4
    (repeat (first | simp (maxSteps := 2000000) (disch := omega) only [go_sem, ↓reduceIte, Nat.reduceEqDiff, Nat.reduceAdd, Nat.reduceMul, Nat.reduceSub, Int.reduceToNat, Int.reduceAdd, Int.reduceSub, Int.reduceMul, Int.reduceNeg] | with_reducible refine vIf_t ?_ | with_reducible refine vIf_f ?_))
    (refine vCallX_io [0] ?_; (repeat (first | simp (maxSteps := 2000000) (disch := omega) only [go_sem, ↓reduceIte, Nat.reduceEqDiff, Nat.reduceAdd, Nat.reduceMul, Nat.reduceSub, Int.reduceToNat, Int.reduceAdd, Int.reduceSub, Int.reduceMul, Int.reduceNeg] | with_reducible refine vIf_t ?_ | with_reducible refine vIf_f ?_)); refine vCallIO_ex (pick_e g 20 σ' (by omega)) (by simp (disch := omega) only [go_sem, Nat.reduceAdd, Nat.reduceEqDiff]) (by simp (disch := omega) only [go_sem, Nat.reduceAdd, Nat.reduceEqDiff]) (by first | rfl | (simp (disch := omega) only [go_sem, Nat.reduceAdd, Nat.reduceEqDiff])) (by first | rfl | (simp (disch := omega) only [go_sem, Nat.reduceAdd, Nat.reduceEqDiff])) (by first | rfl | (simp (disch := omega) only [go_sem, Nat.reduceAdd, Nat.reduceEqDiff])) ?_); rintro _ _ ⟨v3, σ3, rfl, rfl, h7, h8, h9⟩; (refine ⟨by first | (simp (disch := omega) only [go_sem, Nat.reduceAdd, Nat.reduceEqDiff]) | trivial, ?_⟩; (repeat (first | simp (maxSteps := 2000000) (disch := omega) only [go_sem, ↓reduceIte, Nat.reduceEqDiff, Nat.reduceAdd, Nat.reduceMul, Nat.reduceSub, Int.reduceToNat, Int.reduceAdd, Int.reduceSub, Int.reduceMul, Int.reduceNeg] | with_reducible refine vIf_t ?_ | with_reducible refine vIf_f ?_)))
    (refine vCallX_io [0] ?_; (repeat (first | simp (maxSteps := 2000000) (disch := omega) only [go_sem, ↓reduceIte, Nat.reduceEqDiff, Nat.reduceAdd, Nat.reduceMul, Nat.reduceSub, Int.reduceToNat, Int.reduceAdd, Int.reduceSub, Int.reduceMul, Int.reduceNeg] | with_reducible refine vIf_t ?_ | with_reducible refine vIf_f ?_)); refine vCallIO_ex (pick_e g 90 σ3 (by omega)) (by simp (disch := omega) only [go_sem, Nat.reduceAdd, Nat.reduceEqDiff]) (by simp (disch := omega) only [go_sem, Nat.reduceAdd, Nat.reduceEqDiff]) (by first | rfl | (simp (disch := omega) only [go_sem, Nat.reduceAdd, Nat.reduceEqDiff])) (by first | rfl | (simp (disch := omega) only [go_sem, Nat.reduceAdd, Nat.reduceEqDiff])) (by first | rfl | (simp (disch := omega) only [go_sem, Nat.reduceAdd, Nat.reduceEqDiff])) ?_); rintro _ _ ⟨v4, σ4, rfl, rfl, h10, h11, h12⟩; (refine ⟨by first | (simp (disch := omega) only [go_sem, Nat.reduceAdd, Nat.reduceEqDiff]) | trivial, ?_⟩; (repeat (first | simp (maxSteps := 2000000) (disch := omega) only [go_sem, ↓reduceIte, Nat.reduceEqDiff, Nat.reduceAdd, Nat.reduceMul, Nat.reduceSub, Int.reduceToNat, Int.reduceAdd, Int.reduceSub, Int.reduceMul, Int.reduceNeg] | with_reducible refine vIf_t ?_ | with_reducible refine vIf_f ?_)))
    refine againF ((some ([lev], [vol]), σ4, lev + 10 * (1 + v3), vol + 100 * (1 + v4), k - 1)) ?_ ?_ (by (first | (refine leF_s ?_; ((repeat (first | simp (maxSteps := 2000000) (disch := omega) only [go_sem, ↓reduceIte, Nat.reduceEqDiff, Nat.reduceAdd, Nat.reduceMul, Nat.reduceSub, Int.reduceToNat, Int.reduceAdd, Int.reduceSub, Int.reduceMul, Int.reduceNeg] | with_reducible refine vIf_t ?_ | with_reducible refine vIf_f ?_)); all_goals (try simp); all_goals (try omega)); done) | (refine leF_p ?_; ((repeat (first | simp (maxSteps := 2000000) (disch := omega) only [go_sem, ↓reduceIte, Nat.reduceEqDiff, Nat.reduceAdd, Nat.reduceMul, Nat.reduceSub, Int.reduceToNat, Int.reduceAdd, Int.reduceSub, Int.reduceMul, Int.reduceNeg] | with_reducible refine vIf_t ?_ | with_reducible refine vIf_f ?_)); all_goals (try simp); all_goals (try omega)); done)))
    · refine ⟨rfl, ?_, ?_, ?_, ?_, by simp, .one (by omega) (by simp only; omega), .one (by omega) (by simp only; omega), g4, ?_, ?_⟩ <;> simp <;> omega
    · simp only; omega
  | some c =>
    obtain ⟨lv, vl⟩ := c
    obtain ⟨g0, g1, g2, g3, g4, g5, g6, g7, g8, g9, g10⟩ := hx
    simp only at g0 g1 g2 g3 g4 g5 g6 g7 g8 g9 g10
    (repeat (first | simp (maxSteps := 2000000) (disch := omega) only [go_sem, ↓reduceIte, Nat.reduceEqDiff, Nat.reduceAdd, Nat.reduceMul, Nat.reduceSub, Int.reduceToNat, Int.reduceAdd, Int.reduceSub, Int.reduceMul, Int.reduceNeg] | with_reducible refine vIf_t ?_ | with_reducible refine vIf_f ?_))
    refine vIf_dec (fun h => ?_) (fun h => ?_)
    · (repeat (first | simp (maxSteps := 2000000) (disch := omega) only [go_sem, ↓reduceIte, Nat.reduceEqDiff, Nat.reduceAdd, Nat.reduceMul, Nat.reduceSub, Int.reduceToNat, Int.reduceAdd, Int.reduceSub, Int.reduceMul, Int.reduceNeg] | with_reducible refine vIf_t ?_ | with_reducible refine vIf_f ?_))
      (refine vCallX_io [0] ?_; (repeat (first | simp (maxSteps := 2000000) (disch := omega) only [go_sem, ↓reduceIte, Nat.reduceEqDiff, Nat.reduceAdd, Nat.reduceMul, Nat.reduceSub, Int.reduceToNat, Int.reduceAdd, Int.reduceSub, Int.reduceMul, Int.reduceNeg] | with_reducible refine vIf_t ?_ | with_reducible refine vIf_f ?_)); refine vCallIO_ex (pick_e g 20 σ' (by omega)) (by simp (disch := omega) only [go_sem, Nat.reduceAdd, Nat.reduceEqDiff]) (by simp (disch := omega) only [go_sem, Nat.reduceAdd, Nat.reduceEqDiff]) (by first | rfl | (simp (disch := omega) only [go_sem, Nat.reduceAdd, Nat.reduceEqDiff])) (by first | rfl | (simp (disch := omega) only [go_sem, Nat.reduceAdd, Nat.reduceEqDiff])) (by first | rfl | (simp (disch := omega) only [go_sem, Nat.reduceAdd, Nat.reduceEqDiff])) ?_); rintro _ _ ⟨v3, σ3, rfl, rfl, h7, h8, h9⟩; (refine ⟨by first | (simp (disch := omega) only [go_sem, Nat.reduceAdd, Nat.reduceEqDiff]) | trivial, ?_⟩; (repeat (first | simp (maxSteps := 2000000) (disch := omega) only [go_sem, ↓reduceIte, Nat.reduceEqDiff, Nat.reduceAdd, Nat.reduceMul, Nat.reduceSub, Int.reduceToNat, Int.reduceAdd, Int.reduceSub, Int.reduceMul, Int.reduceNeg] | with_reducible refine vIf_t ?_ | with_reducible refine vIf_f ?_)))
      (refine vCallX_io [0] ?_; (repeat (first | simp (maxSteps := 2000000) (disch := omega) only [go_sem, ↓reduceIte, Nat.reduceEqDiff, Nat.reduceAdd, Nat.reduceMul, Nat.reduceSub, Int.reduceToNat, Int.reduceAdd, Int.reduceSub, Int.reduceMul, Int.reduceNeg] | with_reducible refine vIf_t ?_ | with_reducible refine vIf_f ?_)); refine vCallIO_ex (pick_e g 90 σ3 (by omega)) (by simp (disch := omega) only [go_sem, Nat.reduceAdd, Nat.reduceEqDiff]) (by simp (disch := omega) only [go_sem, Nat.reduceAdd, Nat.reduceEqDiff]) (by first | rfl | (simp (disch := omega) only [go_sem, Nat.reduceAdd, Nat.reduceEqDiff])) (by first | rfl | (simp (disch := omega) only [go_sem, Nat.reduceAdd, Nat.reduceEqDiff])) (by first | rfl | (simp (disch := omega) only [go_sem, Nat.reduceAdd, Nat.reduceEqDiff])) ?_); rintro _ _ ⟨v4, σ4, rfl, rfl, h10, h11, h12⟩; (refine ⟨by first | (simp (disch := omega) only [go_sem, Nat.reduceAdd, Nat.reduceEqDiff]) | trivial, ?_⟩; (repeat (first | simp (maxSteps := 2000000) (disch := omega) only [go_sem, ↓reduceIte, Nat.reduceEqDiff, Nat.reduceAdd, Nat.reduceMul, Nat.reduceSub, Int.reduceToNat, Int.reduceAdd, Int.reduceSub, Int.reduceMul, Int.reduceNeg] | with_reducible refine vIf_t ?_ | with_reducible refine vIf_f ?_)))
      refine againF ((some (lv ++ [lev], vl ++ [vol]), σ4, lev + 10 * (1 + v3), vol + 100 * (1 + v4), k - 1)) ?_ ?_ (by (first | (refine leF_s ?_; ((repeat (first | simp (maxSteps := 2000000) (disch := omega) only [go_sem, ↓reduceIte, Nat.reduceEqDiff, Nat.reduceAdd, Nat.reduceMul, Nat.reduceSub, Int.reduceToNat, Int.reduceAdd, Int.reduceSub, Int.reduceMul, Int.reduceNeg] | with_reducible refine vIf_t ?_ | with_reducible refine vIf_f ?_)); all_goals (try simp); all_goals (try omega)); done) | (refine leF_p ?_; ((repeat (first | simp (maxSteps := 2000000) (disch := omega) only [go_sem, ↓reduceIte, Nat.reduceEqDiff, Nat.reduceAdd, Nat.reduceMul, Nat.reduceSub, Int.reduceToNat, Int.reduceAdd, Int.reduceSub, Int.reduceMul, Int.reduceNeg] | with_reducible refine vIf_t ?_ | with_reducible refine vIf_f ?_)); all_goals (try simp); all_goals (try omega)); done)))
      · refine ⟨?_, ?_, ?_, ?_, ?_, by simp, g6.snoc (by omega) (by simp only; omega), g7.snoc (by omega) (by simp only; omega), ?_, ?_, ?_⟩
        all_goals first | (rw [gi_append_left _ _ _ (by omega)]; exact g8) | (simp <;> omega)
      · simp only; omega
    · (repeat (first | simp (maxSteps := 2000000) (disch := omega) only [go_sem, ↓reduceIte, Nat.reduceEqDiff, Nat.reduceAdd, Nat.reduceMul, Nat.reduceSub, Int.reduceToNat, Int.reduceAdd, Int.reduceSub, Int.reduceMul, Int.reduceNeg] | with_reducible refine vIf_t ?_ | with_reducible refine vIf_f ?_))
      (refine retK_of ?_; (repeat (first | simp (maxSteps := 2000000) (disch := omega) only [go_sem, ↓reduceIte, Nat.reduceEqDiff, Nat.reduceAdd, Nat.reduceMul, Nat.reduceSub, Int.reduceToNat, Int.reduceAdd, Int.reduceSub, Int.reduceMul, Int.reduceNeg] | with_reducible refine vIf_t ?_ | with_reducible refine vIf_f ?_)))
      refine ⟨lv, vl, σ', rfl, rfl, okC_of (by omega) (by omega) g0 g6 g7 (by omega) (by omega) g8, ?_, by omega⟩
      have := g7.b (lv.length - 1) (by omega)
      omega
structure Sw where
  on : Int
  off : Int
  deriving Inhabited, DecidableEq
def Sw.cells (d : Sw) : List V := [.sc (.int .i64 d.on), .sc (.int .i64 d.off)]
def cSw (ds : List Sw) : List V := ds.flatMap Sw.cells
def gSw (ds : List Sw) (i : Nat) : Sw := ds.getD i default
theorem gSw_lt (ds : List Sw) (i : Nat) (h : i < ds.length) : gSw ds i = ds[i] := by simp [gSw, h]
theorem gSw_mem (ds : List Sw) (i : Nat) (h : i < ds.length) : gSw ds i ∈ ds := by rw [gSw_lt ds i h]; exact List.getElem_mem h
theorem gSw_take_succ (ds : List Sw) (i : Nat) (h : i < ds.length) : ds.take (i + 1) = ds.take i ++ [gSw ds i] := by rw [List.take_succ_eq_append_getElem h, gSw_lt ds i h]
theorem gSw_set_same (ds : List Sw) (i : Nat) (d : Sw) (h : i < ds.length) : gSw (ds.set i d) i = d := by simp [gSw, h]
theorem gSw_set_ne (ds : List Sw) (i j : Nat) (d : Sw) (h : i ≠ j) : gSw (ds.set i d) j = gSw ds j := by simp [gSw, h]
theorem gSw_app_l (xs ys : List Sw) (i : Nat) (h : i < xs.length) : gSw (xs ++ ys) i = gSw xs i := by simp [gSw, List.getElem?_append_left h]
theorem gSw_app_r (xs ys : List Sw) (i : Nat) (h : xs.length ≤ i) : gSw (xs ++ ys) i = gSw ys (i - xs.length) := by simp [gSw, List.getElem?_append_right h]
theorem cSw_eq (ds : List Sw) : cSw ds = (ds.map Sw.cells).flatten := by rw [cSw, List.flatMap_def]
@[go_sem] theorem length_cSw (ds : List Sw) : (cSw ds).length = ds.length * 2 := (rsLen Sw.cells 2 (fun _ => rfl) ds)
@[go_sem] theorem cSw_nil : cSw [] = [] := rfl
@[go_sem] theorem cSw_append (xs ys : List Sw) : cSw xs ++ cSw ys = cSw (xs ++ ys) := by simp [cSw]
theorem cSw_one (d : Sw) : cSw [d] = d.cells := by simp [cSw]
@[go_sem] theorem cSw_snoc (xs : List Sw) (on : Int) (off : Int) : cSw xs ++ [.sc (.int .i64 on), .sc (.int .i64 off)] = cSw (xs ++ [⟨on, off⟩]) := by simp [cSw, Sw.cells]
@[go_sem] theorem cSw_take (ds : List Sw) (n : Nat) : (cSw ds).take (n * 2) = cSw (ds.take n) := rsTake Sw.cells 2 (fun _ => rfl) ds n
@[go_sem] theorem cSw_take_all (ds : List Sw) (n : Nat) (h : ds.length * 2 ≤ n) : (cSw ds).take n = cSw ds := List.take_of_length_le (by rw [length_cSw]; exact h)
@[go_sem] theorem cSw_drop (ds : List Sw) (n : Nat) : (cSw ds).drop (n * 2) = cSw (ds.drop n) := rsDrop Sw.cells 2 (fun _ => rfl) ds n
@[go_sem high] theorem vPart_cSw (ds : List Sw) (i : Nat) (K : V → Prop) : vPart true 2 (cSw ds) (i * 2) K = grd (i < ds.length) (K (.agg [.sc (.int .i64 (gSw ds i).on), .sc (.int .i64 (gSw ds i).off)])) := rsPart Sw.cells 2 (fun _ => rfl) (by omega) ds i K
@[go_sem] theorem vAt_cSw_0 (ds : List Sw) (i : Nat) (K : V → Prop) : vAt (cSw ds) (i * 2) K = grd (i < ds.length) (K (.sc (.int .i64 (gSw ds i).on))) := rsAt Sw.cells 2 (fun _ => rfl) ds i 0 (by omega) (fun d => .sc (.int .i64 d.on)) (fun _ => rfl) K
@[go_sem] theorem wr_cSw_0 (ds : List Sw) (i : Nat) (x : Int) (h : i < ds.length) : wr (cSw ds) (i * 2) [.sc (.int .i64 x)] = cSw (ds.set i {gSw ds i with on := x}) := rsWr Sw.cells 2 (fun _ => rfl) ds i 0 (by omega) h _ _ rfl
@[go_sem] theorem vAt_cSw_1 (ds : List Sw) (i : Nat) (K : V → Prop) : vAt (cSw ds) (i * 2 + 1) K = grd (i < ds.length) (K (.sc (.int .i64 (gSw ds i).off))) := rsAt Sw.cells 2 (fun _ => rfl) ds i 1 (by omega) (fun d => .sc (.int .i64 d.off)) (fun _ => rfl) K
@[go_sem] theorem wr_cSw_1 (ds : List Sw) (i : Nat) (x : Int) (h : i < ds.length) : wr (cSw ds) (i * 2 + 1) [.sc (.int .i64 x)] = cSw (ds.set i {gSw ds i with off := x}) := rsWr Sw.cells 2 (fun _ => rfl) ds i 1 (by omega) h _ _ rfl
@[go_sem] theorem wr_cSw_0_set (ds : List Sw) (i i0 : Nat) (d : Sw) (x : Int) (h : i < ds.length) : wr (cSw (ds.set i0 d)) (i * 2) [.sc (.int .i64 x)] = cSw ((ds.set i0 d).set i {gSw (ds.set i0 d) i with on := x}) := wr_cSw_0 _ _ _ (by rw [List.length_set]; exact h)
@[go_sem] theorem wr_cSw_1_set (ds : List Sw) (i i0 : Nat) (d : Sw) (x : Int) (h : i < ds.length) : wr (cSw (ds.set i0 d)) (i * 2 + 1) [.sc (.int .i64 x)] = cSw ((ds.set i0 d).set i {gSw (ds.set i0 d) i with off := x}) := wr_cSw_1 _ _ _ (by rw [List.length_set]; exact h)
attribute [go_sem] gSw_set_same
@[go_sem] theorem wr_cSw_all (ds : List Sw) (i : Nat) (on : Int) (off : Int) (h : i < ds.length) : wr (cSw ds) (i * 2) [.sc (.int .i64 on), .sc (.int .i64 off)] = cSw (ds.set i ⟨on, off⟩) := rsWrAll Sw.cells 2 (fun _ => rfl) ds i h ⟨on, off⟩
@[go_sem] theorem imm_cSw (ds : List Sw) : V.immL (cSw ds) = true := by induction ds with | nil => rfl | cons x xs ih => exact ih
@[go_sem] theorem one_cSw (ds : List Sw) : V.oneL (cSw ds) = true := by induction ds with | nil => rfl | cons x xs ih => exact ih
@[go_sem] theorem noref_cSw (ds : List Sw) : V.norefL (cSw ds) = true := by induction ds with | nil => rfl | cons x xs ih => exact ih
@[go_sem] theorem flat_cSw (ds : List Sw) : V.flatL (cSw ds) = true := by induction ds with | nil => rfl | cons x xs ih => exact ih
@[go_sem] theorem kill_cSw (p : Nat → Bool) (ds : List Sw) : V.killL p (cSw ds) = cSw ds := killL_noref p _ (noref_cSw ds)
@[go_sem] theorem frz_cSw (f : Nat → Option Ob) (ds : List Sw) : V.frzL f (cSw ds) = cSw ds := frzL_noref f _ (noref_cSw ds)
@[go_sem] theorem ren_cSw (g : Nat → Nat) (ds : List Sw) : V.renL g (cSw ds) = cSw ds := by induction ds with | nil => rfl | cons x xs ih => exact congrArg (x.cells ++ ·) ih
@[go_sem] theorem reps_cSw (n : Nat) : reps n [V.sc (.int .i64 0), V.sc (.int .i64 0)] = cSw (List.replicate n ⟨0, 0⟩) := rsReps Sw.cells n ⟨0, 0⟩
@[go_sem] theorem map_cSw_inj (xs ys : List Sw) : (cSw xs = cSw ys) = (xs = ys) := propext ⟨rsInj Sw.cells 2 (fun _ => rfl) (by omega) (fun a b h => by cases a; cases b; simpa [Sw.cells] using h) xs ys, fun h => by rw [h]⟩
@[go_sem] theorem cSw_rep0 (d : Sw) : cSw (List.replicate 0 d) = [] := rfl
@[go_sem] theorem wr_cSw_rep1 (d : Sw) (on : Int) (off : Int) : wr (cSw (List.replicate 1 d)) 0 [.sc (.int .i64 on), .sc (.int .i64 off)] = cSw [⟨on, off⟩] := rfl
@[go_sem] theorem cSw_take1 (d : Sw) : (cSw [d]).take 2 = cSw [d] := rfl
structure Hr where
  lv : Int
  run : Bool
  deriving Inhabited, DecidableEq
def Hr.cells (d : Hr) : List V := [.sc (.int .i64 d.lv), .sc (.bool d.run)]
def cHr (ds : List Hr) : List V := ds.flatMap Hr.cells
def gHr (ds : List Hr) (i : Nat) : Hr := ds.getD i default
theorem gHr_lt (ds : List Hr) (i : Nat) (h : i < ds.length) : gHr ds i = ds[i] := by simp [gHr, h]
theorem gHr_mem (ds : List Hr) (i : Nat) (h : i < ds.length) : gHr ds i ∈ ds := by rw [gHr_lt ds i h]; exact List.getElem_mem h
theorem gHr_take_succ (ds : List Hr) (i : Nat) (h : i < ds.length) : ds.take (i + 1) = ds.take i ++ [gHr ds i] := by rw [List.take_succ_eq_append_getElem h, gHr_lt ds i h]
theorem gHr_set_same (ds : List Hr) (i : Nat) (d : Hr) (h : i < ds.length) : gHr (ds.set i d) i = d := by simp [gHr, h]
theorem gHr_set_ne (ds : List Hr) (i j : Nat) (d : Hr) (h : i ≠ j) : gHr (ds.set i d) j = gHr ds j := by simp [gHr, h]
theorem gHr_app_l (xs ys : List Hr) (i : Nat) (h : i < xs.length) : gHr (xs ++ ys) i = gHr xs i := by simp [gHr, List.getElem?_append_left h]
theorem gHr_app_r (xs ys : List Hr) (i : Nat) (h : xs.length ≤ i) : gHr (xs ++ ys) i = gHr ys (i - xs.length) := by simp [gHr, List.getElem?_append_right h]
theorem cHr_eq (ds : List Hr) : cHr ds = (ds.map Hr.cells).flatten := by rw [cHr, List.flatMap_def]
@[go_sem] theorem length_cHr (ds : List Hr) : (cHr ds).length = ds.length * 2 := (rsLen Hr.cells 2 (fun _ => rfl) ds)
@[go_sem] theorem cHr_nil : cHr [] = [] := rfl
@[go_sem] theorem cHr_append (xs ys : List Hr) : cHr xs ++ cHr ys = cHr (xs ++ ys) := by simp [cHr]
theorem cHr_one (d : Hr) : cHr [d] = d.cells := by simp [cHr]
@[go_sem] theorem cHr_snoc (xs : List Hr) (lv : Int) (run : Bool) : cHr xs ++ [.sc (.int .i64 lv), .sc (.bool run)] = cHr (xs ++ [⟨lv, run⟩]) := by simp [cHr, Hr.cells]
@[go_sem] theorem cHr_take (ds : List Hr) (n : Nat) : (cHr ds).take (n * 2) = cHr (ds.take n) := rsTake Hr.cells 2 (fun _ => rfl) ds n
@[go_sem] theorem cHr_take_all (ds : List Hr) (n : Nat) (h : ds.length * 2 ≤ n) : (cHr ds).take n = cHr ds := List.take_of_length_le (by rw [length_cHr]; exact h)
@[go_sem] theorem cHr_drop (ds : List Hr) (n : Nat) : (cHr ds).drop (n * 2) = cHr (ds.drop n) := rsDrop Hr.cells 2 (fun _ => rfl) ds n
@[go_sem high] theorem vPart_cHr (ds : List Hr) (i : Nat) (K : V → Prop) : vPart true 2 (cHr ds) (i * 2) K = grd (i < ds.length) (K (.agg [.sc (.int .i64 (gHr ds i).lv), .sc (.bool (gHr ds i).run)])) := rsPart Hr.cells 2 (fun _ => rfl) (by omega) ds i K
@[go_sem] theorem vAt_cHr_0 (ds : List Hr) (i : Nat) (K : V → Prop) : vAt (cHr ds) (i * 2) K = grd (i < ds.length) (K (.sc (.int .i64 (gHr ds i).lv))) := rsAt Hr.cells 2 (fun _ => rfl) ds i 0 (by omega) (fun d => .sc (.int .i64 d.lv)) (fun _ => rfl) K
@[go_sem] theorem wr_cHr_0 (ds : List Hr) (i : Nat) (x : Int) (h : i < ds.length) : wr (cHr ds) (i * 2) [.sc (.int .i64 x)] = cHr (ds.set i {gHr ds i with lv := x}) := rsWr Hr.cells 2 (fun _ => rfl) ds i 0 (by omega) h _ _ rfl
@[go_sem] theorem vAt_cHr_1 (ds : List Hr) (i : Nat) (K : V → Prop) : vAt (cHr ds) (i * 2 + 1) K = grd (i < ds.length) (K (.sc (.bool (gHr ds i).run))) := rsAt Hr.cells 2 (fun _ => rfl) ds i 1 (by omega) (fun d => .sc (.bool d.run)) (fun _ => rfl) K
@[go_sem] theorem wr_cHr_1 (ds : List Hr) (i : Nat) (x : Bool) (h : i < ds.length) : wr (cHr ds) (i * 2 + 1) [.sc (.bool x)] = cHr (ds.set i {gHr ds i with run := x}) := rsWr Hr.cells 2 (fun _ => rfl) ds i 1 (by omega) h _ _ rfl
@[go_sem] theorem wr_cHr_0_set (ds : List Hr) (i i0 : Nat) (d : Hr) (x : Int) (h : i < ds.length) : wr (cHr (ds.set i0 d)) (i * 2) [.sc (.int .i64 x)] = cHr ((ds.set i0 d).set i {gHr (ds.set i0 d) i with lv := x}) := wr_cHr_0 _ _ _ (by rw [List.length_set]; exact h)
@[go_sem] theorem wr_cHr_1_set (ds : List Hr) (i i0 : Nat) (d : Hr) (x : Bool) (h : i < ds.length) : wr (cHr (ds.set i0 d)) (i * 2 + 1) [.sc (.bool x)] = cHr ((ds.set i0 d).set i {gHr (ds.set i0 d) i with run := x}) := wr_cHr_1 _ _ _ (by rw [List.length_set]; exact h)
attribute [go_sem] gHr_set_same
@[go_sem] theorem wr_cHr_all (ds : List Hr) (i : Nat) (lv : Int) (run : Bool) (h : i < ds.length) : wr (cHr ds) (i * 2) [.sc (.int .i64 lv), .sc (.bool run)] = cHr (ds.set i ⟨lv, run⟩) := rsWrAll Hr.cells 2 (fun _ => rfl) ds i h ⟨lv, run⟩
@[go_sem] theorem imm_cHr (ds : List Hr) : V.immL (cHr ds) = true := by induction ds with | nil => rfl | cons x xs ih => exact ih
@[go_sem] theorem one_cHr (ds : List Hr) : V.oneL (cHr ds) = true := by induction ds with | nil => rfl | cons x xs ih => exact ih
@[go_sem] theorem noref_cHr (ds : List Hr) : V.norefL (cHr ds) = true := by induction ds with | nil => rfl | cons x xs ih => exact ih
@[go_sem] theorem flat_cHr (ds : List Hr) : V.flatL (cHr ds) = true := by induction ds with | nil => rfl | cons x xs ih => exact ih
@[go_sem] theorem kill_cHr (p : Nat → Bool) (ds : List Hr) : V.killL p (cHr ds) = cHr ds := killL_noref p _ (noref_cHr ds)
@[go_sem] theorem frz_cHr (f : Nat → Option Ob) (ds : List Hr) : V.frzL f (cHr ds) = cHr ds := frzL_noref f _ (noref_cHr ds)
@[go_sem] theorem ren_cHr (g : Nat → Nat) (ds : List Hr) : V.renL g (cHr ds) = cHr ds := by induction ds with | nil => rfl | cons x xs ih => exact congrArg (x.cells ++ ·) ih
@[go_sem] theorem reps_cHr (n : Nat) : reps n [V.sc (.int .i64 0), V.sc (.bool false)] = cHr (List.replicate n ⟨0, false⟩) := rsReps Hr.cells n ⟨0, false⟩
@[go_sem] theorem map_cHr_inj (xs ys : List Hr) : (cHr xs = cHr ys) = (xs = ys) := propext ⟨rsInj Hr.cells 2 (fun _ => rfl) (by omega) (fun a b h => by cases a; cases b; simpa [Hr.cells] using h) xs ys, fun h => by rw [h]⟩
@[go_sem] theorem cHr_rep0 (d : Hr) : cHr (List.replicate 0 d) = [] := rfl
@[go_sem] theorem wr_cHr_rep1 (d : Hr) (lv : Int) (run : Bool) : wr (cHr (List.replicate 1 d)) 0 [.sc (.int .i64 lv), .sc (.bool run)] = cHr [⟨lv, run⟩] := rfl
@[go_sem] theorem cHr_take1 (d : Hr) : (cHr [d]).take 2 = cHr [d] := rfl
/-- what a drawn switch is -/
def Sw.dr (w : Sw) : Prop := -200 ≤ w.off ∧ w.off < w.on ∧ w.on ≤ 200
end Go.Proofs.YtbgjkjiepkopkaaGreatDoor

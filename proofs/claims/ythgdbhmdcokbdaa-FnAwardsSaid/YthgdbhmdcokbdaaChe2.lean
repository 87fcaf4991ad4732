/- the cheapest award: the program's search -/
import Derived.Test.YthgdbhmdcokbdaaChe1
import Derived.Test.YthgdbhmdcokbdaaGreedy2
set_option linter.unusedVariables false
set_option linter.unusedSimpArgs false
namespace Go.Proofs.Ythgdbhmdcokbdaa
open Go.AG

/-- the search's objects: its struct, what is left of the bidders, the lots chosen (with leavings behind them), the best award -/
def awO (t : Td) (lf ch g : List Int) (b : Bs) : Objs := match b with
  | none => [some ⟨7, [I t.lots, .sl t.most.length (ints t.most), .sl t.bids.length (cBd t.bids), .ref 1 0 lf.length, .ref 2 0 ch.length, nilS, I 0]⟩, oI lf, oI (ch ++ g)]
  | some p => [some ⟨7, [I t.lots, .sl t.most.length (ints t.most), .sl t.bids.length (cBd t.bids), .ref 1 0 lf.length, .ref 2 0 ch.length, .ref 3 0 p.1.length, I p.2]⟩, oI lf, oI (ch ++ g), oI p.1]
theorem awO_none (t : Td) (lf ch g : List Int) : awO t lf ch g none = [some ⟨7, [I t.lots, .sl t.most.length (ints t.most), .sl t.bids.length (cBd t.bids), .ref 1 0 lf.length, .ref 2 0 ch.length, nilS, I 0]⟩, oI lf, oI (ch ++ g)] := rfl
theorem awO_some (t : Td) (lf ch g : List Int) (l : List Int) (c : Int) : awO t lf ch g (some (l, c)) = [some ⟨7, [I t.lots, .sl t.most.length (ints t.most), .sl t.bids.length (cBd t.bids), .ref 1 0 lf.length, .ref 2 0 ch.length, .ref 3 0 l.length, I c]⟩, oI lf, oI (ch ++ g), oI l] := rfl
theorem joinG {G H : Prop} (h : G → H) (g : G) : H := h g
attribute [local go_sem] List.take_left List.append_nil List.append_assoc List.cons_append List.nil_append awO_none awO_some
theorem down_len (lf : List Int) (j : Nat) : (down lf j).length = lf.length := by simp [down]
theorem down_8 (lf : List Int) (j : Nat) (hj : j < lf.length) (h : ∀ i, i < lf.length → 0 ≤ gi lf i ∧ gi lf i ≤ 8) (h0 : gi lf j ≠ 0) : ∀ i, i < (down lf j).length → 0 ≤ gi (down lf j) i ∧ gi (down lf j) i ≤ 8 := by
  intro i hi
  rw [down_len] at hi
  unfold down
  by_cases e : j = i
  · subst e
    rw [gi_set_same _ _ _ hi]
    have := h j hi
    omega
  · rw [gi_set_ne _ _ _ _ e]; exact h i hi

set_option maxRecDepth 100000 in
set_option maxHeartbeats 8000000 in
theorem next_ok {t : Td} (hok : okT t = true) (hm : t.most.length ≤ 10000000) (hb : t.bids.length ≤ 10000000) : ∀ (d : Nat) (lf ch g : List Int) (c : Int) (b : Bs), lf.length = t.most.length → (∀ i, i < lf.length → 0 ≤ gi lf i ∧ gi lf i ≤ 8) →
    (ch.length : Int) + d = t.lots → 0 ≤ c → c ≤ 1000000 * ch.length → okB2 (ch.length + d) b →
    ACallsM Try.prog 26 [.ptr 0 0, I c] 1 (awO t lf ch g b) (fun r o => r = .tup [] ∧ ∃ g' b', b' = nxA t d lf ch c b ∧ o = awO t lf ch g' b') := by
  intro d
  induction d with
  | zero =>
    intro lf ch g c b hlf hl8 hd hc0 hc1 hbs
    have htb := okT_t hok
    have hcl := clone_ok ch (by omega)
    unfold iS at hcl
    have hsz := size_ok (ints ch) ch.length
    rcases b with _ | ⟨l, c0⟩
    · rw [awO_none]
      refine ACallsM.of_vc Try.func26 rfl (by decide) 123 rfl [] rfl (by simp) (by simp) ?_
      (repeat (first | simp (maxSteps := 2000000) (disch := omega) only [go_sem, ↓reduceIte, Nat.reduceEqDiff, Nat.reduceAdd, Nat.reduceMul, Nat.reduceSub, Int.reduceToNat, Int.reduceAdd, Int.reduceSub, Int.reduceMul, Int.reduceNeg] | with_reducible refine vIf_t ?_ | with_reducible refine vIf_f ?_))
      (refine vCallX_of ?_; (repeat (first | simp (maxSteps := 2000000) (disch := omega) only [go_sem, ↓reduceIte, Nat.reduceEqDiff, Nat.reduceAdd, Nat.reduceMul, Nat.reduceSub, Int.reduceToNat, Int.reduceAdd, Int.reduceSub, Int.reduceMul, Int.reduceNeg] | with_reducible refine vIf_t ?_ | with_reducible refine vIf_f ?_)); refine vCall_eq (hsz) (by simp (disch := omega) only [go_sem, Nat.reduceAdd]) rfl (by first | exact Or.inl rfl | exact Or.inr ⟨rfl, rfl⟩ | (apply Or.inr; simp only [go_sem])) ?_; (repeat (first | simp (maxSteps := 2000000) (disch := omega) only [go_sem, ↓reduceIte, Nat.reduceEqDiff, Nat.reduceAdd, Nat.reduceMul, Nat.reduceSub, Int.reduceToNat, Int.reduceAdd, Int.reduceSub, Int.reduceMul, Int.reduceNeg] | with_reducible refine vIf_t ?_ | with_reducible refine vIf_f ?_)))
      (refine vCallX_of ?_; (repeat (first | simp (maxSteps := 2000000) (disch := omega) only [go_sem, ↓reduceIte, Nat.reduceEqDiff, Nat.reduceAdd, Nat.reduceMul, Nat.reduceSub, Int.reduceToNat, Int.reduceAdd, Int.reduceSub, Int.reduceMul, Int.reduceNeg] | with_reducible refine vIf_t ?_ | with_reducible refine vIf_f ?_)); refine vCall_eq (hcl) (by simp (disch := omega) only [go_sem, Nat.reduceAdd]) rfl (by first | exact Or.inl rfl | exact Or.inr ⟨rfl, rfl⟩ | (apply Or.inr; simp only [go_sem])) ?_; (repeat (first | simp (maxSteps := 2000000) (disch := omega) only [go_sem, ↓reduceIte, Nat.reduceEqDiff, Nat.reduceAdd, Nat.reduceMul, Nat.reduceSub, Int.reduceToNat, Int.reduceAdd, Int.reduceSub, Int.reduceMul, Int.reduceNeg] | with_reducible refine vIf_t ?_ | with_reducible refine vIf_f ?_)))
      (refine retK_of ?_; (repeat (first | simp (maxSteps := 2000000) (disch := omega) only [go_sem, ↓reduceIte, Nat.reduceEqDiff, Nat.reduceAdd, Nat.reduceMul, Nat.reduceSub, Int.reduceToNat, Int.reduceAdd, Int.reduceSub, Int.reduceMul, Int.reduceNeg] | with_reducible refine vIf_t ?_ | with_reducible refine vIf_f ?_)))
      exact ⟨g, some (ch, c), rfl, rfl⟩
    · rw [awO_some]
      refine ACallsM.of_vc Try.func26 rfl (by decide) 123 rfl [] rfl (by simp) (by simp) ?_
      (repeat (first | simp (maxSteps := 2000000) (disch := omega) only [go_sem, ↓reduceIte, Nat.reduceEqDiff, Nat.reduceAdd, Nat.reduceMul, Nat.reduceSub, Int.reduceToNat, Int.reduceAdd, Int.reduceSub, Int.reduceMul, Int.reduceNeg] | with_reducible refine vIf_t ?_ | with_reducible refine vIf_f ?_))
      (refine vCallX_of ?_; (repeat (first | simp (maxSteps := 2000000) (disch := omega) only [go_sem, ↓reduceIte, Nat.reduceEqDiff, Nat.reduceAdd, Nat.reduceMul, Nat.reduceSub, Int.reduceToNat, Int.reduceAdd, Int.reduceSub, Int.reduceMul, Int.reduceNeg] | with_reducible refine vIf_t ?_ | with_reducible refine vIf_f ?_)); refine vCall_eq (hsz) (by simp (disch := omega) only [go_sem, Nat.reduceAdd]) rfl (by first | exact Or.inl rfl | exact Or.inr ⟨rfl, rfl⟩ | (apply Or.inr; simp only [go_sem])) ?_; (repeat (first | simp (maxSteps := 2000000) (disch := omega) only [go_sem, ↓reduceIte, Nat.reduceEqDiff, Nat.reduceAdd, Nat.reduceMul, Nat.reduceSub, Int.reduceToNat, Int.reduceAdd, Int.reduceSub, Int.reduceMul, Int.reduceNeg] | with_reducible refine vIf_t ?_ | with_reducible refine vIf_f ?_)))
      refine vIf_dec (fun h => ?_) (fun h => ?_)
      · (repeat (first | simp (maxSteps := 2000000) (disch := omega) only [go_sem, ↓reduceIte, Nat.reduceEqDiff, Nat.reduceAdd, Nat.reduceMul, Nat.reduceSub, Int.reduceToNat, Int.reduceAdd, Int.reduceSub, Int.reduceMul, Int.reduceNeg] | with_reducible refine vIf_t ?_ | with_reducible refine vIf_f ?_))
        (refine vCallX_of ?_; (repeat (first | simp (maxSteps := 2000000) (disch := omega) only [go_sem, ↓reduceIte, Nat.reduceEqDiff, Nat.reduceAdd, Nat.reduceMul, Nat.reduceSub, Int.reduceToNat, Int.reduceAdd, Int.reduceSub, Int.reduceMul, Int.reduceNeg] | with_reducible refine vIf_t ?_ | with_reducible refine vIf_f ?_)); refine vCall_eq (hcl) (by simp (disch := omega) only [go_sem, Nat.reduceAdd]) rfl (by first | exact Or.inl rfl | exact Or.inr ⟨rfl, rfl⟩ | (apply Or.inr; simp only [go_sem])) ?_; (repeat (first | simp (maxSteps := 2000000) (disch := omega) only [go_sem, ↓reduceIte, Nat.reduceEqDiff, Nat.reduceAdd, Nat.reduceMul, Nat.reduceSub, Int.reduceToNat, Int.reduceAdd, Int.reduceSub, Int.reduceMul, Int.reduceNeg] | with_reducible refine vIf_t ?_ | with_reducible refine vIf_f ?_)))
        (refine retK_of ?_; (repeat (first | simp (maxSteps := 2000000) (disch := omega) only [go_sem, ↓reduceIte, Nat.reduceEqDiff, Nat.reduceAdd, Nat.reduceMul, Nat.reduceSub, Int.reduceToNat, Int.reduceAdd, Int.reduceSub, Int.reduceMul, Int.reduceNeg] | with_reducible refine vIf_t ?_ | with_reducible refine vIf_f ?_)))
        refine ⟨g, some (ch, c), ?_, rfl⟩
        unfold nxA prn
        show _ = if decide (c0 ≤ c) = true then _ else _
        rw [if_neg (show ¬ (decide (c0 ≤ c) = true) by rw [decide_eq_true_eq]; omega)]
      · (repeat (first | simp (maxSteps := 2000000) (disch := omega) only [go_sem, ↓reduceIte, Nat.reduceEqDiff, Nat.reduceAdd, Nat.reduceMul, Nat.reduceSub, Int.reduceToNat, Int.reduceAdd, Int.reduceSub, Int.reduceMul, Int.reduceNeg] | with_reducible refine vIf_t ?_ | with_reducible refine vIf_f ?_))
        (refine retK_of ?_; (repeat (first | simp (maxSteps := 2000000) (disch := omega) only [go_sem, ↓reduceIte, Nat.reduceEqDiff, Nat.reduceAdd, Nat.reduceMul, Nat.reduceSub, Int.reduceToNat, Int.reduceAdd, Int.reduceSub, Int.reduceMul, Int.reduceNeg] | with_reducible refine vIf_t ?_ | with_reducible refine vIf_f ?_)))
        refine ⟨g, some (l, c0), ?_, rfl⟩
        unfold nxA prn
        show _ = if decide (c0 ≤ c) = true then _ else _
        rw [if_pos (show decide (c0 ≤ c) = true by rw [decide_eq_true_eq]; omega)]
  | succ d ih =>
    intro lf ch g c b0 hlf hl8 hd hc0 hc1 hbs
    have htb := okT_t hok
    have hsz := size_ok (ints ch) ch.length
    have hsk := srK_ok hok d lf ch c b0 hc0 hbs
    obtain ⟨R, hR⟩ : ∃ R, R = nxA t (d + 1) lf ch c b0 := ⟨_, rfl⟩
    rw [← hR]
    suffices hgo : ∀ b, b = b0 → ACallsM Try.prog 26 [.ptr 0 0, I c] 1 (awO t lf ch g b) (fun r o => r = .tup [] ∧ ∃ g' b', b' = R ∧ o = awO t lf ch g' b') from hgo b0 rfl
    apply joinG
    · intro common b e
      rcases b with _ | ⟨l, c0⟩
      · rw [awO_none]
        refine ACallsM.of_vc Try.func26 rfl (by decide) 123 rfl [] rfl (by simp) (by simp) ?_
        (repeat (first | simp (maxSteps := 2000000) (disch := omega) only [go_sem, ↓reduceIte, Nat.reduceEqDiff, Nat.reduceAdd, Nat.reduceMul, Nat.reduceSub, Int.reduceToNat, Int.reduceAdd, Int.reduceSub, Int.reduceMul, Int.reduceNeg] | with_reducible refine vIf_t ?_ | with_reducible refine vIf_f ?_))
        (refine vCallX_of ?_; (repeat (first | simp (maxSteps := 2000000) (disch := omega) only [go_sem, ↓reduceIte, Nat.reduceEqDiff, Nat.reduceAdd, Nat.reduceMul, Nat.reduceSub, Int.reduceToNat, Int.reduceAdd, Int.reduceSub, Int.reduceMul, Int.reduceNeg] | with_reducible refine vIf_t ?_ | with_reducible refine vIf_f ?_)); refine vCall_eq (hsz) (by simp (disch := omega) only [go_sem, Nat.reduceAdd]) rfl (by first | exact Or.inl rfl | exact Or.inr ⟨rfl, rfl⟩ | (apply Or.inr; simp only [go_sem])) ?_; (repeat (first | simp (maxSteps := 2000000) (disch := omega) only [go_sem, ↓reduceIte, Nat.reduceEqDiff, Nat.reduceAdd, Nat.reduceMul, Nat.reduceSub, Int.reduceToNat, Int.reduceAdd, Int.reduceSub, Int.reduceMul, Int.reduceNeg] | with_reducible refine vIf_t ?_ | with_reducible refine vIf_f ?_)))
        refine vcLoop_invF (fun x : Nat × List Int × Bs => x.1 ≤ lf.length ∧ x.2.2 = srK (nxF t d lf ch c) x.1 b0) (fun x => ⟨123, 1, [(49, I x.1), (0, .ptr 0 0), (4, I ch.length), (1, I c), (48, I lf.length)], awO t lf ch x.2.1 x.2.2⟩) (fun x => lf.length - x.1) (0, g, none) ⟨by omega, e⟩ (by (first | (refine leF_s ?_; ((repeat (first | simp (maxSteps := 2000000) (disch := omega) only [go_sem, ↓reduceIte, Nat.reduceEqDiff, Nat.reduceAdd, Nat.reduceMul, Nat.reduceSub, Int.reduceToNat, Int.reduceAdd, Int.reduceSub, Int.reduceMul, Int.reduceNeg] | with_reducible refine vIf_t ?_ | with_reducible refine vIf_f ?_)); all_goals (try simp); all_goals (try omega)); done) | (refine leF_p ?_; ((repeat (first | simp (maxSteps := 2000000) (disch := omega) only [go_sem, ↓reduceIte, Nat.reduceEqDiff, Nat.reduceAdd, Nat.reduceMul, Nat.reduceSub, Int.reduceToNat, Int.reduceAdd, Int.reduceSub, Int.reduceMul, Int.reduceNeg] | with_reducible refine vIf_t ?_ | with_reducible refine vIf_f ?_)); all_goals (try simp); all_goals (try omega)); done))) common
      · rw [awO_some]
        refine ACallsM.of_vc Try.func26 rfl (by decide) 123 rfl [] rfl (by simp) (by simp) ?_
        (repeat (first | simp (maxSteps := 2000000) (disch := omega) only [go_sem, ↓reduceIte, Nat.reduceEqDiff, Nat.reduceAdd, Nat.reduceMul, Nat.reduceSub, Int.reduceToNat, Int.reduceAdd, Int.reduceSub, Int.reduceMul, Int.reduceNeg] | with_reducible refine vIf_t ?_ | with_reducible refine vIf_f ?_))
        (refine vCallX_of ?_; (repeat (first | simp (maxSteps := 2000000) (disch := omega) only [go_sem, ↓reduceIte, Nat.reduceEqDiff, Nat.reduceAdd, Nat.reduceMul, Nat.reduceSub, Int.reduceToNat, Int.reduceAdd, Int.reduceSub, Int.reduceMul, Int.reduceNeg] | with_reducible refine vIf_t ?_ | with_reducible refine vIf_f ?_)); refine vCall_eq (hsz) (by simp (disch := omega) only [go_sem, Nat.reduceAdd]) rfl (by first | exact Or.inl rfl | exact Or.inr ⟨rfl, rfl⟩ | (apply Or.inr; simp only [go_sem])) ?_; (repeat (first | simp (maxSteps := 2000000) (disch := omega) only [go_sem, ↓reduceIte, Nat.reduceEqDiff, Nat.reduceAdd, Nat.reduceMul, Nat.reduceSub, Int.reduceToNat, Int.reduceAdd, Int.reduceSub, Int.reduceMul, Int.reduceNeg] | with_reducible refine vIf_t ?_ | with_reducible refine vIf_f ?_)))
        refine vcLoop_invF (fun x : Nat × List Int × Bs => x.1 ≤ lf.length ∧ x.2.2 = srK (nxF t d lf ch c) x.1 b0) (fun x => ⟨123, 1, [(49, I x.1), (0, .ptr 0 0), (4, I ch.length), (1, I c), (48, I lf.length)], awO t lf ch x.2.1 x.2.2⟩) (fun x => lf.length - x.1) (0, g, some (l, c0)) ⟨by omega, e⟩ (by (first | (refine leF_s ?_; ((repeat (first | simp (maxSteps := 2000000) (disch := omega) only [go_sem, ↓reduceIte, Nat.reduceEqDiff, Nat.reduceAdd, Nat.reduceMul, Nat.reduceSub, Int.reduceToNat, Int.reduceAdd, Int.reduceSub, Int.reduceMul, Int.reduceNeg] | with_reducible refine vIf_t ?_ | with_reducible refine vIf_f ?_)); all_goals (try simp); all_goals (try omega)); done) | (refine leF_p ?_; ((repeat (first | simp (maxSteps := 2000000) (disch := omega) only [go_sem, ↓reduceIte, Nat.reduceEqDiff, Nat.reduceAdd, Nat.reduceMul, Nat.reduceSub, Int.reduceToNat, Int.reduceAdd, Int.reduceSub, Int.reduceMul, Int.reduceNeg] | with_reducible refine vIf_t ?_ | with_reducible refine vIf_f ?_)); all_goals (try simp); all_goals (try omega)); done))) common
    · rintro ⟨j, g, b⟩ ⟨hj, he⟩
      simp only at hj he ⊢
      have hof := bidOf_ok t.bids j ch.length (by omega)
      have ei : fstI (isB (j : Int) (ch.length : Int)) t.bids = ixB t j ch.length := rfl
      rw [ei] at hof
      have hdl := down_len lf j
      have hdn : lf.set j (gi lf j - 1) = down lf j := rfl
      have hend : j = lf.length → ∃ g' b', b' = R ∧ awO t lf ch g b = awO t lf ch g' b' := fun e => ⟨g, b, by rw [hR, nx_succ, he, e], rfl⟩
      have hskip : can t lf j ch.length = false → b = srK (nxF t d lf ch c) (j + 1) b0 := fun h => by
        show b = nxF t d lf ch c j (srK (nxF t d lf ch c) j b0)
        rw [← he]
        unfold nxF
        rw [if_neg (by simp [h])]
      have hgo : can t lf j ch.length = true → ∀ b', b' = nxA t d (down lf j) (ch ++ [(j : Int)]) (c + (gBd t.bids (ixB t j ch.length).toNat).off) b → b' = srK (nxF t d lf ch c) (j + 1) b0 := fun h b' hb' => by
        show b' = nxF t d lf ch c j (srK (nxF t d lf ch c) j b0)
        rw [← he]
        unfold nxF
        rw [if_pos h]
        exact hb'
      have hbok := hsk j
      rw [← he] at hbok
      have hih := fun h1 h2 h3 h4 h5 h6 => ih (down lf j) (ch ++ [(j : Int)]) [] (c + (gBd t.bids (ixB t j ch.length).toNat).off) b h1 h2 h3 h4 h5 h6
      clear he
      rcases b with _ | ⟨l, c0⟩
      all_goals
        (repeat (first | simp (maxSteps := 2000000) (disch := omega) only [go_sem, ↓reduceIte, Nat.reduceEqDiff, Nat.reduceAdd, Nat.reduceMul, Nat.reduceSub, Int.reduceToNat, Int.reduceAdd, Int.reduceSub, Int.reduceMul, Int.reduceNeg] | with_reducible refine vIf_t ?_ | with_reducible refine vIf_f ?_))
        refine vIf_dec (fun hc => ?_) (fun hc => ?_)
        rotate_left
        · (repeat (first | simp (maxSteps := 2000000) (disch := omega) only [go_sem, ↓reduceIte, Nat.reduceEqDiff, Nat.reduceAdd, Nat.reduceMul, Nat.reduceSub, Int.reduceToNat, Int.reduceAdd, Int.reduceSub, Int.reduceMul, Int.reduceNeg] | with_reducible refine vIf_t ?_ | with_reducible refine vIf_f ?_))
          (refine retK_of ?_; (repeat (first | simp (maxSteps := 2000000) (disch := omega) only [go_sem, ↓reduceIte, Nat.reduceEqDiff, Nat.reduceAdd, Nat.reduceMul, Nat.reduceSub, Int.reduceToNat, Int.reduceAdd, Int.reduceSub, Int.reduceMul, Int.reduceNeg] | with_reducible refine vIf_t ?_ | with_reducible refine vIf_f ?_)))
          exact hend (by omega)
        (repeat (first | simp (maxSteps := 2000000) (disch := omega) only [go_sem, ↓reduceIte, Nat.reduceEqDiff, Nat.reduceAdd, Nat.reduceMul, Nat.reduceSub, Int.reduceToNat, Int.reduceAdd, Int.reduceSub, Int.reduceMul, Int.reduceNeg] | with_reducible refine vIf_t ?_ | with_reducible refine vIf_f ?_))
        (refine vCallX_of ?_; (repeat (first | simp (maxSteps := 2000000) (disch := omega) only [go_sem, ↓reduceIte, Nat.reduceEqDiff, Nat.reduceAdd, Nat.reduceMul, Nat.reduceSub, Int.reduceToNat, Int.reduceAdd, Int.reduceSub, Int.reduceMul, Int.reduceNeg] | with_reducible refine vIf_t ?_ | with_reducible refine vIf_f ?_)); refine vCall_eq (hof) (by simp (disch := omega) only [go_sem, Nat.reduceAdd]) rfl (by first | exact Or.inl rfl | exact Or.inr ⟨rfl, rfl⟩ | (apply Or.inr; simp only [go_sem])) ?_; (repeat (first | simp (maxSteps := 2000000) (disch := omega) only [go_sem, ↓reduceIte, Nat.reduceEqDiff, Nat.reduceAdd, Nat.reduceMul, Nat.reduceSub, Int.reduceToNat, Int.reduceAdd, Int.reduceSub, Int.reduceMul, Int.reduceNeg] | with_reducible refine vIf_t ?_ | with_reducible refine vIf_f ?_)))
        by_cases h1 : ixB t j ch.length < 0
        · have hno : can t lf j ch.length = false := by simp [can]; omega
          (repeat (first | simp (maxSteps := 2000000) (disch := omega) only [go_sem, ↓reduceIte, Nat.reduceEqDiff, Nat.reduceAdd, Nat.reduceMul, Nat.reduceSub, Int.reduceToNat, Int.reduceAdd, Int.reduceSub, Int.reduceMul, Int.reduceNeg, h1] | with_reducible refine vIf_t ?_ | with_reducible refine vIf_f ?_))
          refine againF (j + 1, g, _) ⟨by omega, hskip hno⟩ (by omega) (by (first | (refine leF_s ?_; ((repeat (first | simp (maxSteps := 2000000) (disch := omega) only [go_sem, ↓reduceIte, Nat.reduceEqDiff, Nat.reduceAdd, Nat.reduceMul, Nat.reduceSub, Int.reduceToNat, Int.reduceAdd, Int.reduceSub, Int.reduceMul, Int.reduceNeg] | with_reducible refine vIf_t ?_ | with_reducible refine vIf_f ?_)); all_goals (try simp); all_goals (try omega)); done) | (refine leF_p ?_; ((repeat (first | simp (maxSteps := 2000000) (disch := omega) only [go_sem, ↓reduceIte, Nat.reduceEqDiff, Nat.reduceAdd, Nat.reduceMul, Nat.reduceSub, Int.reduceToNat, Int.reduceAdd, Int.reduceSub, Int.reduceMul, Int.reduceNeg] | with_reducible refine vIf_t ?_ | with_reducible refine vIf_f ?_)); all_goals (try simp); all_goals (try omega)); done)))
        have hbd := can_bd hok (lf := lf) (show 0 ≤ ixB t j ch.length by omega)
        unfold offB at hbd
        by_cases h2 : gi lf j = 0
        · have hno : can t lf j ch.length = false := by simp [can, h2]
          (repeat (first | simp (maxSteps := 2000000) (disch := omega) only [go_sem, ↓reduceIte, Nat.reduceEqDiff, Nat.reduceAdd, Nat.reduceMul, Nat.reduceSub, Int.reduceToNat, Int.reduceAdd, Int.reduceSub, Int.reduceMul, Int.reduceNeg, h1, h2] | with_reducible refine vIf_t ?_ | with_reducible refine vIf_f ?_))
          refine againF (j + 1, g, _) ⟨by omega, hskip hno⟩ (by omega) (by (first | (refine leF_s ?_; ((repeat (first | simp (maxSteps := 2000000) (disch := omega) only [go_sem, ↓reduceIte, Nat.reduceEqDiff, Nat.reduceAdd, Nat.reduceMul, Nat.reduceSub, Int.reduceToNat, Int.reduceAdd, Int.reduceSub, Int.reduceMul, Int.reduceNeg] | with_reducible refine vIf_t ?_ | with_reducible refine vIf_f ?_)); all_goals (try simp); all_goals (try omega)); done) | (refine leF_p ?_; ((repeat (first | simp (maxSteps := 2000000) (disch := omega) only [go_sem, ↓reduceIte, Nat.reduceEqDiff, Nat.reduceAdd, Nat.reduceMul, Nat.reduceSub, Int.reduceToNat, Int.reduceAdd, Int.reduceSub, Int.reduceMul, Int.reduceNeg] | with_reducible refine vIf_t ?_ | with_reducible refine vIf_f ?_)); all_goals (try simp); all_goals (try omega)); done)))
        have hyes : can t lf j ch.length = true := by simp [can, h2]; omega
        have h8 := hl8 j (by omega)
        have hcall := hih (by omega) (down_8 lf j (by omega) hl8 h2) (by simp; omega) (by omega) (by simp; omega) (by
          have e : (ch ++ [(j : Int)]).length + d = ch.length + (d + 1) := by simp; omega
          rw [e]; exact hbok)
        have hgo := hgo hyes
        simp only [awO_none, awO_some, List.length_append, List.length_singleton, hdl] at hcall
        (repeat (first | simp (maxSteps := 2000000) (disch := omega) only [go_sem, ↓reduceIte, Nat.reduceEqDiff, Nat.reduceAdd, Nat.reduceMul, Nat.reduceSub, Int.reduceToNat, Int.reduceAdd, Int.reduceSub, Int.reduceMul, Int.reduceNeg, h1, h2, hdn] | with_reducible refine vIf_t ?_ | with_reducible refine vIf_f ?_))
        (refine vCallX_keep [0, 4, 1, 48, 49, 5, 6, 91, 102] rfl ?_; (repeat (first | simp (maxSteps := 2000000) (disch := omega) only [go_sem, ↓reduceIte, Nat.reduceEqDiff, Nat.reduceAdd, Nat.reduceMul, Nat.reduceSub, Int.reduceToNat, Int.reduceAdd, Int.reduceSub, Int.reduceMul, Int.reduceNeg] | with_reducible refine vIf_t ?_ | with_reducible refine vIf_f ?_)))
      · (refine vCallX_m [0] [1, 2] ?_; (repeat (first | simp (maxSteps := 2000000) (disch := omega) only [go_sem, ↓reduceIte, Nat.reduceEqDiff, Nat.reduceAdd, Nat.reduceMul, Nat.reduceSub, Int.reduceToNat, Int.reduceAdd, Int.reduceSub, Int.reduceMul, Int.reduceNeg] | with_reducible refine vIf_t ?_ | with_reducible refine vIf_f ?_)); refine vCallM_ex (hcall) rfl rfl (by simp (disch := omega) only [go_sem, Nat.reduceAdd, Nat.reduceEqDiff]) (by simp (disch := omega) only [go_sem, Nat.reduceAdd, Nat.reduceEqDiff]) (by first | rfl | (simp (disch := omega) only [go_sem, Nat.reduceAdd, Nat.reduceEqDiff])) (by first | rfl | (simp (disch := omega) only [go_sem, Nat.reduceAdd, Nat.reduceEqDiff])) (by first | rfl | (simp (disch := omega) only [go_sem, Nat.reduceAdd, Nat.reduceEqDiff])) ?_); rintro _ _ ⟨rfl, g', _ | ⟨l1, c1⟩, hb1, rfl⟩ <;> (refine ⟨by first | (simp (disch := omega) only [go_sem, Nat.reduceAdd, Nat.reduceEqDiff]) | trivial, ?_⟩; (repeat (first | simp (maxSteps := 2000000) (disch := omega) only [go_sem, ↓reduceIte, Nat.reduceEqDiff, Nat.reduceAdd, Nat.reduceMul, Nat.reduceSub, Int.reduceToNat, Int.reduceAdd, Int.reduceSub, Int.reduceMul, Int.reduceNeg] | with_reducible refine vIf_t ?_ | with_reducible refine vIf_f ?_)))
        all_goals
          have hup := down_up lf j (by omega)
          have hgd : gi (down lf j) j = gi lf j - 1 := by unfold down; exact gi_set_same _ _ _ (by omega)
          (repeat (first | simp (maxSteps := 2000000) (disch := omega) only [go_sem, ↓reduceIte, Nat.reduceEqDiff, Nat.reduceAdd, Nat.reduceMul, Nat.reduceSub, Int.reduceToNat, Int.reduceAdd, Int.reduceSub, Int.reduceMul, Int.reduceNeg, hup, hdl] | with_reducible refine vIf_t ?_ | with_reducible refine vIf_f ?_))
          refine againF (j + 1, (j : Int) :: g', _) ⟨by omega, hgo _ hb1⟩ (by omega) (by (first | (refine leF_s ?_; ((repeat (first | simp (maxSteps := 2000000) (disch := omega) only [go_sem, ↓reduceIte, Nat.reduceEqDiff, Nat.reduceAdd, Nat.reduceMul, Nat.reduceSub, Int.reduceToNat, Int.reduceAdd, Int.reduceSub, Int.reduceMul, Int.reduceNeg] | with_reducible refine vIf_t ?_ | with_reducible refine vIf_f ?_)); all_goals (try simp); all_goals (try omega)); done) | (refine leF_p ?_; ((repeat (first | simp (maxSteps := 2000000) (disch := omega) only [go_sem, ↓reduceIte, Nat.reduceEqDiff, Nat.reduceAdd, Nat.reduceMul, Nat.reduceSub, Int.reduceToNat, Int.reduceAdd, Int.reduceSub, Int.reduceMul, Int.reduceNeg] | with_reducible refine vIf_t ?_ | with_reducible refine vIf_f ?_)); all_goals (try simp); all_goals (try omega)); done)))
      · (refine vCallX_m [0] [1, 2, 3] ?_; (repeat (first | simp (maxSteps := 2000000) (disch := omega) only [go_sem, ↓reduceIte, Nat.reduceEqDiff, Nat.reduceAdd, Nat.reduceMul, Nat.reduceSub, Int.reduceToNat, Int.reduceAdd, Int.reduceSub, Int.reduceMul, Int.reduceNeg] | with_reducible refine vIf_t ?_ | with_reducible refine vIf_f ?_)); refine vCallM_ex (hcall) rfl rfl (by simp (disch := omega) only [go_sem, Nat.reduceAdd, Nat.reduceEqDiff]) (by simp (disch := omega) only [go_sem, Nat.reduceAdd, Nat.reduceEqDiff]) (by first | rfl | (simp (disch := omega) only [go_sem, Nat.reduceAdd, Nat.reduceEqDiff])) (by first | rfl | (simp (disch := omega) only [go_sem, Nat.reduceAdd, Nat.reduceEqDiff])) (by first | rfl | (simp (disch := omega) only [go_sem, Nat.reduceAdd, Nat.reduceEqDiff])) ?_); rintro _ _ ⟨rfl, g', _ | ⟨l1, c1⟩, hb1, rfl⟩ <;> (refine ⟨by first | (simp (disch := omega) only [go_sem, Nat.reduceAdd, Nat.reduceEqDiff]) | trivial, ?_⟩; (repeat (first | simp (maxSteps := 2000000) (disch := omega) only [go_sem, ↓reduceIte, Nat.reduceEqDiff, Nat.reduceAdd, Nat.reduceMul, Nat.reduceSub, Int.reduceToNat, Int.reduceAdd, Int.reduceSub, Int.reduceMul, Int.reduceNeg] | with_reducible refine vIf_t ?_ | with_reducible refine vIf_f ?_)))
        all_goals
          have hup := down_up lf j (by omega)
          have hgd : gi (down lf j) j = gi lf j - 1 := by unfold down; exact gi_set_same _ _ _ (by omega)
          (repeat (first | simp (maxSteps := 2000000) (disch := omega) only [go_sem, ↓reduceIte, Nat.reduceEqDiff, Nat.reduceAdd, Nat.reduceMul, Nat.reduceSub, Int.reduceToNat, Int.reduceAdd, Int.reduceSub, Int.reduceMul, Int.reduceNeg, hup, hdl] | with_reducible refine vIf_t ?_ | with_reducible refine vIf_f ?_))
          refine againF (j + 1, (j : Int) :: g', _) ⟨by omega, hgo _ hb1⟩ (by omega) (by (first | (refine leF_s ?_; ((repeat (first | simp (maxSteps := 2000000) (disch := omega) only [go_sem, ↓reduceIte, Nat.reduceEqDiff, Nat.reduceAdd, Nat.reduceMul, Nat.reduceSub, Int.reduceToNat, Int.reduceAdd, Int.reduceSub, Int.reduceMul, Int.reduceNeg] | with_reducible refine vIf_t ?_ | with_reducible refine vIf_f ?_)); all_goals (try simp); all_goals (try omega)); done) | (refine leF_p ?_; ((repeat (first | simp (maxSteps := 2000000) (disch := omega) only [go_sem, ↓reduceIte, Nat.reduceEqDiff, Nat.reduceAdd, Nat.reduceMul, Nat.reduceSub, Int.reduceToNat, Int.reduceAdd, Int.reduceSub, Int.reduceMul, Int.reduceNeg] | with_reducible refine vIf_t ?_ | with_reducible refine vIf_f ?_)); all_goals (try simp); all_goals (try omega)); done)))

set_option maxRecDepth 100000 in
set_option maxHeartbeats 8000000 in
theorem cheapest_ok (t : Td) (hm : t.most.length ≤ 10000000) (hb : t.bids.length ≤ 10000000) : ACalls Try.prog 10 [.agg (tC t)] [] (fun r o => r = .tup [.ref 0 0 (caR t).length, I (caC t)] ∧ o = [oI (caR t)]) := by
  refine ACalls.of_vc Try.func10 rfl (by decide) 28 rfl [.tmp 2, .tmp 3] rfl (by simp) ?_
  have hv := validT_ok t hm hb
  have hcl := clone_ok t.most hm
  unfold iS at hcl
  unfold tC at hv ⊢
  (repeat (first | simp (maxSteps := 2000000) (disch := omega) only [go_sem, ↓reduceIte, Nat.reduceEqDiff, Nat.reduceAdd, Nat.reduceMul, Nat.reduceSub, Int.reduceToNat, Int.reduceAdd, Int.reduceSub, Int.reduceMul, Int.reduceNeg] | with_reducible refine vIf_t ?_ | with_reducible refine vIf_f ?_))
  (refine vCallX_of ?_; (repeat (first | simp (maxSteps := 2000000) (disch := omega) only [go_sem, ↓reduceIte, Nat.reduceEqDiff, Nat.reduceAdd, Nat.reduceMul, Nat.reduceSub, Int.reduceToNat, Int.reduceAdd, Int.reduceSub, Int.reduceMul, Int.reduceNeg] | with_reducible refine vIf_t ?_ | with_reducible refine vIf_f ?_)); refine vCall_eq (hv) (by simp (disch := omega) only [go_sem, Nat.reduceAdd]) rfl (by first | exact Or.inl rfl | exact Or.inr ⟨rfl, rfl⟩ | (apply Or.inr; simp only [go_sem])) ?_; (repeat (first | simp (maxSteps := 2000000) (disch := omega) only [go_sem, ↓reduceIte, Nat.reduceEqDiff, Nat.reduceAdd, Nat.reduceMul, Nat.reduceSub, Int.reduceToNat, Int.reduceAdd, Int.reduceSub, Int.reduceMul, Int.reduceNeg] | with_reducible refine vIf_t ?_ | with_reducible refine vIf_f ?_)))
  refine vIf_not (fun h1 => ?_) (fun h1 => ?_)
  · (repeat (first | simp (maxSteps := 2000000) (disch := omega) only [go_sem, ↓reduceIte, Nat.reduceEqDiff, Nat.reduceAdd, Nat.reduceMul, Nat.reduceSub, Int.reduceToNat, Int.reduceAdd, Int.reduceSub, Int.reduceMul, Int.reduceNeg] | with_reducible refine vIf_t ?_ | with_reducible refine vIf_f ?_))
    (refine retK_of ?_; (repeat (first | simp (maxSteps := 2000000) (disch := omega) only [go_sem, ↓reduceIte, Nat.reduceEqDiff, Nat.reduceAdd, Nat.reduceMul, Nat.reduceSub, Int.reduceToNat, Int.reduceAdd, Int.reduceSub, Int.reduceMul, Int.reduceNeg] | with_reducible refine vIf_t ?_ | with_reducible refine vIf_f ?_)))
    rw [(caC_1 h1).1, (caC_1 h1).2]
    simp [oI, ints]
  have htb := okT_t h1
  (repeat (first | simp (maxSteps := 2000000) (disch := omega) only [go_sem, ↓reduceIte, Nat.reduceEqDiff, Nat.reduceAdd, Nat.reduceMul, Nat.reduceSub, Int.reduceToNat, Int.reduceAdd, Int.reduceSub, Int.reduceMul, Int.reduceNeg] | with_reducible refine vIf_t ?_ | with_reducible refine vIf_f ?_))
  (refine vDraw_tr 5 (.rd 0 (.rd 1 (.rd 2 (.alt 3 (.alt 4 (.done) (.stop)) (.alt 4 (.alt 3 (.done) (.stop)) (.stop)))))) (fun _ : Unit => True) (fun _ => ⟨28, 0, [(12, .ref 0 0 t.most.length), (13, .ref 1 0 0), (9, .agg [I t.lots, .sl t.most.length (ints t.most), .sl t.bids.length (cBd t.bids)])], [oI t.most, oI []]⟩) mixed (by kernel_rfl) ?_ ?_)
  · (repeat (first | simp (maxSteps := 2000000) (disch := omega) only [go_sem, ↓reduceIte, Nat.reduceEqDiff, Nat.reduceAdd, Nat.reduceMul, Nat.reduceSub, Int.reduceToNat, Int.reduceAdd, Int.reduceSub, Int.reduceMul, Int.reduceNeg] | with_reducible refine vIf_t ?_ | with_reducible refine vIf_f ?_))
    repeat' (first | refine And.intro ?_ ?_ | (refine vsCallX_of ?_; (try (repeat (first | simp (maxSteps := 2000000) (disch := omega) only [go_sem, ↓reduceIte, Nat.reduceEqDiff, Nat.reduceAdd, Nat.reduceMul, Nat.reduceSub, Int.reduceToNat, Int.reduceAdd, Int.reduceSub, Int.reduceMul, Int.reduceNeg] | with_reducible refine vIf_t ?_ | with_reducible refine vIf_f ?_))); refine vCall_eq (hcl) (by simp (disch := omega) only [go_sem, Nat.reduceAdd]) rfl (by first | exact Or.inl rfl | exact Or.inr ⟨rfl, rfl⟩ | (apply Or.inr; simp only [go_sem])) ?_; (try (repeat (first | simp (maxSteps := 2000000) (disch := omega) only [go_sem, ↓reduceIte, Nat.reduceEqDiff, Nat.reduceAdd, Nat.reduceMul, Nat.reduceSub, Int.reduceToNat, Int.reduceAdd, Int.reduceSub, Int.reduceMul, Int.reduceNeg] | with_reducible refine vIf_t ?_ | with_reducible refine vIf_f ?_)))) | (refine ⟨(), _, Frz.refl _, Or.inr ?_⟩; (repeat (first | simp (maxSteps := 2000000) (disch := omega) only [go_sem, ↓reduceIte, Nat.reduceEqDiff, Nat.reduceAdd, Nat.reduceMul, Nat.reduceSub, Int.reduceToNat, Int.reduceAdd, Int.reduceSub, Int.reduceMul, Int.reduceNeg] | with_reducible refine vIf_t ?_ | with_reducible refine vIf_f ?_))))
  intro _ _
  simp only [List.drop_succ_cons, List.drop_zero, List.drop_nil]
  have hnx := next_ok h1 hm hb t.lots.toNat t.most [] [] 0 none rfl htb.2.2 (by simp; omega) (by omega) (by omega) trivial
  simp only [awO_none, List.length_nil, List.nil_append] at hnx
  rw [show oI [] = some ⟨1, []⟩ from rfl] at hnx
  (repeat (first | simp (maxSteps := 2000000) (disch := omega) only [go_sem, ↓reduceIte, Nat.reduceEqDiff, Nat.reduceAdd, Nat.reduceMul, Nat.reduceSub, Int.reduceToNat, Int.reduceAdd, Int.reduceSub, Int.reduceMul, Int.reduceNeg] | with_reducible refine vIf_t ?_ | with_reducible refine vIf_f ?_))
  (refine vCallX_keep [4, 16] rfl ?_; (repeat (first | simp (maxSteps := 2000000) (disch := omega) only [go_sem, ↓reduceIte, Nat.reduceEqDiff, Nat.reduceAdd, Nat.reduceMul, Nat.reduceSub, Int.reduceToNat, Int.reduceAdd, Int.reduceSub, Int.reduceMul, Int.reduceNeg] | with_reducible refine vIf_t ?_ | with_reducible refine vIf_f ?_)))
  (refine vCallX_m [2] [0, 1] ?_; (repeat (first | simp (maxSteps := 2000000) (disch := omega) only [go_sem, ↓reduceIte, Nat.reduceEqDiff, Nat.reduceAdd, Nat.reduceMul, Nat.reduceSub, Int.reduceToNat, Int.reduceAdd, Int.reduceSub, Int.reduceMul, Int.reduceNeg] | with_reducible refine vIf_t ?_ | with_reducible refine vIf_f ?_)); refine vCallM_ex (hnx) rfl rfl (by simp (disch := omega) only [go_sem, Nat.reduceAdd, Nat.reduceEqDiff]) (by simp (disch := omega) only [go_sem, Nat.reduceAdd, Nat.reduceEqDiff]) (by first | rfl | (simp (disch := omega) only [go_sem, Nat.reduceAdd, Nat.reduceEqDiff])) (by first | rfl | (simp (disch := omega) only [go_sem, Nat.reduceAdd, Nat.reduceEqDiff])) (by first | rfl | (simp (disch := omega) only [go_sem, Nat.reduceAdd, Nat.reduceEqDiff])) ?_); rintro _ _ ⟨rfl, g', _ | ⟨l1, c1⟩, hb1, rfl⟩ <;> (refine ⟨by first | (simp (disch := omega) only [go_sem, Nat.reduceAdd, Nat.reduceEqDiff]) | trivial, ?_⟩; (repeat (first | simp (maxSteps := 2000000) (disch := omega) only [go_sem, ↓reduceIte, Nat.reduceEqDiff, Nat.reduceAdd, Nat.reduceMul, Nat.reduceSub, Int.reduceToNat, Int.reduceAdd, Int.reduceSub, Int.reduceMul, Int.reduceNeg] | with_reducible refine vIf_t ?_ | with_reducible refine vIf_f ?_)))
  · have hb1 : caB t = none := hb1.symm
    (refine retK_of ?_; (repeat (first | simp (maxSteps := 2000000) (disch := omega) only [go_sem, ↓reduceIte, Nat.reduceEqDiff, Nat.reduceAdd, Nat.reduceMul, Nat.reduceSub, Int.reduceToNat, Int.reduceAdd, Int.reduceSub, Int.reduceMul, Int.reduceNeg] | with_reducible refine vIf_t ?_ | with_reducible refine vIf_f ?_)))
    rw [(caC_3 h1 hb1).1, (caC_3 h1 hb1).2]
    exact ⟨rfl, rfl⟩
  · have hb1 : caB t = some (l1, c1) := hb1.symm
    (repeat (first | simp (maxSteps := 2000000) (disch := omega) only [go_sem, ↓reduceIte, Nat.reduceEqDiff, Nat.reduceAdd, Nat.reduceMul, Nat.reduceSub, Int.reduceToNat, Int.reduceAdd, Int.reduceSub, Int.reduceMul, Int.reduceNeg] | with_reducible refine vIf_t ?_ | with_reducible refine vIf_f ?_))
    (refine retK_of ?_; (repeat (first | simp (maxSteps := 2000000) (disch := omega) only [go_sem, ↓reduceIte, Nat.reduceEqDiff, Nat.reduceAdd, Nat.reduceMul, Nat.reduceSub, Int.reduceToNat, Int.reduceAdd, Int.reduceSub, Int.reduceMul, Int.reduceNeg] | with_reducible refine vIf_t ?_ | with_reducible refine vIf_f ?_)))
    rw [(caC_0 h1 hb1).1, (caC_0 h1 hb1).2]
    exact ⟨rfl, rfl⟩
end Go.Proofs.Ythgdbhmdcokbdaa

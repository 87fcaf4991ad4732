/- rain's texts; the law of rain -/
import Derived.Test.YtnphbdcdncmojaaDoorRain1
import Derived.Test.YtnphbdcdncmojaaDoorA2
set_option linter.unusedVariables false
set_option linter.unusedSimpArgs false
namespace Go.Proofs.YtnphbdcdncmojaaDoor
open Go.AG Go.Lib

attribute [local go_sem] beq_self_eq_true bne_self_eq_false Bool.not_true
def rainT (n : Int) : List UInt8 := txN [([], n / 10), ([46], n % 10)] [109, 109]
theorem rainText_ok (n : Int) (h : 0 ≤ n ∧ n ≤ 3000) : ACalls Tryd.prog 25 [I n] [] (fun r o => r = St (tx (rainT n)) ∧ o = []) := by
  refine ACalls.of_vc Tryd.func25 rfl (by decide) 15 rfl [.tmp 2] rfl (by simp) ?_
  have h1 := isRain_ok n
  rw [decide_eq_true h] at h1
  have e1 : n.tdiv 10 = n / 10 := Int.tdiv_eq_ediv_of_nonneg h.1
  have e2 : n.tmod 10 = n % 10 := Int.tmod_eq_emod_of_nonneg h.1
  have d1 := decimal_ok (n / 10) (by omega)
  have d2 := decimal_ok (n % 10) (by omega)
  have l1 := itoa_len (n / 10) (by unfold nOk; omega)
  have l2 := itoa_len (n % 10) (by unfold nOk; omega)
  (repeat (first | simp (maxSteps := 2000000) (disch := omega) only [go_sem, Nat.reduceEqDiff, Nat.reduceAdd, Nat.reduceMul, Nat.reduceSub, Int.reduceToNat, Int.reduceAdd, Int.reduceSub, Int.reduceMul, Int.reduceNeg] | refine vIf_t ?_ | refine vIf_f ?_))
  (refine vCallX_of ?_; (repeat (first | simp (maxSteps := 2000000) (disch := omega) only [go_sem, Nat.reduceEqDiff, Nat.reduceAdd, Nat.reduceMul, Nat.reduceSub, Int.reduceToNat, Int.reduceAdd, Int.reduceSub, Int.reduceMul, Int.reduceNeg] | refine vIf_t ?_ | refine vIf_f ?_)); refine vCall_eq (h1) (by simp (disch := omega) only [go_sem, Nat.reduceAdd]) rfl (by first | exact Or.inl rfl | exact Or.inr ⟨rfl, rfl⟩ | (apply Or.inr; simp only [go_sem])) ?_; (repeat (first | simp (maxSteps := 2000000) (disch := omega) only [go_sem, Nat.reduceEqDiff, Nat.reduceAdd, Nat.reduceMul, Nat.reduceSub, Int.reduceToNat, Int.reduceAdd, Int.reduceSub, Int.reduceMul, Int.reduceNeg] | refine vIf_t ?_ | refine vIf_f ?_)))
  (try (repeat (first | simp (maxSteps := 2000000) (disch := omega) only [go_sem, Nat.reduceEqDiff, Nat.reduceAdd, Nat.reduceMul, Nat.reduceSub, Int.reduceToNat, Int.reduceAdd, Int.reduceSub, Int.reduceMul, Int.reduceNeg, e1] | refine vIf_t ?_ | refine vIf_f ?_)))
  (refine vCallX_of ?_; (repeat (first | simp (maxSteps := 2000000) (disch := omega) only [go_sem, Nat.reduceEqDiff, Nat.reduceAdd, Nat.reduceMul, Nat.reduceSub, Int.reduceToNat, Int.reduceAdd, Int.reduceSub, Int.reduceMul, Int.reduceNeg] | refine vIf_t ?_ | refine vIf_f ?_)); refine vCall_eq (d1) (by simp (disch := omega) only [go_sem, Nat.reduceAdd]) rfl (by first | exact Or.inl rfl | exact Or.inr ⟨rfl, rfl⟩ | (apply Or.inr; simp only [go_sem])) ?_; (repeat (first | simp (maxSteps := 2000000) (disch := omega) only [go_sem, Nat.reduceEqDiff, Nat.reduceAdd, Nat.reduceMul, Nat.reduceSub, Int.reduceToNat, Int.reduceAdd, Int.reduceSub, Int.reduceMul, Int.reduceNeg] | refine vIf_t ?_ | refine vIf_f ?_)))
  (try (repeat (first | simp (maxSteps := 2000000) (disch := omega) only [go_sem, Nat.reduceEqDiff, Nat.reduceAdd, Nat.reduceMul, Nat.reduceSub, Int.reduceToNat, Int.reduceAdd, Int.reduceSub, Int.reduceMul, Int.reduceNeg, e2] | refine vIf_t ?_ | refine vIf_f ?_)))
  (refine vCallX_of ?_; (repeat (first | simp (maxSteps := 2000000) (disch := omega) only [go_sem, Nat.reduceEqDiff, Nat.reduceAdd, Nat.reduceMul, Nat.reduceSub, Int.reduceToNat, Int.reduceAdd, Int.reduceSub, Int.reduceMul, Int.reduceNeg] | refine vIf_t ?_ | refine vIf_f ?_)); refine vCall_eq (d2) (by simp (disch := omega) only [go_sem, Nat.reduceAdd]) rfl (by first | exact Or.inl rfl | exact Or.inr ⟨rfl, rfl⟩ | (apply Or.inr; simp only [go_sem])) ?_; (repeat (first | simp (maxSteps := 2000000) (disch := omega) only [go_sem, Nat.reduceEqDiff, Nat.reduceAdd, Nat.reduceMul, Nat.reduceSub, Int.reduceToNat, Int.reduceAdd, Int.reduceSub, Int.reduceMul, Int.reduceNeg] | refine vIf_t ?_ | refine vIf_f ?_)))
  (refine retK_of ?_; (repeat (first | simp (maxSteps := 2000000) (disch := omega) only [go_sem, Nat.reduceEqDiff, Nat.reduceAdd, Nat.reduceMul, Nat.reduceSub, Int.reduceToNat, Int.reduceAdd, Int.reduceSub, Int.reduceMul, Int.reduceNeg] | refine vIf_t ?_ | refine vIf_f ?_)))
  exact St_txN (by simp [rainT, txN])
theorem readRain_ok (n : Int) (h : 0 ≤ n ∧ n ≤ 3000) : ACalls Tryd.prog 24 [St (tx (rainT n))] [] (fun r o => r = .tup [I n, B true] ∧ o = []) := by
  refine ACalls.of_vc Tryd.func24 rfl (by decide) 45 rfl [.tmp 2, .tmp 3] rfl (by simp) ?_
  have o1 : nOk (n / 10) := by unfold nOk; omega
  have o2 : nOk (n % 10) := by unfold nOk; omega
  have hl := len_txN [([], n / 10), ([46], n % 10)] [109, 109] 1 (by simp [o1, o2])
  have hnum := numbersIn_ok (rainT n) [n / 10, n % 10] (asc_txN _ _ rfl rfl) (by unfold rainT; simp at hl; omega) (flG_txN _ _ rfl rfl rfl) (by simp [o1, o2]) (by simp)
  have h1 := isRain_ok (n / 10)
  rw [decide_eq_true (by omega)] at h1
  have h2 := in_ok (n % 10) 0 9
  rw [decide_eq_true (by omega)] at h2
  have h3 := rainText_ok n h
  have g0 : gi [n / 10, n % 10] 0 = n / 10 := rfl
  have g1 : gi [n / 10, n % 10] 1 = n % 10 := rfl
  have e : 10 * (n / 10) + n % 10 = n := by omega
  (repeat (first | simp (maxSteps := 2000000) (disch := omega) only [go_sem, Nat.reduceEqDiff, Nat.reduceAdd, Nat.reduceMul, Nat.reduceSub, Int.reduceToNat, Int.reduceAdd, Int.reduceSub, Int.reduceMul, Int.reduceNeg] | refine vIf_t ?_ | refine vIf_f ?_))
  (refine vCallX_of ?_; (repeat (first | simp (maxSteps := 2000000) (disch := omega) only [go_sem, Nat.reduceEqDiff, Nat.reduceAdd, Nat.reduceMul, Nat.reduceSub, Int.reduceToNat, Int.reduceAdd, Int.reduceSub, Int.reduceMul, Int.reduceNeg] | refine vIf_t ?_ | refine vIf_f ?_)); refine vCall_eq (hnum) (by simp (disch := omega) only [go_sem, Nat.reduceAdd]) rfl (by first | exact Or.inl rfl | exact Or.inr ⟨rfl, rfl⟩ | (apply Or.inr; simp only [go_sem])) ?_; (repeat (first | simp (maxSteps := 2000000) (disch := omega) only [go_sem, Nat.reduceEqDiff, Nat.reduceAdd, Nat.reduceMul, Nat.reduceSub, Int.reduceToNat, Int.reduceAdd, Int.reduceSub, Int.reduceMul, Int.reduceNeg] | refine vIf_t ?_ | refine vIf_f ?_)))
  (refine vDraw_sch 28 ([(0, false), (1, false), (2, false), (3, false), (4, false), (5, false), (6, false), (7, false), (8, false), (9, false), (10, false), (11, false), (12, false), (13, false), (14, false), (15, false), (16, false), (17, false), (18, false), (19, false)] ++ [(20, false), (21, false), (22, false), (23, false), (24, false), (25, false), (27, false), (26, false)]) mixed (by kernel_rfl) ?_; simp only [List.cons_append, List.nil_append, List.map_cons, List.map_nil, nthO_zero, nthO_succ, List.drop_succ_cons, List.drop_zero, List.drop_nil]; (repeat (first | simp (maxSteps := 2000000) (disch := omega) only [go_sem, Nat.reduceEqDiff, Nat.reduceAdd, Nat.reduceMul, Nat.reduceSub, Int.reduceToNat, Int.reduceAdd, Int.reduceSub, Int.reduceMul, Int.reduceNeg] | refine vIf_t ?_ | refine vIf_f ?_)))
  (try (repeat (first | simp (maxSteps := 2000000) (disch := omega) only [go_sem, Nat.reduceEqDiff, Nat.reduceAdd, Nat.reduceMul, Nat.reduceSub, Int.reduceToNat, Int.reduceAdd, Int.reduceSub, Int.reduceMul, Int.reduceNeg, g0] | refine vIf_t ?_ | refine vIf_f ?_)))
  (refine vsCallX_of ?_; (try (repeat (first | simp (maxSteps := 2000000) (disch := omega) only [go_sem, Nat.reduceEqDiff, Nat.reduceAdd, Nat.reduceMul, Nat.reduceSub, Int.reduceToNat, Int.reduceAdd, Int.reduceSub, Int.reduceMul, Int.reduceNeg] | refine vIf_t ?_ | refine vIf_f ?_))); refine vCall_eq (h1) (by simp (disch := omega) only [go_sem, Nat.reduceAdd]) rfl (by first | exact Or.inl rfl | exact Or.inr ⟨rfl, rfl⟩ | (apply Or.inr; simp only [go_sem])) ?_; (try (repeat (first | simp (maxSteps := 2000000) (disch := omega) only [go_sem, Nat.reduceEqDiff, Nat.reduceAdd, Nat.reduceMul, Nat.reduceSub, Int.reduceToNat, Int.reduceAdd, Int.reduceSub, Int.reduceMul, Int.reduceNeg] | refine vIf_t ?_ | refine vIf_f ?_))))
  (try (repeat (first | simp (maxSteps := 2000000) (disch := omega) only [go_sem, Nat.reduceEqDiff, Nat.reduceAdd, Nat.reduceMul, Nat.reduceSub, Int.reduceToNat, Int.reduceAdd, Int.reduceSub, Int.reduceMul, Int.reduceNeg, g1] | refine vIf_t ?_ | refine vIf_f ?_)))
  (refine vsCallX_of ?_; (try (repeat (first | simp (maxSteps := 2000000) (disch := omega) only [go_sem, Nat.reduceEqDiff, Nat.reduceAdd, Nat.reduceMul, Nat.reduceSub, Int.reduceToNat, Int.reduceAdd, Int.reduceSub, Int.reduceMul, Int.reduceNeg] | refine vIf_t ?_ | refine vIf_f ?_))); refine vCall_eq (h2) (by simp (disch := omega) only [go_sem, Nat.reduceAdd]) rfl (by first | exact Or.inl rfl | exact Or.inr ⟨rfl, rfl⟩ | (apply Or.inr; simp only [go_sem])) ?_; (try (repeat (first | simp (maxSteps := 2000000) (disch := omega) only [go_sem, Nat.reduceEqDiff, Nat.reduceAdd, Nat.reduceMul, Nat.reduceSub, Int.reduceToNat, Int.reduceAdd, Int.reduceSub, Int.reduceMul, Int.reduceNeg] | refine vIf_t ?_ | refine vIf_f ?_))))
  (try (repeat (first | simp (maxSteps := 2000000) (disch := omega) only [go_sem, Nat.reduceEqDiff, Nat.reduceAdd, Nat.reduceMul, Nat.reduceSub, Int.reduceToNat, Int.reduceAdd, Int.reduceSub, Int.reduceMul, Int.reduceNeg, g0, g1] | refine vIf_t ?_ | refine vIf_f ?_)))
  (try (repeat (first | simp (maxSteps := 2000000) (disch := omega) only [go_sem, Nat.reduceEqDiff, Nat.reduceAdd, Nat.reduceMul, Nat.reduceSub, Int.reduceToNat, Int.reduceAdd, Int.reduceSub, Int.reduceMul, Int.reduceNeg, e] | refine vIf_t ?_ | refine vIf_f ?_)))
  (refine vsCallX_of ?_; (try (repeat (first | simp (maxSteps := 2000000) (disch := omega) only [go_sem, Nat.reduceEqDiff, Nat.reduceAdd, Nat.reduceMul, Nat.reduceSub, Int.reduceToNat, Int.reduceAdd, Int.reduceSub, Int.reduceMul, Int.reduceNeg] | refine vIf_t ?_ | refine vIf_f ?_))); refine vCall_eq (h3) (by simp (disch := omega) only [go_sem, Nat.reduceAdd]) rfl (by first | exact Or.inl rfl | exact Or.inr ⟨rfl, rfl⟩ | (apply Or.inr; simp only [go_sem])) ?_; (try (repeat (first | simp (maxSteps := 2000000) (disch := omega) only [go_sem, Nat.reduceEqDiff, Nat.reduceAdd, Nat.reduceMul, Nat.reduceSub, Int.reduceToNat, Int.reduceAdd, Int.reduceSub, Int.reduceMul, Int.reduceNeg] | refine vIf_t ?_ | refine vIf_f ?_))))
  (try (repeat (first | simp (maxSteps := 2000000) (disch := omega) only [go_sem, Nat.reduceEqDiff, Nat.reduceAdd, Nat.reduceMul, Nat.reduceSub, Int.reduceToNat, Int.reduceAdd, Int.reduceSub, Int.reduceMul, Int.reduceNeg] | refine vIf_t ?_ | refine vIf_f ?_)))
  (refine vDraw_tail 7 mixed (by kernel_rfl) ?_; simp only [List.take_succ_cons, List.take_zero, List.drop_succ_cons, List.drop_zero]; (repeat (first | simp (maxSteps := 2000000) (disch := omega) only [go_sem, Nat.reduceEqDiff, Nat.reduceAdd, Nat.reduceMul, Nat.reduceSub, Int.reduceToNat, Int.reduceAdd, Int.reduceSub, Int.reduceMul, Int.reduceNeg] | refine vIf_t ?_ | refine vIf_f ?_)))
  (try (repeat (first | simp (maxSteps := 2000000) (disch := omega) only [go_sem, Nat.reduceEqDiff, Nat.reduceAdd, Nat.reduceMul, Nat.reduceSub, Int.reduceToNat, Int.reduceAdd, Int.reduceSub, Int.reduceMul, Int.reduceNeg, g0, g1] | refine vIf_t ?_ | refine vIf_f ?_)))
  (try (repeat (first | simp (maxSteps := 2000000) (disch := omega) only [go_sem, Nat.reduceEqDiff, Nat.reduceAdd, Nat.reduceMul, Nat.reduceSub, Int.reduceToNat, Int.reduceAdd, Int.reduceSub, Int.reduceMul, Int.reduceNeg, e] | refine vIf_t ?_ | refine vIf_f ?_)))
  (refine retK_of ?_; (repeat (first | simp (maxSteps := 2000000) (disch := omega) only [go_sem, Nat.reduceEqDiff, Nat.reduceAdd, Nat.reduceMul, Nat.reduceSub, Int.reduceToNat, Int.reduceAdd, Int.reduceSub, Int.reduceMul, Int.reduceNeg] | refine vIf_t ?_ | refine vIf_f ?_)))
theorem a2Sum_ok (xs : List Int) (hl : xs.length ≤ 10000000) : ACalls Tryd.prog 23 [.sl xs.length (ints xs)] [] (fun r o => r = I (wsum xs) ∧ o = []) := by
  refine ACalls.of_vc Tryd.func23 rfl (by decide) 18 rfl [.tmp 2] rfl (by simp) ?_
  (repeat (first | simp (maxSteps := 2000000) (disch := omega) only [go_sem, Nat.reduceEqDiff, Nat.reduceAdd, Nat.reduceMul, Nat.reduceSub, Int.reduceToNat, Int.reduceAdd, Int.reduceSub, Int.reduceMul, Int.reduceNeg] | refine vIf_t ?_ | refine vIf_f ?_))
  refine vcLoop_inv (fun k : Nat => k ≤ xs.length) (fun k => ⟨18, 0, [(4, I k), (0, .sl xs.length (ints xs)), (3, I (wsum (xs.take k)))], []⟩) (fun k => xs.length - k) 0 (by omega) (by (repeat (first | simp (maxSteps := 2000000) (disch := omega) only [go_sem, Nat.reduceEqDiff, Nat.reduceAdd, Nat.reduceMul, Nat.reduceSub, Int.reduceToNat, Int.reduceAdd, Int.reduceSub, Int.reduceMul, Int.reduceNeg] | refine vIf_t ?_ | refine vIf_f ?_)); simp [wsum_nil]) ?_
  intro k hk
  (repeat (first | simp (maxSteps := 2000000) (disch := omega) only [go_sem, Nat.reduceEqDiff, Nat.reduceAdd, Nat.reduceMul, Nat.reduceSub, Int.reduceToNat, Int.reduceAdd, Int.reduceSub, Int.reduceMul, Int.reduceNeg] | refine vIf_t ?_ | refine vIf_f ?_))
  refine vIf_dec (fun hc => ?_) (fun hc => ?_)
  · have e := wsum_snoc (xs.take k) (gi xs k)
    rw [← take_succ_gi xs k (by omega)] at e
    (repeat (first | simp (maxSteps := 2000000) (disch := omega) only [go_sem, Nat.reduceEqDiff, Nat.reduceAdd, Nat.reduceMul, Nat.reduceSub, Int.reduceToNat, Int.reduceAdd, Int.reduceSub, Int.reduceMul, Int.reduceNeg] | refine vIf_t ?_ | refine vIf_f ?_))
    refine again (k + 1) (by omega) (by omega) ?_
    rw [e]
    ((repeat (first | simp (maxSteps := 2000000) (disch := omega) only [go_sem, Nat.reduceEqDiff, Nat.reduceAdd, Nat.reduceMul, Nat.reduceSub, Int.reduceToNat, Int.reduceAdd, Int.reduceSub, Int.reduceMul, Int.reduceNeg] | refine vIf_t ?_ | refine vIf_f ?_)); all_goals (try simp); all_goals (try omega))
  · (repeat (first | simp (maxSteps := 2000000) (disch := omega) only [go_sem, Nat.reduceEqDiff, Nat.reduceAdd, Nat.reduceMul, Nat.reduceSub, Int.reduceToNat, Int.reduceAdd, Int.reduceSub, Int.reduceMul, Int.reduceNeg] | refine vIf_t ?_ | refine vIf_f ?_))
    (refine retK_of ?_; (repeat (first | simp (maxSteps := 2000000) (disch := omega) only [go_sem, Nat.reduceEqDiff, Nat.reduceAdd, Nat.reduceMul, Nat.reduceSub, Int.reduceToNat, Int.reduceAdd, Int.reduceSub, Int.reduceMul, Int.reduceNeg] | refine vIf_t ?_ | refine vIf_f ?_)))
    rw [List.take_of_length_le (by omega)]
set_option maxRecDepth 100000 in
set_option maxHeartbeats 32000000 in
theorem rainLaw_ok (code more : List Int) (hb : bOk code) (hl : code.length ≤ 9223372036854775807) (hb' : bOk more) (hl' : more.length ≤ 9223372036854775807) : ACalls Tryd.prog 4 [bS code, bS more] [] (fun r o => r = B true ∧ o = []) := by
  refine ACalls.of_vc Tryd.func4 rfl (by decide) 154 rfl [.tmp 4] rfl (by simp) ?_
  have hlong := a2Long_ok code more hl hl'
  unfold bS at hlong ⊢
  (repeat (first | simp (maxSteps := 2000000) (disch := omega) only [go_sem, Nat.reduceEqDiff, Nat.reduceAdd, Nat.reduceMul, Nat.reduceSub, Int.reduceToNat, Int.reduceAdd, Int.reduceSub, Int.reduceMul, Int.reduceNeg] | refine vIf_t ?_ | refine vIf_f ?_))
  (refine vCallX_of ?_; (repeat (first | simp (maxSteps := 2000000) (disch := omega) only [go_sem, Nat.reduceEqDiff, Nat.reduceAdd, Nat.reduceMul, Nat.reduceSub, Int.reduceToNat, Int.reduceAdd, Int.reduceSub, Int.reduceMul, Int.reduceNeg] | refine vIf_t ?_ | refine vIf_f ?_)); refine vCall_eq (hlong) (by simp (disch := omega) only [go_sem, Nat.reduceAdd]) rfl (by first | exact Or.inl rfl | exact Or.inr ⟨rfl, rfl⟩ | (apply Or.inr; simp only [go_sem])) ?_; (repeat (first | simp (maxSteps := 2000000) (disch := omega) only [go_sem, Nat.reduceEqDiff, Nat.reduceAdd, Nat.reduceMul, Nat.reduceSub, Int.reduceToNat, Int.reduceAdd, Int.reduceSub, Int.reduceMul, Int.reduceNeg] | refine vIf_t ?_ | refine vIf_f ?_)))
  cases hlg : (decide (3000 < (code.length : Int)) || decide (3000 < (more.length : Int))) with
  | true =>
    refine vIf_t ?_
    (repeat (first | simp (maxSteps := 2000000) (disch := omega) only [go_sem, Nat.reduceEqDiff, Nat.reduceAdd, Nat.reduceMul, Nat.reduceSub, Int.reduceToNat, Int.reduceAdd, Int.reduceSub, Int.reduceMul, Int.reduceNeg] | refine vIf_t ?_ | refine vIf_f ?_))
    (refine retK_of ?_; (repeat (first | simp (maxSteps := 2000000) (disch := omega) only [go_sem, Nat.reduceEqDiff, Nat.reduceAdd, Nat.reduceMul, Nat.reduceSub, Int.reduceToNat, Int.reduceAdd, Int.reduceSub, Int.reduceMul, Int.reduceNeg] | refine vIf_t ?_ | refine vIf_f ?_)))
  | false =>
    refine vIf_f ?_
    simp only [Bool.or_eq_false_iff, decide_eq_false_iff_not] at hlg
    have g : SrOk code := ⟨hb, by omega⟩
    have d1 := a2Rain_e g
    unfold bS at d1
    (repeat (first | simp (maxSteps := 2000000) (disch := omega) only [go_sem, Nat.reduceEqDiff, Nat.reduceAdd, Nat.reduceMul, Nat.reduceSub, Int.reduceToNat, Int.reduceAdd, Int.reduceSub, Int.reduceMul, Int.reduceNeg] | refine vIf_t ?_ | refine vIf_f ?_))
    (refine vCallX_of ?_; (repeat (first | simp (maxSteps := 2000000) (disch := omega) only [go_sem, Nat.reduceEqDiff, Nat.reduceAdd, Nat.reduceMul, Nat.reduceSub, Int.reduceToNat, Int.reduceAdd, Int.reduceSub, Int.reduceMul, Int.reduceNeg] | refine vIf_t ?_ | refine vIf_f ?_)); refine vCall_ex (d1) (by simp (disch := omega) only [go_sem, Nat.reduceAdd]) rfl ?_); rintro _ _ ⟨xs, rfl, rfl, hn, hx⟩; (refine ⟨(by first | exact Or.inl rfl | exact Or.inr ⟨rfl, rfl⟩ | (apply Or.inr; simp only [go_sem])), ?_⟩; (repeat (first | simp (maxSteps := 2000000) (disch := omega) only [go_sem, Nat.reduceEqDiff, Nat.reduceAdd, Nat.reduceMul, Nat.reduceSub, Int.reduceToNat, Int.reduceAdd, Int.reduceSub, Int.reduceMul, Int.reduceNeg] | refine vIf_t ?_ | refine vIf_f ?_)))
    have X : RnX xs := ⟨hn.1, hn.2, hx⟩
    have d2 := a2At_e more 0 xs.length hb' (by omega) (by omega) (by omega)
    unfold bS at d2
    (refine vCallX_fz 0 _ rfl (by (repeat (first | simp (maxSteps := 2000000) (disch := omega) only [go_sem, Nat.reduceEqDiff, Nat.reduceAdd, Nat.reduceMul, Nat.reduceSub, Int.reduceToNat, Int.reduceAdd, Int.reduceSub, Int.reduceMul, Int.reduceNeg] | refine vIf_t ?_ | refine vIf_f ?_))) ?_; (repeat (first | simp (maxSteps := 2000000) (disch := omega) only [go_sem, Nat.reduceEqDiff, Nat.reduceAdd, Nat.reduceMul, Nat.reduceSub, Int.reduceToNat, Int.reduceAdd, Int.reduceSub, Int.reduceMul, Int.reduceNeg] | refine vIf_t ?_ | refine vIf_f ?_)))
    (refine vCallX_of ?_; (repeat (first | simp (maxSteps := 2000000) (disch := omega) only [go_sem, Nat.reduceEqDiff, Nat.reduceAdd, Nat.reduceMul, Nat.reduceSub, Int.reduceToNat, Int.reduceAdd, Int.reduceSub, Int.reduceMul, Int.reduceNeg] | refine vIf_t ?_ | refine vIf_f ?_)); refine vCall_ex (d2) (by simp (disch := omega) only [go_sem, Nat.reduceAdd]) rfl ?_); rintro _ _ ⟨v, rfl, rfl, hv1, hv2⟩; (refine ⟨(by first | exact Or.inl rfl | exact Or.inr ⟨rfl, rfl⟩ | (apply Or.inr; simp only [go_sem])), ?_⟩; (repeat (first | simp (maxSteps := 2000000) (disch := omega) only [go_sem, Nat.reduceEqDiff, Nat.reduceAdd, Nat.reduceMul, Nat.reduceSub, Int.reduceToNat, Int.reduceAdd, Int.reduceSub, Int.reduceMul, Int.reduceNeg] | refine vIf_t ?_ | refine vIf_f ?_)))
    obtain ⟨d, hd⟩ : ∃ d : Nat, 1 + v = d := ⟨(1 + v).toNat, by omega⟩
    have hdl : d ≤ xs.length := by omega
    have ec : rsC xs d = 0 := by rw [rsC, if_pos hdl]
    have hlen : (rsR xs d).length = xs.length + 1 - d := by rw [rsR, if_pos hdl, rsL_len]
    have p1 := rainSums_ok xs d X (by omega)
    have p2 := wettest_ok xs d X (by omega)
    rw [ec] at p1 p2
    unfold iS at p1
    (try (repeat (first | simp (maxSteps := 2000000) (disch := omega) only [go_sem, Nat.reduceEqDiff, Nat.reduceAdd, Nat.reduceMul, Nat.reduceSub, Int.reduceToNat, Int.reduceAdd, Int.reduceSub, Int.reduceMul, Int.reduceNeg, hd] | refine vIf_t ?_ | refine vIf_f ?_)))
    (refine vCallX_of ?_; (repeat (first | simp (maxSteps := 2000000) (disch := omega) only [go_sem, Nat.reduceEqDiff, Nat.reduceAdd, Nat.reduceMul, Nat.reduceSub, Int.reduceToNat, Int.reduceAdd, Int.reduceSub, Int.reduceMul, Int.reduceNeg] | refine vIf_t ?_ | refine vIf_f ?_)); refine vCall_eq (p1) (by simp (disch := omega) only [go_sem, Nat.reduceAdd]) rfl (by first | exact Or.inl rfl | exact Or.inr ⟨rfl, rfl⟩ | (apply Or.inr; simp only [go_sem])) ?_; (repeat (first | simp (maxSteps := 2000000) (disch := omega) only [go_sem, Nat.reduceEqDiff, Nat.reduceAdd, Nat.reduceMul, Nat.reduceSub, Int.reduceToNat, Int.reduceAdd, Int.reduceSub, Int.reduceMul, Int.reduceNeg] | refine vIf_t ?_ | refine vIf_f ?_)))
    (refine vCallX_of ?_; (repeat (first | simp (maxSteps := 2000000) (disch := omega) only [go_sem, Nat.reduceEqDiff, Nat.reduceAdd, Nat.reduceMul, Nat.reduceSub, Int.reduceToNat, Int.reduceAdd, Int.reduceSub, Int.reduceMul, Int.reduceNeg] | refine vIf_t ?_ | refine vIf_f ?_)); refine vCall_ex (p2) (by simp (disch := omega) only [go_sem, Nat.reduceAdd]) rfl ?_); rintro _ _ ⟨b, m, hm, rfl, rfl⟩; (refine ⟨(by first | exact Or.inl rfl | exact Or.inr ⟨rfl, rfl⟩ | (apply Or.inr; simp only [go_sem])), ?_⟩; (repeat (first | simp (maxSteps := 2000000) (disch := omega) only [go_sem, Nat.reduceEqDiff, Nat.reduceAdd, Nat.reduceMul, Nat.reduceSub, Int.reduceToNat, Int.reduceAdd, Int.reduceSub, Int.reduceMul, Int.reduceNeg] | refine vIf_t ?_ | refine vIf_f ?_)))
    obtain ⟨_, hF, rfl⟩ : d ≤ xs.length ∧ FMb (rsR xs d) (rsR xs d).length b ∧ m = gi (rsR xs d) b := by
      rcases hm with h | h
      · exact h
      · exact absurd hdl h
    have hbl := hF.lt
    have f0 : (((rsR xs d).length : Int) != (xs.length : Int) - d + 1) = false := by
      have : ((rsR xs d).length : Int) = (xs.length : Int) - d + 1 := by omega
      simpa using this
    have f1 : decide ((b : Int) < 0) = false := decide_eq_false (by omega)
    have f2 : decide (((rsR xs d).length : Int) ≤ b) = false := decide_eq_false (by omega)
    (try (repeat (first | simp (maxSteps := 2000000) (disch := omega) only [go_sem, Nat.reduceEqDiff, Nat.reduceAdd, Nat.reduceMul, Nat.reduceSub, Int.reduceToNat, Int.reduceAdd, Int.reduceSub, Int.reduceMul, Int.reduceNeg, f0, f1, f2] | refine vIf_t ?_ | refine vIf_f ?_)))
    refine vcLoop_invF (fun k : Nat => k ≤ (rsR xs d).length) (fun k => ⟨154, 0, [(12, I k), (6, I d), (5, .sl xs.length (ints xs)), (7, .sl (rsR xs d).length (ints (rsR xs d))), (9, I b), (10, I (gi (rsR xs d) b))], []⟩) (fun k => (rsR xs d).length - k) 0 (by omega) (by (first | (refine leF_s ?_; ((repeat (first | simp (maxSteps := 2000000) (disch := omega) only [go_sem, Nat.reduceEqDiff, Nat.reduceAdd, Nat.reduceMul, Nat.reduceSub, Int.reduceToNat, Int.reduceAdd, Int.reduceSub, Int.reduceMul, Int.reduceNeg] | refine vIf_t ?_ | refine vIf_f ?_)); all_goals (try simp); all_goals (try omega)); done) | (refine leF_p ?_; ((repeat (first | simp (maxSteps := 2000000) (disch := omega) only [go_sem, Nat.reduceEqDiff, Nat.reduceAdd, Nat.reduceMul, Nat.reduceSub, Int.reduceToNat, Int.reduceAdd, Int.reduceSub, Int.reduceMul, Int.reduceNeg] | refine vIf_t ?_ | refine vIf_f ?_)); all_goals (try simp); all_goals (try omega)); done))) ?_
    intro k hk
    (repeat (first | simp (maxSteps := 2000000) (disch := omega) only [go_sem, Nat.reduceEqDiff, Nat.reduceAdd, Nat.reduceMul, Nat.reduceSub, Int.reduceToNat, Int.reduceAdd, Int.reduceSub, Int.reduceMul, Int.reduceNeg] | refine vIf_t ?_ | refine vIf_f ?_))
    refine vIf_dec (fun h5 => ?_) (fun h5 => ?_)
    · have hkl : k < (rsR xs d).length := by omega
      have hmx := hF.mx k hkl
      have c1 : decide (gi (rsR xs d) b < gi (rsR xs d) k) = false := decide_eq_false (by omega)
      have hl2 : ((xs.drop k).take d).length = d := by simp; omega
      have hs := a2Sum_ok ((xs.drop k).take d) (by omega)
      have e1 : ((k : Int) + (d : Int) - (k : Int)).toNat = d := by omega
      have eg : gi (rsR xs d) k = wsum ((xs.drop k).take d) := by rw [rsR, if_pos hdl, rsL_get _ _ _ _ (by omega)]; rfl
      have f3 : (gi (rsR xs d) k != wsum ((xs.drop k).take d)) = false := by simpa using eg
      rw [hl2] at hs
      have main : (gi (rsR xs d) k == gi (rsR xs d) b) = false ∨ ((gi (rsR xs d) k == gi (rsR xs d) b) = true ∧ decide ((k : Int) < b) = false) := by
        by_cases h : gi (rsR xs d) k = gi (rsR xs d) b
        · refine .inr ⟨by simpa using h, decide_eq_false fun h2 => ?_⟩
          have := hF.fst k (by omega)
          omega
        · exact .inl (by simpa using h)
      (repeat (first | simp (maxSteps := 2000000) (disch := omega) only [go_sem, Nat.reduceEqDiff, Nat.reduceAdd, Nat.reduceMul, Nat.reduceSub, Int.reduceToNat, Int.reduceAdd, Int.reduceSub, Int.reduceMul, Int.reduceNeg] | refine vIf_t ?_ | refine vIf_f ?_))
      (refine vDraw_sch 31 ([(0, false), (1, false), (2, false), (4, false), (3, true), (5, false), (6, false), (7, false), (8, false), (9, false), (10, false), (11, false), (12, false), (13, false), (14, false), (15, false), (16, false), (17, false), (18, false), (19, false)] ++ [(20, false), (21, false), (22, false), (23, false), (24, false), (25, false), (26, false), (27, false), (28, false), (29, false), (30, false)]) mixed (by kernel_rfl) ?_; simp only [List.cons_append, List.nil_append, List.map_cons, List.map_nil, nthO_zero, nthO_succ, List.drop_succ_cons, List.drop_zero, List.drop_nil]; (repeat (first | simp (maxSteps := 2000000) (disch := omega) only [go_sem, Nat.reduceEqDiff, Nat.reduceAdd, Nat.reduceMul, Nat.reduceSub, Int.reduceToNat, Int.reduceAdd, Int.reduceSub, Int.reduceMul, Int.reduceNeg] | refine vIf_t ?_ | refine vIf_f ?_)))
      rcases main with m1 | ⟨m1, m2⟩
      focus (try (repeat (first | simp (maxSteps := 2000000) (disch := omega) only [go_sem, Nat.reduceEqDiff, Nat.reduceAdd, Nat.reduceMul, Nat.reduceSub, Int.reduceToNat, Int.reduceAdd, Int.reduceSub, Int.reduceMul, Int.reduceNeg, c1, m1, e1] | refine vIf_t ?_ | refine vIf_f ?_)))
      rotate_left
      focus (try (repeat (first | simp (maxSteps := 2000000) (disch := omega) only [go_sem, Nat.reduceEqDiff, Nat.reduceAdd, Nat.reduceMul, Nat.reduceSub, Int.reduceToNat, Int.reduceAdd, Int.reduceSub, Int.reduceMul, Int.reduceNeg, c1, m1, m2, e1] | refine vIf_t ?_ | refine vIf_f ?_)))
      all_goals
        (refine vsCallX_of ?_; (try (repeat (first | simp (maxSteps := 2000000) (disch := omega) only [go_sem, Nat.reduceEqDiff, Nat.reduceAdd, Nat.reduceMul, Nat.reduceSub, Int.reduceToNat, Int.reduceAdd, Int.reduceSub, Int.reduceMul, Int.reduceNeg] | refine vIf_t ?_ | refine vIf_f ?_))); refine vCall_eq (hs) (by simp (disch := omega) only [go_sem, Nat.reduceAdd]) rfl (by first | exact Or.inl rfl | exact Or.inr ⟨rfl, rfl⟩ | (apply Or.inr; simp only [go_sem])) ?_; (try (repeat (first | simp (maxSteps := 2000000) (disch := omega) only [go_sem, Nat.reduceEqDiff, Nat.reduceAdd, Nat.reduceMul, Nat.reduceSub, Int.reduceToNat, Int.reduceAdd, Int.reduceSub, Int.reduceMul, Int.reduceNeg] | refine vIf_t ?_ | refine vIf_f ?_))))
        (try (repeat (first | simp (maxSteps := 2000000) (disch := omega) only [go_sem, Nat.reduceEqDiff, Nat.reduceAdd, Nat.reduceMul, Nat.reduceSub, Int.reduceToNat, Int.reduceAdd, Int.reduceSub, Int.reduceMul, Int.reduceNeg, f3] | refine vIf_t ?_ | refine vIf_f ?_)))
        refine againF (k + 1) (by omega) (by omega) (by (first | (refine leF_s ?_; ((repeat (first | simp (maxSteps := 2000000) (disch := omega) only [go_sem, Nat.reduceEqDiff, Nat.reduceAdd, Nat.reduceMul, Nat.reduceSub, Int.reduceToNat, Int.reduceAdd, Int.reduceSub, Int.reduceMul, Int.reduceNeg] | refine vIf_t ?_ | refine vIf_f ?_)); all_goals (try simp); all_goals (try omega)); done) | (refine leF_p ?_; ((repeat (first | simp (maxSteps := 2000000) (disch := omega) only [go_sem, Nat.reduceEqDiff, Nat.reduceAdd, Nat.reduceMul, Nat.reduceSub, Int.reduceToNat, Int.reduceAdd, Int.reduceSub, Int.reduceMul, Int.reduceNeg] | refine vIf_t ?_ | refine vIf_f ?_)); all_goals (try simp); all_goals (try omega)); done)))
    · have p3 := wettest_ok xs (d + 1) X (by omega)
      rw [show ((d + 1 : Nat) : Int) = (d : Int) + 1 by omega] at p3
      (repeat (first | simp (maxSteps := 2000000) (disch := omega) only [go_sem, Nat.reduceEqDiff, Nat.reduceAdd, Nat.reduceMul, Nat.reduceSub, Int.reduceToNat, Int.reduceAdd, Int.reduceSub, Int.reduceMul, Int.reduceNeg] | refine vIf_t ?_ | refine vIf_f ?_))
      (refine vCallX_of ?_; (repeat (first | simp (maxSteps := 2000000) (disch := omega) only [go_sem, Nat.reduceEqDiff, Nat.reduceAdd, Nat.reduceMul, Nat.reduceSub, Int.reduceToNat, Int.reduceAdd, Int.reduceSub, Int.reduceMul, Int.reduceNeg] | refine vIf_t ?_ | refine vIf_f ?_)); refine vCall_ex (p3) (by simp (disch := omega) only [go_sem, Nat.reduceAdd]) rfl ?_); rintro _ _ ⟨b2, m2, hm2, rfl, rfl⟩; (refine ⟨(by first | exact Or.inl rfl | exact Or.inr ⟨rfl, rfl⟩ | (apply Or.inr; simp only [go_sem])), ?_⟩; (repeat (first | simp (maxSteps := 2000000) (disch := omega) only [go_sem, Nat.reduceEqDiff, Nat.reduceAdd, Nat.reduceMul, Nat.reduceSub, Int.reduceToNat, Int.reduceAdd, Int.reduceSub, Int.reduceMul, Int.reduceNeg] | refine vIf_t ?_ | refine vIf_f ?_)))
      have hg0 : gi xs 0 ∈ xs := gi_mem xs 0 (by omega)
      have hgb := hx _ hg0
      have t1 := rainText_ok (gi xs 0) (by omega)
      have t2 := readRain_ok (gi xs 0) (by omega)
      have main : (rsC xs (d + 1) = 0 ∧ decide (m2 < gi (rsR xs d) b) = false ∧ decide ((d : Int) < xs.length) = true) ∨ (rsC xs (d + 1) = 3 ∧ decide ((d : Int) < xs.length) = false) := by
        by_cases h : d + 1 ≤ xs.length
        · left
          refine ⟨by rw [rsC, if_pos h], decide_eq_false ?_, decide_eq_true (by omega)⟩
          obtain ⟨_, hF2, rfl⟩ : d + 1 ≤ xs.length ∧ FMb (rsR xs (d + 1)) (rsR xs (d + 1)).length b2 ∧ m2 = gi (rsR xs (d + 1)) b2 := by
            rcases hm2 with h3 | h3
            · exact h3
            · exact absurd h h3
          obtain ⟨j, hj, hle⟩ := wS_longer X (i := b) (d := d) (by omega) (by omega)
          have hlen2 : (rsR xs (d + 1)).length = xs.length + 1 - (d + 1) := by rw [rsR, if_pos h, rsL_len]
          have hm3 := hF2.mx j (by omega)
          have e1 : gi (rsR xs d) b = wS xs d b := by rw [rsR, if_pos hdl]; exact rsL_get _ _ _ _ (by omega)
          have e2 : gi (rsR xs (d + 1)) j = wS xs (d + 1) j := by rw [rsR, if_pos h]; exact rsL_get _ _ _ _ (by omega)
          omega
        · exact .inr ⟨by rw [rsC, if_neg h], decide_eq_false (by omega)⟩
      have tt : (true == true) = true := rfl
      have ff : (false == false) = true := rfl
      rcases main with ⟨m1, m3, m4⟩ | ⟨m1, m3⟩
      focus
        (try (repeat (first | simp (maxSteps := 2000000) (disch := omega) only [go_sem, Nat.reduceEqDiff, Nat.reduceAdd, Nat.reduceMul, Nat.reduceSub, Int.reduceToNat, Int.reduceAdd, Int.reduceSub, Int.reduceMul, Int.reduceNeg, m1] | refine vIf_t ?_ | refine vIf_f ?_)))
        (try (repeat (first | simp (maxSteps := 2000000) (disch := omega) only [go_sem, Nat.reduceEqDiff, Nat.reduceAdd, Nat.reduceMul, Nat.reduceSub, Int.reduceToNat, Int.reduceAdd, Int.reduceSub, Int.reduceMul, Int.reduceNeg, m3, m4, tt] | refine vIf_t ?_ | refine vIf_f ?_)))
      rotate_left
      focus
        (try (repeat (first | simp (maxSteps := 2000000) (disch := omega) only [go_sem, Nat.reduceEqDiff, Nat.reduceAdd, Nat.reduceMul, Nat.reduceSub, Int.reduceToNat, Int.reduceAdd, Int.reduceSub, Int.reduceMul, Int.reduceNeg, m1] | refine vIf_t ?_ | refine vIf_f ?_)))
        (try (repeat (first | simp (maxSteps := 2000000) (disch := omega) only [go_sem, Nat.reduceEqDiff, Nat.reduceAdd, Nat.reduceMul, Nat.reduceSub, Int.reduceToNat, Int.reduceAdd, Int.reduceSub, Int.reduceMul, Int.reduceNeg, m3, ff] | refine vIf_t ?_ | refine vIf_f ?_)))
      all_goals
        (refine vCallX_of ?_; (repeat (first | simp (maxSteps := 2000000) (disch := omega) only [go_sem, Nat.reduceEqDiff, Nat.reduceAdd, Nat.reduceMul, Nat.reduceSub, Int.reduceToNat, Int.reduceAdd, Int.reduceSub, Int.reduceMul, Int.reduceNeg] | refine vIf_t ?_ | refine vIf_f ?_)); refine vCall_eq (t1) (by simp (disch := omega) only [go_sem, Nat.reduceAdd]) rfl (by first | exact Or.inl rfl | exact Or.inr ⟨rfl, rfl⟩ | (apply Or.inr; simp only [go_sem])) ?_; (repeat (first | simp (maxSteps := 2000000) (disch := omega) only [go_sem, Nat.reduceEqDiff, Nat.reduceAdd, Nat.reduceMul, Nat.reduceSub, Int.reduceToNat, Int.reduceAdd, Int.reduceSub, Int.reduceMul, Int.reduceNeg] | refine vIf_t ?_ | refine vIf_f ?_)))
        (refine vCallX_of ?_; (repeat (first | simp (maxSteps := 2000000) (disch := omega) only [go_sem, Nat.reduceEqDiff, Nat.reduceAdd, Nat.reduceMul, Nat.reduceSub, Int.reduceToNat, Int.reduceAdd, Int.reduceSub, Int.reduceMul, Int.reduceNeg] | refine vIf_t ?_ | refine vIf_f ?_)); refine vCall_eq (t2) (by simp (disch := omega) only [go_sem, Nat.reduceAdd]) rfl (by first | exact Or.inl rfl | exact Or.inr ⟨rfl, rfl⟩ | (apply Or.inr; simp only [go_sem])) ?_; (repeat (first | simp (maxSteps := 2000000) (disch := omega) only [go_sem, Nat.reduceEqDiff, Nat.reduceAdd, Nat.reduceMul, Nat.reduceSub, Int.reduceToNat, Int.reduceAdd, Int.reduceSub, Int.reduceMul, Int.reduceNeg] | refine vIf_t ?_ | refine vIf_f ?_)))
        (refine retK_of ?_; (repeat (first | simp (maxSteps := 2000000) (disch := omega) only [go_sem, Nat.reduceEqDiff, Nat.reduceAdd, Nat.reduceMul, Nat.reduceSub, Int.reduceToNat, Int.reduceAdd, Int.reduceSub, Int.reduceMul, Int.reduceNeg] | refine vIf_t ?_ | refine vIf_f ?_)))
end Go.Proofs.YtnphbdcdncmojaaDoor

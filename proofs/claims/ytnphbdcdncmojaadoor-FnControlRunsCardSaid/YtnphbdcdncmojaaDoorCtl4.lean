/- control of pumps: codes, switchings, keeping a level -/
import Derived.Test.YtnphbdcdncmojaaDoorCtl3
import Derived.Test.YtnphbdcdncmojaaDoorArgs
set_option linter.unusedVariables false
set_option linter.unusedSimpArgs false
namespace Go.Proofs.YtnphbdcdncmojaaDoor
open Go.AG

theorem ctlCode_ok (c : Cv) (ws : List Sw) (vol : Int) (rs xs : List Int) (f : CvF c) (hok : okC c = true) (hw : ws.all okW = true) (hwl : ws.length ≤ 1000) (hv : 0 ≤ vol ∧ vol ≤ gi c.vl (c.lv.length - 1)) (hr : ∀ y ∈ rs, 0 ≤ y ∧ y ≤ 1000000) (hrl : rs.length ≤ 1000) (hx : ∀ y ∈ xs, 0 ≤ y ∧ y ≤ 1000000) (hn : xs.length ≤ 200) :
    ACalls Tryd.prog 59 [.agg c.cells, .sl ws.length (cSw ws), I vol, .sl rs.length (ints rs), .sl xs.length (ints xs)] [] (fun r o => r = I 0 ∧ o = []) := by
  refine ACalls.of_vc Tryd.func59 rfl (by decide) 42 rfl [.tmp 10] rfl (by simp) ?_
  have h2 := f.n2
  have h12 := f.n12
  have hvn := f.vn
  have hc := validC_ok c (by omega) (by omega)
  have ha := allSw_ok 62 [] okW ws (fun x _ => validW_ok x) rfl (by omega)
  have hra := all_ok 116 [] (fun n => decide (0 ≤ n ∧ n ≤ 1000000)) rs (fun x _ => isRate_ok x) rfl (by omega)
  have hxa := all_ok 116 [] (fun n => decide (0 ≤ n ∧ n ≤ 1000000)) xs (fun x _ => isRate_ok x) rfl (by omega)
  have hla := last_ok c.vl (by omega)
  have hin := in_ok vol 0 (gi c.vl (c.lv.length - 1))
  rw [hok] at hc
  rw [hw] at ha
  rw [show rs.all (fun n => decide (0 ≤ n ∧ n ≤ 1000000)) = true from List.all_eq_true.2 fun y hy => decide_eq_true (hr y hy)] at hra
  rw [show xs.all (fun n => decide (0 ≤ n ∧ n ≤ 1000000)) = true from List.all_eq_true.2 fun y hy => decide_eq_true (hx y hy)] at hxa
  rw [show gi c.vl (c.vl.length - 1) = gi c.vl (c.lv.length - 1) by rw [hvn]] at hla
  rw [decide_eq_true hv] at hin
  unfold iS at hra hxa
  unfold Cv.cells at hc ⊢
  (repeat (first | simp (maxSteps := 2000000) (disch := omega) only [go_sem, Nat.reduceEqDiff, Nat.reduceAdd, Nat.reduceMul, Nat.reduceSub, Int.reduceToNat, Int.reduceAdd, Int.reduceSub, Int.reduceMul, Int.reduceNeg] | refine vIf_t ?_ | refine vIf_f ?_))
  (refine vCallX_of ?_; (repeat (first | simp (maxSteps := 2000000) (disch := omega) only [go_sem, Nat.reduceEqDiff, Nat.reduceAdd, Nat.reduceMul, Nat.reduceSub, Int.reduceToNat, Int.reduceAdd, Int.reduceSub, Int.reduceMul, Int.reduceNeg] | refine vIf_t ?_ | refine vIf_f ?_)); refine vCall_eq (hc) (by simp (disch := omega) only [go_sem, Nat.reduceAdd]) rfl (by first | exact Or.inl rfl | exact Or.inr ⟨rfl, rfl⟩ | (apply Or.inr; simp only [go_sem])) ?_; (repeat (first | simp (maxSteps := 2000000) (disch := omega) only [go_sem, Nat.reduceEqDiff, Nat.reduceAdd, Nat.reduceMul, Nat.reduceSub, Int.reduceToNat, Int.reduceAdd, Int.reduceSub, Int.reduceMul, Int.reduceNeg] | refine vIf_t ?_ | refine vIf_f ?_)))
  (refine vCallX_of ?_; (repeat (first | simp (maxSteps := 2000000) (disch := omega) only [go_sem, Nat.reduceEqDiff, Nat.reduceAdd, Nat.reduceMul, Nat.reduceSub, Int.reduceToNat, Int.reduceAdd, Int.reduceSub, Int.reduceMul, Int.reduceNeg] | refine vIf_t ?_ | refine vIf_f ?_)); refine vCall_eq (ha) (by simp (disch := omega) only [go_sem, Nat.reduceAdd]) rfl (by first | exact Or.inl rfl | exact Or.inr ⟨rfl, rfl⟩ | (apply Or.inr; simp only [go_sem])) ?_; (repeat (first | simp (maxSteps := 2000000) (disch := omega) only [go_sem, Nat.reduceEqDiff, Nat.reduceAdd, Nat.reduceMul, Nat.reduceSub, Int.reduceToNat, Int.reduceAdd, Int.reduceSub, Int.reduceMul, Int.reduceNeg] | refine vIf_t ?_ | refine vIf_f ?_)))
  (refine vCallX_of ?_; (repeat (first | simp (maxSteps := 2000000) (disch := omega) only [go_sem, Nat.reduceEqDiff, Nat.reduceAdd, Nat.reduceMul, Nat.reduceSub, Int.reduceToNat, Int.reduceAdd, Int.reduceSub, Int.reduceMul, Int.reduceNeg] | refine vIf_t ?_ | refine vIf_f ?_)); refine vCall_eq (hra) (by simp (disch := omega) only [go_sem, Nat.reduceAdd]) rfl (by first | exact Or.inl rfl | exact Or.inr ⟨rfl, rfl⟩ | (apply Or.inr; simp only [go_sem])) ?_; (repeat (first | simp (maxSteps := 2000000) (disch := omega) only [go_sem, Nat.reduceEqDiff, Nat.reduceAdd, Nat.reduceMul, Nat.reduceSub, Int.reduceToNat, Int.reduceAdd, Int.reduceSub, Int.reduceMul, Int.reduceNeg] | refine vIf_t ?_ | refine vIf_f ?_)))
  (refine vCallX_of ?_; (repeat (first | simp (maxSteps := 2000000) (disch := omega) only [go_sem, Nat.reduceEqDiff, Nat.reduceAdd, Nat.reduceMul, Nat.reduceSub, Int.reduceToNat, Int.reduceAdd, Int.reduceSub, Int.reduceMul, Int.reduceNeg] | refine vIf_t ?_ | refine vIf_f ?_)); refine vCall_eq (hla) (by simp (disch := omega) only [go_sem, Nat.reduceAdd]) rfl (by first | exact Or.inl rfl | exact Or.inr ⟨rfl, rfl⟩ | (apply Or.inr; simp only [go_sem])) ?_; (repeat (first | simp (maxSteps := 2000000) (disch := omega) only [go_sem, Nat.reduceEqDiff, Nat.reduceAdd, Nat.reduceMul, Nat.reduceSub, Int.reduceToNat, Int.reduceAdd, Int.reduceSub, Int.reduceMul, Int.reduceNeg] | refine vIf_t ?_ | refine vIf_f ?_)))
  (refine vCallX_of ?_; (repeat (first | simp (maxSteps := 2000000) (disch := omega) only [go_sem, Nat.reduceEqDiff, Nat.reduceAdd, Nat.reduceMul, Nat.reduceSub, Int.reduceToNat, Int.reduceAdd, Int.reduceSub, Int.reduceMul, Int.reduceNeg] | refine vIf_t ?_ | refine vIf_f ?_)); refine vCall_eq (hin) (by simp (disch := omega) only [go_sem, Nat.reduceAdd]) rfl (by first | exact Or.inl rfl | exact Or.inr ⟨rfl, rfl⟩ | (apply Or.inr; simp only [go_sem])) ?_; (repeat (first | simp (maxSteps := 2000000) (disch := omega) only [go_sem, Nat.reduceEqDiff, Nat.reduceAdd, Nat.reduceMul, Nat.reduceSub, Int.reduceToNat, Int.reduceAdd, Int.reduceSub, Int.reduceMul, Int.reduceNeg] | refine vIf_t ?_ | refine vIf_f ?_)))
  (refine vCallX_of ?_; (repeat (first | simp (maxSteps := 2000000) (disch := omega) only [go_sem, Nat.reduceEqDiff, Nat.reduceAdd, Nat.reduceMul, Nat.reduceSub, Int.reduceToNat, Int.reduceAdd, Int.reduceSub, Int.reduceMul, Int.reduceNeg] | refine vIf_t ?_ | refine vIf_f ?_)); refine vCall_eq (hxa) (by simp (disch := omega) only [go_sem, Nat.reduceAdd]) rfl (by first | exact Or.inl rfl | exact Or.inr ⟨rfl, rfl⟩ | (apply Or.inr; simp only [go_sem])) ?_; (repeat (first | simp (maxSteps := 2000000) (disch := omega) only [go_sem, Nat.reduceEqDiff, Nat.reduceAdd, Nat.reduceMul, Nat.reduceSub, Int.reduceToNat, Int.reduceAdd, Int.reduceSub, Int.reduceMul, Int.reduceNeg] | refine vIf_t ?_ | refine vIf_f ?_)))
  (refine retK_of ?_; (repeat (first | simp (maxSteps := 2000000) (disch := omega) only [go_sem, Nat.reduceEqDiff, Nat.reduceAdd, Nat.reduceMul, Nat.reduceSub, Int.reduceToNat, Int.reduceAdd, Int.reduceSub, Int.reduceMul, Int.reduceNeg] | refine vIf_t ?_ | refine vIf_f ?_)))
def swK (hs : List Hr) : Nat → Int × Bool
  | 0 => (0, false)
  | k + 1 => (if (!((gHr hs k).run == (swK hs k).2)) = true then (swK hs k).1 + 1 else (swK hs k).1, (gHr hs k).run)
def swN (hs : List Hr) : Int := (swK hs hs.length).1
theorem swK_bd (hs : List Hr) (k : Nat) : 0 ≤ (swK hs k).1 ∧ (swK hs k).1 ≤ k := by
  induction k with
  | zero => simp [swK]
  | succ k ih => simp only [swK]; split <;> omega
theorem switches_ok (hs : List Hr) (hl : hs.length ≤ 1000) : ACalls Tryd.prog 70 [.sl hs.length (cHr hs)] [] (fun r o => r = I (swN hs) ∧ o = []) := by
  refine ACalls.of_vc Tryd.func70 rfl (by decide) 23 rfl [.tmp 2] rfl (by simp) ?_
  (repeat (first | simp (maxSteps := 2000000) (disch := omega) only [go_sem, Nat.reduceEqDiff, Nat.reduceAdd, Nat.reduceMul, Nat.reduceSub, Int.reduceToNat, Int.reduceAdd, Int.reduceSub, Int.reduceMul, Int.reduceNeg] | refine vIf_t ?_ | refine vIf_f ?_))
  refine vcLoop_invF (fun k : Nat => k ≤ hs.length) (fun k => ⟨23, 0, [(9, I k), (3, I (swK hs k).1), (4, B (swK hs k).2), (7, .sl hs.length (cHr hs)), (8, I hs.length)], []⟩) (fun k => hs.length - k) 0 (by omega) (by simp only [swK]; (first | (refine leF_s ?_; ((repeat (first | simp (maxSteps := 2000000) (disch := omega) only [go_sem, Nat.reduceEqDiff, Nat.reduceAdd, Nat.reduceMul, Nat.reduceSub, Int.reduceToNat, Int.reduceAdd, Int.reduceSub, Int.reduceMul, Int.reduceNeg] | refine vIf_t ?_ | refine vIf_f ?_)); all_goals (try simp); all_goals (try omega)); done) | (refine leF_p ?_; ((repeat (first | simp (maxSteps := 2000000) (disch := omega) only [go_sem, Nat.reduceEqDiff, Nat.reduceAdd, Nat.reduceMul, Nat.reduceSub, Int.reduceToNat, Int.reduceAdd, Int.reduceSub, Int.reduceMul, Int.reduceNeg] | refine vIf_t ?_ | refine vIf_f ?_)); all_goals (try simp); all_goals (try omega)); done))) ?_
  intro k hk
  have hb := swK_bd hs k
  (repeat (first | simp (maxSteps := 2000000) (disch := omega) only [go_sem, Nat.reduceEqDiff, Nat.reduceAdd, Nat.reduceMul, Nat.reduceSub, Int.reduceToNat, Int.reduceAdd, Int.reduceSub, Int.reduceMul, Int.reduceNeg] | refine vIf_t ?_ | refine vIf_f ?_))
  refine vIf_dec (fun h => ?_) (fun h => ?_)
  · have hkl : k < hs.length := by omega
    (repeat (first | simp (maxSteps := 2000000) (disch := omega) only [go_sem, Nat.reduceEqDiff, Nat.reduceAdd, Nat.reduceMul, Nat.reduceSub, Int.reduceToNat, Int.reduceAdd, Int.reduceSub, Int.reduceMul, Int.reduceNeg] | refine vIf_t ?_ | refine vIf_f ?_))
    refine vIf_bool (fun h3 => ?_) (fun h3 => ?_)
    · have e : swK hs (k + 1) = ((swK hs k).1 + 1, (gHr hs k).run) := by rw [swK, if_pos h3]
      (repeat (first | simp (maxSteps := 2000000) (disch := omega) only [go_sem, Nat.reduceEqDiff, Nat.reduceAdd, Nat.reduceMul, Nat.reduceSub, Int.reduceToNat, Int.reduceAdd, Int.reduceSub, Int.reduceMul, Int.reduceNeg] | refine vIf_t ?_ | refine vIf_f ?_))
      refine againF (k + 1) (by omega) (by omega) ?_
      rw [e]
      (first | (refine leF_s ?_; ((repeat (first | simp (maxSteps := 2000000) (disch := omega) only [go_sem, Nat.reduceEqDiff, Nat.reduceAdd, Nat.reduceMul, Nat.reduceSub, Int.reduceToNat, Int.reduceAdd, Int.reduceSub, Int.reduceMul, Int.reduceNeg] | refine vIf_t ?_ | refine vIf_f ?_)); all_goals (try simp); all_goals (try omega)); done) | (refine leF_p ?_; ((repeat (first | simp (maxSteps := 2000000) (disch := omega) only [go_sem, Nat.reduceEqDiff, Nat.reduceAdd, Nat.reduceMul, Nat.reduceSub, Int.reduceToNat, Int.reduceAdd, Int.reduceSub, Int.reduceMul, Int.reduceNeg] | refine vIf_t ?_ | refine vIf_f ?_)); all_goals (try simp); all_goals (try omega)); done))
    · have e : swK hs (k + 1) = ((swK hs k).1, (gHr hs k).run) := by rw [swK, if_neg (by rw [h3]; decide)]
      (repeat (first | simp (maxSteps := 2000000) (disch := omega) only [go_sem, Nat.reduceEqDiff, Nat.reduceAdd, Nat.reduceMul, Nat.reduceSub, Int.reduceToNat, Int.reduceAdd, Int.reduceSub, Int.reduceMul, Int.reduceNeg] | refine vIf_t ?_ | refine vIf_f ?_))
      refine againF (k + 1) (by omega) (by omega) ?_
      rw [e]
      (first | (refine leF_s ?_; ((repeat (first | simp (maxSteps := 2000000) (disch := omega) only [go_sem, Nat.reduceEqDiff, Nat.reduceAdd, Nat.reduceMul, Nat.reduceSub, Int.reduceToNat, Int.reduceAdd, Int.reduceSub, Int.reduceMul, Int.reduceNeg] | refine vIf_t ?_ | refine vIf_f ?_)); all_goals (try simp); all_goals (try omega)); done) | (refine leF_p ?_; ((repeat (first | simp (maxSteps := 2000000) (disch := omega) only [go_sem, Nat.reduceEqDiff, Nat.reduceAdd, Nat.reduceMul, Nat.reduceSub, Int.reduceToNat, Int.reduceAdd, Int.reduceSub, Int.reduceMul, Int.reduceNeg] | refine vIf_t ?_ | refine vIf_f ?_)); all_goals (try simp); all_goals (try omega)); done))
  · rw [show k = hs.length by omega]
    (repeat (first | simp (maxSteps := 2000000) (disch := omega) only [go_sem, Nat.reduceEqDiff, Nat.reduceAdd, Nat.reduceMul, Nat.reduceSub, Int.reduceToNat, Int.reduceAdd, Int.reduceSub, Int.reduceMul, Int.reduceNeg] | refine vIf_t ?_ | refine vIf_f ?_))
    (refine retK_of ?_; (repeat (first | simp (maxSteps := 2000000) (disch := omega) only [go_sem, Nat.reduceEqDiff, Nat.reduceAdd, Nat.reduceMul, Nat.reduceSub, Int.reduceToNat, Int.reduceAdd, Int.reduceSub, Int.reduceMul, Int.reduceNeg] | refine vIf_t ?_ | refine vIf_f ?_)))
    rfl
def hsB (hs : List Hr) : Prop := ∀ y ∈ hs, -2000 ≤ y.lv ∧ y.lv ≤ 2000
theorem allHr_snoc (q : Hr → Bool) (xs : List Hr) (k : Nat) (h : k < xs.length) (he : (xs.take k).all q = true) (hq : q (gHr xs k) = true) : (xs.take (k + 1)).all q = true := by
  rw [gHr_take_succ xs k h, List.all_append, he]; simp [hq]
theorem allHr_no (q : Hr → Bool) (xs : List Hr) (k : Nat) (h : k < xs.length) (hq : q (gHr xs k) = false) : xs.all q = false := by
  rw [List.all_eq_false]
  exact ⟨gHr xs k, gHr_mem xs k h, by simp [hq]⟩
theorem allHr_ok (f : FuncId) (caps : List V) (q : Hr → Bool) (xs : List Hr) (hf : ∀ x ∈ xs, ACalls Tryd.prog f (.agg x.cells :: caps) [] (fun r o => r = B (q x) ∧ o = [])) (hc : V.norefL caps = true) (hl : xs.length ≤ 10000000) :
    ACalls Tryd.prog 126 [.sl xs.length (cHr xs), .fn f caps] [] (fun r o => r = B (xs.all q) ∧ o = []) := by
  refine ACalls.of_vc Tryd.func126 rfl (by decide) 18 rfl [.tmp 4] rfl (by simp) ?_
  (repeat (first | simp (maxSteps := 2000000) (disch := omega) only [go_sem, Nat.reduceEqDiff, Nat.reduceAdd, Nat.reduceMul, Nat.reduceSub, Int.reduceToNat, Int.reduceAdd, Int.reduceSub, Int.reduceMul, Int.reduceNeg] | refine vIf_t ?_ | refine vIf_f ?_))
  refine vcLoop_inv (fun k : Nat => k ≤ xs.length ∧ (xs.take k).all q = true) (fun k => ⟨18, 0, [(9, I k), (8, I xs.length), (7, .sl xs.length (cHr xs)), (1, .fn f caps)], []⟩) (fun k => xs.length - k) 0 (by simp) (by (repeat (first | simp (maxSteps := 2000000) (disch := omega) only [go_sem, Nat.reduceEqDiff, Nat.reduceAdd, Nat.reduceMul, Nat.reduceSub, Int.reduceToNat, Int.reduceAdd, Int.reduceSub, Int.reduceMul, Int.reduceNeg, killL_noref _ _ hc] | refine vIf_t ?_ | refine vIf_f ?_)); all_goals (try simp)) ?_
  intro k ⟨hk, he⟩
  (repeat (first | simp (maxSteps := 2000000) (disch := omega) only [go_sem, Nat.reduceEqDiff, Nat.reduceAdd, Nat.reduceMul, Nat.reduceSub, Int.reduceToNat, Int.reduceAdd, Int.reduceSub, Int.reduceMul, Int.reduceNeg] | refine vIf_t ?_ | refine vIf_f ?_))
  refine vIf_dec (fun h => ?_) (fun h => ?_)
  · have hq := hf (gHr xs k) (gHr_mem xs k (by omega))
    unfold Hr.cells at hq
    (repeat (first | simp (maxSteps := 2000000) (disch := omega) only [go_sem, Nat.reduceEqDiff, Nat.reduceAdd, Nat.reduceMul, Nat.reduceSub, Int.reduceToNat, Int.reduceAdd, Int.reduceSub, Int.reduceMul, Int.reduceNeg] | refine vIf_t ?_ | refine vIf_f ?_))
    refine vCallX_of ?_
    (repeat (first | simp (maxSteps := 2000000) (disch := omega) only [go_sem, Nat.reduceEqDiff, Nat.reduceAdd, Nat.reduceMul, Nat.reduceSub, Int.reduceToNat, Int.reduceAdd, Int.reduceSub, Int.reduceMul, Int.reduceNeg] | refine vIf_t ?_ | refine vIf_f ?_))
    refine vCall_eq hq (by (repeat (first | simp (maxSteps := 2000000) (disch := omega) only [go_sem, Nat.reduceEqDiff, Nat.reduceAdd, Nat.reduceMul, Nat.reduceSub, Int.reduceToNat, Int.reduceAdd, Int.reduceSub, Int.reduceMul, Int.reduceNeg, frzL_noref _ _ hc] | refine vIf_t ?_ | refine vIf_f ?_))) (by (repeat (first | simp (maxSteps := 2000000) (disch := omega) only [go_sem, Nat.reduceEqDiff, Nat.reduceAdd, Nat.reduceMul, Nat.reduceSub, Int.reduceToNat, Int.reduceAdd, Int.reduceSub, Int.reduceMul, Int.reduceNeg, hc] | refine vIf_t ?_ | refine vIf_f ?_))) (Or.inl (by (repeat (first | simp (maxSteps := 2000000) (disch := omega) only [go_sem, Nat.reduceEqDiff, Nat.reduceAdd, Nat.reduceMul, Nat.reduceSub, Int.reduceToNat, Int.reduceAdd, Int.reduceSub, Int.reduceMul, Int.reduceNeg, hc] | refine vIf_t ?_ | refine vIf_f ?_)))) ?_
    (repeat (first | simp (maxSteps := 2000000) (disch := omega) only [go_sem, Nat.reduceEqDiff, Nat.reduceAdd, Nat.reduceMul, Nat.reduceSub, Int.reduceToNat, Int.reduceAdd, Int.reduceSub, Int.reduceMul, Int.reduceNeg] | refine vIf_t ?_ | refine vIf_f ?_))
    refine vIf_not (fun h3 => ?_) (fun h3 => ?_)
    · (repeat (first | simp (maxSteps := 2000000) (disch := omega) only [go_sem, Nat.reduceEqDiff, Nat.reduceAdd, Nat.reduceMul, Nat.reduceSub, Int.reduceToNat, Int.reduceAdd, Int.reduceSub, Int.reduceMul, Int.reduceNeg] | refine vIf_t ?_ | refine vIf_f ?_))
      (refine retK_of ?_; (repeat (first | simp (maxSteps := 2000000) (disch := omega) only [go_sem, Nat.reduceEqDiff, Nat.reduceAdd, Nat.reduceMul, Nat.reduceSub, Int.reduceToNat, Int.reduceAdd, Int.reduceSub, Int.reduceMul, Int.reduceNeg] | refine vIf_t ?_ | refine vIf_f ?_)))
      rw [allHr_no q xs k (by omega) h3]
    · (repeat (first | simp (maxSteps := 2000000) (disch := omega) only [go_sem, Nat.reduceEqDiff, Nat.reduceAdd, Nat.reduceMul, Nat.reduceSub, Int.reduceToNat, Int.reduceAdd, Int.reduceSub, Int.reduceMul, Int.reduceNeg] | refine vIf_t ?_ | refine vIf_f ?_))
      refine again (k + 1) ⟨by omega, allHr_snoc q xs k (by omega) he h3⟩ (by omega) ?_
      (repeat (first | simp (maxSteps := 2000000) (disch := omega) only [go_sem, Nat.reduceEqDiff, Nat.reduceAdd, Nat.reduceMul, Nat.reduceSub, Int.reduceToNat, Int.reduceAdd, Int.reduceSub, Int.reduceMul, Int.reduceNeg, killL_noref _ _ hc] | refine vIf_t ?_ | refine vIf_f ?_))
  · (repeat (first | simp (maxSteps := 2000000) (disch := omega) only [go_sem, Nat.reduceEqDiff, Nat.reduceAdd, Nat.reduceMul, Nat.reduceSub, Int.reduceToNat, Int.reduceAdd, Int.reduceSub, Int.reduceMul, Int.reduceNeg] | refine vIf_t ?_ | refine vIf_f ?_))
    (refine retK_of ?_; (repeat (first | simp (maxSteps := 2000000) (disch := omega) only [go_sem, Nat.reduceEqDiff, Nat.reduceAdd, Nat.reduceMul, Nat.reduceSub, Int.reduceToNat, Int.reduceAdd, Int.reduceSub, Int.reduceMul, Int.reduceNeg] | refine vIf_t ?_ | refine vIf_f ?_)))
    rw [List.take_of_length_le (by omega)] at he
    simp [he]
def lowB (hs : List Hr) (lev : Int) : Bool := hs.all fun y => decide (y.lv ≤ lev)
theorem rnH_bd {c : Cv} {w : Sw} {vol rate : Int} {xs : List Int} (h : CtF c vol rate xs) : hsB (rnH c w vol rate xs) ∧ (rnH c w vol rate xs).length ≤ 200 := by
  unfold rnH rnA
  cases e : rnK c w vol rate xs xs.length with
  | none => exact ⟨fun _ h => by simp at h, by simp⟩
  | some s => obtain ⟨_, h2, h3⟩ := rnK_bd h _ (Nat.le_refl _) s e; exact ⟨h3, by have := h.n; simp only; omega⟩
noncomputable def kpB (c : Cv) (w : Sw) (vol rate : Int) (xs : List Int) (lev : Int) : Bool := rnO c w vol rate xs && lowB (rnH c w vol rate xs) lev
theorem lowB_succ (hs : List Hr) (lev : Int) (k : Nat) (hk : k < hs.length) : lowB (hs.take (k + 1)) lev = (lowB (hs.take k) lev && decide ((gHr hs k).lv ≤ lev)) := by
  unfold lowB
  rw [gHr_take_succ hs k hk, List.all_append]
  simp
end Go.Proofs.YtnphbdcdncmojaaDoor

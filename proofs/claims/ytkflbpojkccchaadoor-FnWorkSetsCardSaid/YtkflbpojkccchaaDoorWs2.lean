/- tasks: starts, clay on a day, the day with most clay -/
import Derived.Test.YtkflbpojkccchaaDoorWs1
set_option linter.unusedVariables false
set_option linter.unusedSimpArgs false
namespace Go.Proofs.YtkflbpojkccchaaDoor
open Go.AG

def mx (a b : Int) : Int := if a < b then b else a
theorem mx_ge (a b : Int) : a ≤ mx a b ∧ b ≤ mx a b ∧ (mx a b = a ∨ mx a b = b) := by unfold mx; split <;> omega
/-- the start of a task -/
def stK (ts : List Tk) (ss az : List Int) : Nat → Int
  | 0 => 0
  | j + 1 => mx (stK ts ss az j) (gi ss (gi az j).toNat + (gTk ts (gi az j).toNat).dy)
/-- all starts, and the end -/
def est (ts : List Tk) : Nat → List Int × Int
  | 0 => ([], 0)
  | i + 1 => ((est ts i).1 ++ [stK ts (est ts i).1 (gTk ts i).af (gTk ts i).af.length], mx (est ts i).2 (stK ts (est ts i).1 (gTk ts i).af (gTk ts i).af.length + (gTk ts i).dy))
theorem est_len (ts : List Tk) : ∀ i, (est ts i).1.length = i
  | 0 => rfl
  | i + 1 => by simp only [est, List.length_append, est_len ts i]; rfl
theorem stK_bd (ts : List Tk) (X : TkX ts) (ss : List Int) (az : List Int) (M : Int) (hs : ∀ j, j < ss.length → 0 ≤ gi ss j ∧ gi ss j ≤ M) (h0 : 0 ≤ M) (ha : ∀ j, j < az.length → 0 ≤ gi az j ∧ gi az j < ss.length) (hl : ss.length ≤ ts.length) : ∀ k, k ≤ az.length → 0 ≤ stK ts ss az k ∧ stK ts ss az k ≤ M + 1000
  | 0, _ => by simp only [stK]; omega
  | k + 1, hk => by
    have ih := stK_bd ts X ss az M hs h0 ha hl k (by omega)
    have h1 := ha k (by omega)
    have h2 := hs (gi az k).toNat (by omega)
    have h3 := (X.e (gi az k).toNat (by omega)).d
    have h4 := mx_ge (stK ts ss az k) (gi ss (gi az k).toNat + (gTk ts (gi az k).toNat).dy)
    simp only [stK]
    omega
theorem af_in {ts : List Tk} {i : Nat} (h : TkO ts i) (j : Nat) (hj : j < (gTk ts i).af.length) : 0 ≤ gi (gTk ts i).af j ∧ gi (gTk ts i).af j < i := by
  have h1 := of_decide_eq_true h.r j hj
  unfold rok at h1
  rw [Bool.and_eq_true, decide_eq_true_eq] at h1
  omega
theorem est_bd (ts : List Tk) (X : TkX ts) : ∀ i, i ≤ ts.length → (∀ j, j < i → 0 ≤ gi (est ts i).1 j ∧ gi (est ts i).1 j ≤ 1000 * i) ∧ (∀ j, j < i → gi (est ts i).1 j + (gTk ts j).dy ≤ (est ts i).2) ∧ 0 ≤ (est ts i).2 ∧ (est ts i).2 ≤ 1000 * i + 1000
  | 0, _ => ⟨fun j hj => by omega, fun j hj => by omega, by simp [est], by simp [est]⟩
  | i + 1, hi => by
    obtain ⟨h1, h2, h3, h4⟩ := est_bd ts X i (by omega)
    have hl := est_len ts i
    have e := X.e i (by omega)
    have hb := stK_bd ts X (est ts i).1 (gTk ts i).af (1000 * i) (fun j hj => h1 j (by omega)) (by omega) (fun j hj => by rw [hl]; exact af_in e j hj) (by omega) (gTk ts i).af.length (Nat.le_refl _)
    have hd := e.d
    have hm := mx_ge (est ts i).2 (stK ts (est ts i).1 (gTk ts i).af (gTk ts i).af.length + (gTk ts i).dy)
    simp only [est]
    generalize stK ts (est ts i).1 (gTk ts i).af (gTk ts i).af.length = s at *
    refine ⟨fun j hj => ?_, fun j hj => ?_, by omega, by omega⟩
    · by_cases hji : j < i
      · rw [gi_append_left _ _ _ (by omega)]
        have := h1 j hji
        omega
      · have : j = i := by omega
        subst this
        rw [gi_append_right _ _ _ (by omega), hl, Nat.sub_self]
        simp only [gi, List.getD_cons_zero]
        omega
    · by_cases hji : j < i
      · rw [gi_append_left _ _ _ (by omega)]
        have := h2 j hji
        omega
      · have : j = i := by omega
        subst this
        rw [gi_append_right _ _ _ (by omega), hl, Nat.sub_self]
        simp only [gi, List.getD_cons_zero]
        omega
set_option maxHeartbeats 1000000 in
theorem earliest_ok (ts : List Tk) (X : TkX ts) : ACalls Tryd.prog 29 [.sl ts.length (cTk ts)] [] (fun r o => r = .tup [.ref 0 0 ts.length, I (est ts ts.length).2] ∧ o = [oI (est ts ts.length).1]) := by
  refine ACalls.of_vc Tryd.func29 rfl (by decide) 51 rfl [.tmp 2, .tmp 3] rfl (by simp) ?_
  have hn := X.n
  unfold oI
  (repeat (first | simp (maxSteps := 2000000) (disch := omega) only [go_sem, ↓reduceIte, Nat.reduceEqDiff, Nat.reduceAdd, Nat.reduceMul, Nat.reduceSub, Int.reduceToNat, Int.reduceAdd, Int.reduceSub, Int.reduceMul, Int.reduceNeg] | with_reducible refine vIf_t ?_ | with_reducible refine vIf_f ?_))
  refine vcLoop_invF (fun i : Nat => i ≤ ts.length) (fun i => ⟨51, 0, [(0, .sl ts.length (cTk ts)), (4, .ref 0 0 i), (14, I i), (5, I (est ts i).2), (12, .sl ts.length (cTk ts)), (13, I ts.length)], [some ⟨1, ints (est ts i).1⟩]⟩) (fun i => ts.length - i) 0 (by omega) (by simp only [est]; (first | (refine leF_s ?_; ((repeat (first | simp (maxSteps := 2000000) (disch := omega) only [go_sem, ↓reduceIte, Nat.reduceEqDiff, Nat.reduceAdd, Nat.reduceMul, Nat.reduceSub, Int.reduceToNat, Int.reduceAdd, Int.reduceSub, Int.reduceMul, Int.reduceNeg] | with_reducible refine vIf_t ?_ | with_reducible refine vIf_f ?_)); all_goals (try simp); all_goals (try omega)); done) | (refine leF_p ?_; ((repeat (first | simp (maxSteps := 2000000) (disch := omega) only [go_sem, ↓reduceIte, Nat.reduceEqDiff, Nat.reduceAdd, Nat.reduceMul, Nat.reduceSub, Int.reduceToNat, Int.reduceAdd, Int.reduceSub, Int.reduceMul, Int.reduceNeg] | with_reducible refine vIf_t ?_ | with_reducible refine vIf_f ?_)); all_goals (try simp); all_goals (try omega)); done))) ?_
  intro i hi
  have hl := est_len ts i
  obtain ⟨b1, b2, b3, b4⟩ := est_bd ts X i hi
  (repeat (first | simp (maxSteps := 2000000) (disch := omega) only [go_sem, ↓reduceIte, Nat.reduceEqDiff, Nat.reduceAdd, Nat.reduceMul, Nat.reduceSub, Int.reduceToNat, Int.reduceAdd, Int.reduceSub, Int.reduceMul, Int.reduceNeg] | with_reducible refine vIf_t ?_ | with_reducible refine vIf_f ?_))
  refine vIf_dec (fun h => ?_) (fun h => ?_)
  · have hil : i < ts.length := by omega
    have e := X.e i hil
    have hd := e.d
    have hk0 := fun k hk => stK_bd ts X (est ts i).1 (gTk ts i).af (1000 * i) (fun j hj => b1 j (by omega)) (by omega) (fun j hj => by rw [hl]; exact af_in e j hj) (by omega) k hk
    have ha := fun j hj => af_in e j hj
    have en := e.n
    have e2 : (est ts (i + 1)) = ((est ts i).1 ++ [stK ts (est ts i).1 (gTk ts i).af (gTk ts i).af.length], mx (est ts i).2 (stK ts (est ts i).1 (gTk ts i).af (gTk ts i).af.length + (gTk ts i).dy)) := rfl
    generalize hes : est ts i = p at *
    obtain ⟨ss, tot⟩ := p
    simp only at *
    generalize hz : (gTk ts i).af = az at hk0 ha en e2
    (repeat (first | simp (maxSteps := 2000000) (disch := omega) only [go_sem, ↓reduceIte, Nat.reduceEqDiff, Nat.reduceAdd, Nat.reduceMul, Nat.reduceSub, Int.reduceToNat, Int.reduceAdd, Int.reduceSub, Int.reduceMul, Int.reduceNeg, hz] | with_reducible refine vIf_t ?_ | with_reducible refine vIf_f ?_))
    refine vcLoop_invF (fun k : Nat => k ≤ az.length) (fun k => ⟨51, 0, [(21, I k), (0, .sl ts.length (cTk ts)), (4, .ref 0 0 i), (8, I (stK ts ss az k)), (19, .sl az.length (ints az)), (12, .sl ts.length (cTk ts)), (13, I ts.length), (14, I i), (7, .ptr 1 0), (5, I tot), (20, I az.length)], [some ⟨1, ints ss⟩, some ⟨4, [I (gTk ts i).dy, I (gTk ts i).co, I (gTk ts i).cl, .sl az.length (ints az)]⟩]⟩) (fun k => az.length - k) 0 (by omega) (by simp only [stK]; (first | (refine leF_s ?_; ((repeat (first | simp (maxSteps := 2000000) (disch := omega) only [go_sem, ↓reduceIte, Nat.reduceEqDiff, Nat.reduceAdd, Nat.reduceMul, Nat.reduceSub, Int.reduceToNat, Int.reduceAdd, Int.reduceSub, Int.reduceMul, Int.reduceNeg] | with_reducible refine vIf_t ?_ | with_reducible refine vIf_f ?_)); all_goals (try simp); all_goals (try omega)); done) | (refine leF_p ?_; ((repeat (first | simp (maxSteps := 2000000) (disch := omega) only [go_sem, ↓reduceIte, Nat.reduceEqDiff, Nat.reduceAdd, Nat.reduceMul, Nat.reduceSub, Int.reduceToNat, Int.reduceAdd, Int.reduceSub, Int.reduceMul, Int.reduceNeg] | with_reducible refine vIf_t ?_ | with_reducible refine vIf_f ?_)); all_goals (try simp); all_goals (try omega)); done))) ?_
    intro k hk
    have hkb := hk0 k hk
    (repeat (first | simp (maxSteps := 2000000) (disch := omega) only [go_sem, ↓reduceIte, Nat.reduceEqDiff, Nat.reduceAdd, Nat.reduceMul, Nat.reduceSub, Int.reduceToNat, Int.reduceAdd, Int.reduceSub, Int.reduceMul, Int.reduceNeg] | with_reducible refine vIf_t ?_ | with_reducible refine vIf_f ?_))
    refine vIf_dec (fun h2 => ?_) (fun h2 => ?_)
    · have hkl : k < az.length := by omega
      have hak := ha k hkl
      have hsk := b1 (gi az k).toNat (by omega)
      have hdk := (X.e (gi az k).toNat (by omega)).d
      have hlt : (gi az k).toNat < ss.length := by omega
      have hlt2 : (gi az k).toNat < ts.length := by omega
      have e3 : stK ts ss az (k + 1) = mx (stK ts ss az k) (gi ss (gi az k).toNat + (gTk ts (gi az k).toNat).dy) := rfl
      (repeat (first | simp (maxSteps := 2000000) (disch := omega) only [go_sem, ↓reduceIte, Nat.reduceEqDiff, Nat.reduceAdd, Nat.reduceMul, Nat.reduceSub, Int.reduceToNat, Int.reduceAdd, Int.reduceSub, Int.reduceMul, Int.reduceNeg] | with_reducible refine vIf_t ?_ | with_reducible refine vIf_f ?_))
      (refine vDraw_sch 11 [(0, false), (1, false), (2, false), (3, false), (5, false), (6, false), (7, false), (8, false), (4, false), (9, true), (10, false)] mixed (by kernel_rfl) ?_; simp only [List.cons_append, List.nil_append, List.map_cons, List.map_nil, nthO_zero, nthO_succ, List.drop_succ_cons, List.drop_zero, List.drop_nil]; (repeat (first | simp (maxSteps := 2000000) (disch := omega) only [go_sem, ↓reduceIte, Nat.reduceEqDiff, Nat.reduceAdd, Nat.reduceMul, Nat.reduceSub, Int.reduceToNat, Int.reduceAdd, Int.reduceSub, Int.reduceMul, Int.reduceNeg] | with_reducible refine vIf_t ?_ | with_reducible refine vIf_f ?_)))
      refine againF (k + 1) (by omega) (by omega) (by rw [e3]; unfold mx; (first | (refine leF_s ?_; ((repeat (first | simp (maxSteps := 2000000) (disch := omega) only [go_sem, ↓reduceIte, Nat.reduceEqDiff, Nat.reduceAdd, Nat.reduceMul, Nat.reduceSub, Int.reduceToNat, Int.reduceAdd, Int.reduceSub, Int.reduceMul, Int.reduceNeg] | with_reducible refine vIf_t ?_ | with_reducible refine vIf_f ?_)); all_goals (try simp); all_goals (try omega)); done) | (refine leF_p ?_; ((repeat (first | simp (maxSteps := 2000000) (disch := omega) only [go_sem, ↓reduceIte, Nat.reduceEqDiff, Nat.reduceAdd, Nat.reduceMul, Nat.reduceSub, Int.reduceToNat, Int.reduceAdd, Int.reduceSub, Int.reduceMul, Int.reduceNeg] | with_reducible refine vIf_t ?_ | with_reducible refine vIf_f ?_)); all_goals (try simp); all_goals (try omega)); done)))
    · have ek : k = az.length := by omega
      subst ek
      (repeat (first | simp (maxSteps := 2000000) (disch := omega) only [go_sem, ↓reduceIte, Nat.reduceEqDiff, Nat.reduceAdd, Nat.reduceMul, Nat.reduceSub, Int.reduceToNat, Int.reduceAdd, Int.reduceSub, Int.reduceMul, Int.reduceNeg] | with_reducible refine vIf_t ?_ | with_reducible refine vIf_f ?_))
      refine againF (i + 1) (by omega) (by omega) (by rw [e2]; unfold mx; (first | (refine leF_s ?_; ((repeat (first | simp (maxSteps := 2000000) (disch := omega) only [go_sem, ↓reduceIte, Nat.reduceEqDiff, Nat.reduceAdd, Nat.reduceMul, Nat.reduceSub, Int.reduceToNat, Int.reduceAdd, Int.reduceSub, Int.reduceMul, Int.reduceNeg] | with_reducible refine vIf_t ?_ | with_reducible refine vIf_f ?_)); all_goals (try simp); all_goals (try omega)); done) | (refine leF_p ?_; ((repeat (first | simp (maxSteps := 2000000) (disch := omega) only [go_sem, ↓reduceIte, Nat.reduceEqDiff, Nat.reduceAdd, Nat.reduceMul, Nat.reduceSub, Int.reduceToNat, Int.reduceAdd, Int.reduceSub, Int.reduceMul, Int.reduceNeg] | with_reducible refine vIf_t ?_ | with_reducible refine vIf_f ?_)); all_goals (try simp); all_goals (try omega)); done)))
  · have ei : i = ts.length := by omega
    subst ei
    (repeat (first | simp (maxSteps := 2000000) (disch := omega) only [go_sem, ↓reduceIte, Nat.reduceEqDiff, Nat.reduceAdd, Nat.reduceMul, Nat.reduceSub, Int.reduceToNat, Int.reduceAdd, Int.reduceSub, Int.reduceMul, Int.reduceNeg] | with_reducible refine vIf_t ?_ | with_reducible refine vIf_f ?_))
    (refine retK_of ?_; (repeat (first | simp (maxSteps := 2000000) (disch := omega) only [go_sem, ↓reduceIte, Nat.reduceEqDiff, Nat.reduceAdd, Nat.reduceMul, Nat.reduceSub, Int.reduceToNat, Int.reduceAdd, Int.reduceSub, Int.reduceMul, Int.reduceNeg] | with_reducible refine vIf_t ?_ | with_reducible refine vIf_f ?_)))
/-- clay on a day -/
def clK (ts : List Tk) (ss : List Int) (d : Int) : Nat → Int
  | 0 => 0
  | i + 1 => clK ts ss d i + if gi ss i ≤ d ∧ d ≤ gi ss i + (gTk ts i).dy - 1 then (gTk ts i).cl else 0
theorem clK_bd {ts : List Tk} (X : TkX ts) (ss : List Int) (d : Int) : ∀ i, i ≤ ts.length → 0 ≤ clK ts ss d i ∧ clK ts ss d i ≤ 10000 * i
  | 0, _ => by simp [clK]
  | i + 1, hi => by
    have ih := clK_bd X ss d i (by omega)
    have := (X.e i (by omega)).y
    simp only [clK]
    split <;> omega
theorem clayOn1_ok (ts : List Tk) (X : TkX ts) (ss : List Int) (d : Int) (hs : ss.length = ts.length) (hb : ∀ j, j < ts.length → 0 ≤ gi ss j ∧ gi ss j ≤ 1000000) : ACalls Tryd.prog 30 [.sl ts.length (cTk ts), .sl ts.length (ints ss), I d] [] (fun r o => r = I (clK ts ss d ts.length) ∧ o = []) := by
  refine ACalls.of_vc Tryd.func30 rfl (by decide) 37 rfl [.tmp 6] rfl (by simp) ?_
  have hn := X.n
  (repeat (first | simp (maxSteps := 2000000) (disch := omega) only [go_sem, ↓reduceIte, Nat.reduceEqDiff, Nat.reduceAdd, Nat.reduceMul, Nat.reduceSub, Int.reduceToNat, Int.reduceAdd, Int.reduceSub, Int.reduceMul, Int.reduceNeg] | with_reducible refine vIf_t ?_ | with_reducible refine vIf_f ?_))
  refine vcLoop_invF (fun i : Nat => i ≤ ts.length) (fun i => ⟨37, 0, [(12, I i), (7, I (clK ts ss d i)), (1, .sl ts.length (ints ss)), (2, I d), (10, .sl ts.length (cTk ts)), (11, I ts.length)], []⟩) (fun i => ts.length - i) 0 (by omega) (by simp only [clK]; (first | (refine leF_s ?_; ((repeat (first | simp (maxSteps := 2000000) (disch := omega) only [go_sem, ↓reduceIte, Nat.reduceEqDiff, Nat.reduceAdd, Nat.reduceMul, Nat.reduceSub, Int.reduceToNat, Int.reduceAdd, Int.reduceSub, Int.reduceMul, Int.reduceNeg] | with_reducible refine vIf_t ?_ | with_reducible refine vIf_f ?_)); all_goals (try simp); all_goals (try omega)); done) | (refine leF_p ?_; ((repeat (first | simp (maxSteps := 2000000) (disch := omega) only [go_sem, ↓reduceIte, Nat.reduceEqDiff, Nat.reduceAdd, Nat.reduceMul, Nat.reduceSub, Int.reduceToNat, Int.reduceAdd, Int.reduceSub, Int.reduceMul, Int.reduceNeg] | with_reducible refine vIf_t ?_ | with_reducible refine vIf_f ?_)); all_goals (try simp); all_goals (try omega)); done))) ?_
  intro i hi
  have hcb := clK_bd X ss d i hi
  (repeat (first | simp (maxSteps := 2000000) (disch := omega) only [go_sem, ↓reduceIte, Nat.reduceEqDiff, Nat.reduceAdd, Nat.reduceMul, Nat.reduceSub, Int.reduceToNat, Int.reduceAdd, Int.reduceSub, Int.reduceMul, Int.reduceNeg] | with_reducible refine vIf_t ?_ | with_reducible refine vIf_f ?_))
  refine vIf_dec (fun h => ?_) (fun h => ?_)
  · have hil : i < ts.length := by omega
    have e := X.e i hil
    have hd := e.d
    have hy := e.y
    have hsi := hb i hil
    have hin := in_ok d (gi ss i) (gi ss i + (gTk ts i).dy - 1)
    have e3 : clK ts ss d (i + 1) = clK ts ss d i + if gi ss i ≤ d ∧ d ≤ gi ss i + (gTk ts i).dy - 1 then (gTk ts i).cl else 0 := rfl
    (repeat (first | simp (maxSteps := 2000000) (disch := omega) only [go_sem, ↓reduceIte, Nat.reduceEqDiff, Nat.reduceAdd, Nat.reduceMul, Nat.reduceSub, Int.reduceToNat, Int.reduceAdd, Int.reduceSub, Int.reduceMul, Int.reduceNeg] | with_reducible refine vIf_t ?_ | with_reducible refine vIf_f ?_))
    (refine vDraw_sch 13 [(0, false), (1, false), (2, false), (3, false), (5, false), (6, false), (7, false), (9, false), (4, false), (8, false), (10, true), (11, false), (12, false)] mixed (by kernel_rfl) ?_; simp only [List.cons_append, List.nil_append, List.map_cons, List.map_nil, nthO_zero, nthO_succ, List.drop_succ_cons, List.drop_zero, List.drop_nil]; (repeat (first | simp (maxSteps := 2000000) (disch := omega) only [go_sem, ↓reduceIte, Nat.reduceEqDiff, Nat.reduceAdd, Nat.reduceMul, Nat.reduceSub, Int.reduceToNat, Int.reduceAdd, Int.reduceSub, Int.reduceMul, Int.reduceNeg] | with_reducible refine vIf_t ?_ | with_reducible refine vIf_f ?_)))
    (refine vCallX_of ?_; (repeat (first | simp (maxSteps := 2000000) (disch := omega) only [go_sem, ↓reduceIte, Nat.reduceEqDiff, Nat.reduceAdd, Nat.reduceMul, Nat.reduceSub, Int.reduceToNat, Int.reduceAdd, Int.reduceSub, Int.reduceMul, Int.reduceNeg] | with_reducible refine vIf_t ?_ | with_reducible refine vIf_f ?_)); refine vCall_eq (hin) (by simp (disch := omega) only [go_sem, Nat.reduceAdd]) rfl (by first | exact Or.inl rfl | exact Or.inr ⟨rfl, rfl⟩ | (apply Or.inr; simp only [go_sem])) ?_; (repeat (first | simp (maxSteps := 2000000) (disch := omega) only [go_sem, ↓reduceIte, Nat.reduceEqDiff, Nat.reduceAdd, Nat.reduceMul, Nat.reduceSub, Int.reduceToNat, Int.reduceAdd, Int.reduceSub, Int.reduceMul, Int.reduceNeg] | with_reducible refine vIf_t ?_ | with_reducible refine vIf_f ?_)))
    refine vIf_dec (fun h2 => ?_) (fun h2 => ?_)
    · rw [if_pos h2] at e3
      (repeat (first | simp (maxSteps := 2000000) (disch := omega) only [go_sem, ↓reduceIte, Nat.reduceEqDiff, Nat.reduceAdd, Nat.reduceMul, Nat.reduceSub, Int.reduceToNat, Int.reduceAdd, Int.reduceSub, Int.reduceMul, Int.reduceNeg] | with_reducible refine vIf_t ?_ | with_reducible refine vIf_f ?_))
      refine againF (i + 1) (by omega) (by omega) (by rw [e3]; (first | (refine leF_s ?_; ((repeat (first | simp (maxSteps := 2000000) (disch := omega) only [go_sem, ↓reduceIte, Nat.reduceEqDiff, Nat.reduceAdd, Nat.reduceMul, Nat.reduceSub, Int.reduceToNat, Int.reduceAdd, Int.reduceSub, Int.reduceMul, Int.reduceNeg] | with_reducible refine vIf_t ?_ | with_reducible refine vIf_f ?_)); all_goals (try simp); all_goals (try omega)); done) | (refine leF_p ?_; ((repeat (first | simp (maxSteps := 2000000) (disch := omega) only [go_sem, ↓reduceIte, Nat.reduceEqDiff, Nat.reduceAdd, Nat.reduceMul, Nat.reduceSub, Int.reduceToNat, Int.reduceAdd, Int.reduceSub, Int.reduceMul, Int.reduceNeg] | with_reducible refine vIf_t ?_ | with_reducible refine vIf_f ?_)); all_goals (try simp); all_goals (try omega)); done)))
    · rw [if_neg h2] at e3
      (repeat (first | simp (maxSteps := 2000000) (disch := omega) only [go_sem, ↓reduceIte, Nat.reduceEqDiff, Nat.reduceAdd, Nat.reduceMul, Nat.reduceSub, Int.reduceToNat, Int.reduceAdd, Int.reduceSub, Int.reduceMul, Int.reduceNeg] | with_reducible refine vIf_t ?_ | with_reducible refine vIf_f ?_))
      refine againF (i + 1) (by omega) (by omega) (by rw [e3]; (first | (refine leF_s ?_; ((repeat (first | simp (maxSteps := 2000000) (disch := omega) only [go_sem, ↓reduceIte, Nat.reduceEqDiff, Nat.reduceAdd, Nat.reduceMul, Nat.reduceSub, Int.reduceToNat, Int.reduceAdd, Int.reduceSub, Int.reduceMul, Int.reduceNeg] | with_reducible refine vIf_t ?_ | with_reducible refine vIf_f ?_)); all_goals (try simp); all_goals (try omega)); done) | (refine leF_p ?_; ((repeat (first | simp (maxSteps := 2000000) (disch := omega) only [go_sem, ↓reduceIte, Nat.reduceEqDiff, Nat.reduceAdd, Nat.reduceMul, Nat.reduceSub, Int.reduceToNat, Int.reduceAdd, Int.reduceSub, Int.reduceMul, Int.reduceNeg] | with_reducible refine vIf_t ?_ | with_reducible refine vIf_f ?_)); all_goals (try simp); all_goals (try omega)); done)))
  · have ei : i = ts.length := by omega
    subst ei
    (repeat (first | simp (maxSteps := 2000000) (disch := omega) only [go_sem, ↓reduceIte, Nat.reduceEqDiff, Nat.reduceAdd, Nat.reduceMul, Nat.reduceSub, Int.reduceToNat, Int.reduceAdd, Int.reduceSub, Int.reduceMul, Int.reduceNeg] | with_reducible refine vIf_t ?_ | with_reducible refine vIf_f ?_))
    (refine retK_of ?_; (repeat (first | simp (maxSteps := 2000000) (disch := omega) only [go_sem, ↓reduceIte, Nat.reduceEqDiff, Nat.reduceAdd, Nat.reduceMul, Nat.reduceSub, Int.reduceToNat, Int.reduceAdd, Int.reduceSub, Int.reduceMul, Int.reduceNeg] | with_reducible refine vIf_t ?_ | with_reducible refine vIf_f ?_)))
/-- clay on a day -/
def clD (ts : List Tk) (d : Int) : Int := clK ts (est ts ts.length).1 d ts.length
theorem clayOn_ok (ts : List Tk) (X : TkX ts) (d : Int) (hd : 0 ≤ d ∧ d ≤ 100000) : ACalls Tryd.prog 14 [.sl ts.length (cTk ts), I d] [] (fun r o => r = .tup [I (clD ts d), I 0] ∧ o = []) := by
  refine ACalls.of_vc Tryd.func14 rfl (by decide) 24 rfl [.tmp 4, .tmp 5] rfl (by simp) ?_
  have hl := est_len ts ts.length
  obtain ⟨b1, b2, b3, b4⟩ := est_bd ts X ts.length (Nat.le_refl _)
  have hn := X.n
  have h1 := dayCode_ok ts X d hd
  have h2 := earliest_ok ts X
  have h3 := clayOn1_ok ts X (est ts ts.length).1 d hl (fun j hj => by have := b1 j hj; omega)
  unfold oI at h2
  unfold clD
  generalize est ts ts.length = p at *
  (repeat (first | simp (maxSteps := 2000000) (disch := omega) only [go_sem, ↓reduceIte, Nat.reduceEqDiff, Nat.reduceAdd, Nat.reduceMul, Nat.reduceSub, Int.reduceToNat, Int.reduceAdd, Int.reduceSub, Int.reduceMul, Int.reduceNeg] | with_reducible refine vIf_t ?_ | with_reducible refine vIf_f ?_))
  (refine vCallX_of ?_; (repeat (first | simp (maxSteps := 2000000) (disch := omega) only [go_sem, ↓reduceIte, Nat.reduceEqDiff, Nat.reduceAdd, Nat.reduceMul, Nat.reduceSub, Int.reduceToNat, Int.reduceAdd, Int.reduceSub, Int.reduceMul, Int.reduceNeg] | with_reducible refine vIf_t ?_ | with_reducible refine vIf_f ?_)); refine vCall_eq (h1) (by simp (disch := omega) only [go_sem, Nat.reduceAdd]) rfl (by first | exact Or.inl rfl | exact Or.inr ⟨rfl, rfl⟩ | (apply Or.inr; simp only [go_sem])) ?_; (repeat (first | simp (maxSteps := 2000000) (disch := omega) only [go_sem, ↓reduceIte, Nat.reduceEqDiff, Nat.reduceAdd, Nat.reduceMul, Nat.reduceSub, Int.reduceToNat, Int.reduceAdd, Int.reduceSub, Int.reduceMul, Int.reduceNeg] | with_reducible refine vIf_t ?_ | with_reducible refine vIf_f ?_)))
  (refine vCallX_of ?_; (repeat (first | simp (maxSteps := 2000000) (disch := omega) only [go_sem, ↓reduceIte, Nat.reduceEqDiff, Nat.reduceAdd, Nat.reduceMul, Nat.reduceSub, Int.reduceToNat, Int.reduceAdd, Int.reduceSub, Int.reduceMul, Int.reduceNeg] | with_reducible refine vIf_t ?_ | with_reducible refine vIf_f ?_)); refine vCall_eq (h2) (by simp (disch := omega) only [go_sem, Nat.reduceAdd]) rfl (by first | exact Or.inl rfl | exact Or.inr ⟨rfl, rfl⟩ | (apply Or.inr; simp only [go_sem])) ?_; (repeat (first | simp (maxSteps := 2000000) (disch := omega) only [go_sem, ↓reduceIte, Nat.reduceEqDiff, Nat.reduceAdd, Nat.reduceMul, Nat.reduceSub, Int.reduceToNat, Int.reduceAdd, Int.reduceSub, Int.reduceMul, Int.reduceNeg] | with_reducible refine vIf_t ?_ | with_reducible refine vIf_f ?_)))
  (refine vCallX_of ?_; (repeat (first | simp (maxSteps := 2000000) (disch := omega) only [go_sem, ↓reduceIte, Nat.reduceEqDiff, Nat.reduceAdd, Nat.reduceMul, Nat.reduceSub, Int.reduceToNat, Int.reduceAdd, Int.reduceSub, Int.reduceMul, Int.reduceNeg] | with_reducible refine vIf_t ?_ | with_reducible refine vIf_f ?_)); refine vCall_eq (h3) (by simp (disch := omega) only [go_sem, Nat.reduceAdd]) rfl (by first | exact Or.inl rfl | exact Or.inr ⟨rfl, rfl⟩ | (apply Or.inr; simp only [go_sem])) ?_; (repeat (first | simp (maxSteps := 2000000) (disch := omega) only [go_sem, ↓reduceIte, Nat.reduceEqDiff, Nat.reduceAdd, Nat.reduceMul, Nat.reduceSub, Int.reduceToNat, Int.reduceAdd, Int.reduceSub, Int.reduceMul, Int.reduceNeg] | with_reducible refine vIf_t ?_ | with_reducible refine vIf_f ?_)))
  (refine retK_of ?_; (repeat (first | simp (maxSteps := 2000000) (disch := omega) only [go_sem, ↓reduceIte, Nat.reduceEqDiff, Nat.reduceAdd, Nat.reduceMul, Nat.reduceSub, Int.reduceToNat, Int.reduceAdd, Int.reduceSub, Int.reduceMul, Int.reduceNeg] | with_reducible refine vIf_t ?_ | with_reducible refine vIf_f ?_)))
/-- the first day with most clay, of the first k days -/
def mcK (ts : List Tk) : Nat → Int × Int
  | 0 => (0, -1)
  | k + 1 => if (mcK ts k).2 < clD ts k then ((k : Int), clD ts k) else mcK ts k
theorem mcK_ok (ts : List Tk) (X : TkX ts) : ∀ k, (k = 0 ∧ mcK ts k = (0, -1)) ∨ (0 < k ∧ 0 ≤ (mcK ts k).1 ∧ (mcK ts k).1 < k ∧ clD ts (mcK ts k).1 = (mcK ts k).2 ∧ ∀ j : Nat, j < k → clD ts j ≤ (mcK ts k).2)
  | 0 => .inl ⟨rfl, rfl⟩
  | k + 1 => by
    have ih := mcK_ok ts X k
    have hb := clK_bd X (est ts ts.length).1 k ts.length (Nat.le_refl _)
    rw [show clK ts (est ts ts.length).1 k ts.length = clD ts k from rfl] at hb
    refine .inr ⟨by omega, ?_⟩
    simp only [mcK]
    split
    · rename_i h
      refine ⟨by simp only; omega, by simp only; omega, rfl, fun j hj => ?_⟩
      simp only
      by_cases e : j < k
      · rcases ih with ⟨h1, h2⟩ | ⟨h1, h2, h3, h4, h5⟩
        · omega
        · have := h5 j e; omega
      · have : j = k := by omega
        subst this; omega
    · rename_i h
      rcases ih with ⟨h1, h2⟩ | ⟨h1, h2, h3, h4, h5⟩
      · rw [h2] at h; simp only at h; omega
      · refine ⟨h2, by omega, h4, fun j hj => ?_⟩
        by_cases e : j < k
        · exact h5 j e
        · have : j = k := by omega
          subst this; omega
theorem clK_late (ts : List Tk) (ss : List Int) (d : Int) : ∀ i, (∀ j, j < i → gi ss j + (gTk ts j).dy ≤ d) → clK ts ss d i = 0
  | 0, _ => rfl
  | i + 1, h => by
    have ih := clK_late ts ss d i (fun j hj => h j (by omega))
    have := h i (by omega)
    simp only [clK, ih]
    rw [if_neg (by omega)]; omega
theorem mostClay_ok (ts : List Tk) (X : TkX ts) (h1 : 1 ≤ ts.length) : ACalls Tryd.prog 13 [.sl ts.length (cTk ts)] [] (fun r o => ∃ b m : Int, r = .tup [I b, I m, I 0] ∧ o = [] ∧ 0 ≤ b ∧ b ≤ 100000 ∧ clD ts b = m ∧ ∀ d : Int, 0 ≤ d → clD ts d ≤ m) := by
  refine ACalls.of_vc Tryd.func13 rfl (by decide) 40 rfl [.tmp 2, .tmp 3, .tmp 4] rfl (by simp) ?_
  have hl := est_len ts ts.length
  obtain ⟨b1, b2, b3, b4⟩ := est_bd ts X ts.length (Nat.le_refl _)
  have hn := X.n
  have hT : 1 ≤ (est ts ts.length).2 := by have := b2 0 (by omega); have := b1 0 (by omega); have := (X.e 0 (by omega)).d; omega
  have hb := fun d => clK_bd X (est ts ts.length).1 d ts.length (Nat.le_refl _)
  have q1 := validTk_ok ts X
  have q2 := earliest_ok ts X
  have q3 := fun d => clayOn1_ok ts X (est ts ts.length).1 d hl (fun j hj => by have := b1 j hj; omega)
  have hlate := fun d h => clK_late ts (est ts ts.length).1 d ts.length h
  have hfin := mcK_ok ts X
  have hcl : ∀ d, clK ts (est ts ts.length).1 d ts.length = clD ts d := fun _ => rfl
  have h0 : ((ts.length : Int) == 0) = false := by rw [beq_eq_false_iff_ne]; omega
  simp only [hcl] at *
  unfold oI at q2
  generalize est ts ts.length = p at *
  (repeat (first | simp (maxSteps := 2000000) (disch := omega) only [go_sem, ↓reduceIte, Nat.reduceEqDiff, Nat.reduceAdd, Nat.reduceMul, Nat.reduceSub, Int.reduceToNat, Int.reduceAdd, Int.reduceSub, Int.reduceMul, Int.reduceNeg] | with_reducible refine vIf_t ?_ | with_reducible refine vIf_f ?_))
  (refine vCallX_of ?_; (repeat (first | simp (maxSteps := 2000000) (disch := omega) only [go_sem, ↓reduceIte, Nat.reduceEqDiff, Nat.reduceAdd, Nat.reduceMul, Nat.reduceSub, Int.reduceToNat, Int.reduceAdd, Int.reduceSub, Int.reduceMul, Int.reduceNeg] | with_reducible refine vIf_t ?_ | with_reducible refine vIf_f ?_)); refine vCall_eq (q1) (by simp (disch := omega) only [go_sem, Nat.reduceAdd]) rfl (by first | exact Or.inl rfl | exact Or.inr ⟨rfl, rfl⟩ | (apply Or.inr; simp only [go_sem])) ?_; (repeat (first | simp (maxSteps := 2000000) (disch := omega) only [go_sem, ↓reduceIte, Nat.reduceEqDiff, Nat.reduceAdd, Nat.reduceMul, Nat.reduceSub, Int.reduceToNat, Int.reduceAdd, Int.reduceSub, Int.reduceMul, Int.reduceNeg] | with_reducible refine vIf_t ?_ | with_reducible refine vIf_f ?_)))
  (repeat (first | simp (maxSteps := 2000000) (disch := omega) only [go_sem, ↓reduceIte, Nat.reduceEqDiff, Nat.reduceAdd, Nat.reduceMul, Nat.reduceSub, Int.reduceToNat, Int.reduceAdd, Int.reduceSub, Int.reduceMul, Int.reduceNeg, h0] | with_reducible refine vIf_t ?_ | with_reducible refine vIf_f ?_))
  (refine vCallX_of ?_; (repeat (first | simp (maxSteps := 2000000) (disch := omega) only [go_sem, ↓reduceIte, Nat.reduceEqDiff, Nat.reduceAdd, Nat.reduceMul, Nat.reduceSub, Int.reduceToNat, Int.reduceAdd, Int.reduceSub, Int.reduceMul, Int.reduceNeg] | with_reducible refine vIf_t ?_ | with_reducible refine vIf_f ?_)); refine vCall_eq (q2) (by simp (disch := omega) only [go_sem, Nat.reduceAdd]) rfl (by first | exact Or.inl rfl | exact Or.inr ⟨rfl, rfl⟩ | (apply Or.inr; simp only [go_sem])) ?_; (repeat (first | simp (maxSteps := 2000000) (disch := omega) only [go_sem, ↓reduceIte, Nat.reduceEqDiff, Nat.reduceAdd, Nat.reduceMul, Nat.reduceSub, Int.reduceToNat, Int.reduceAdd, Int.reduceSub, Int.reduceMul, Int.reduceNeg] | with_reducible refine vIf_t ?_ | with_reducible refine vIf_f ?_)))
  have hT2 : ∃ T : Nat, p.2 = (T : Int) := ⟨p.2.toNat, by omega⟩
  obtain ⟨T, eT⟩ := hT2
  rw [eT]
  have hTb : T ≤ 9000 := by omega
  refine vcLoop_invF (fun k : Nat => k ≤ T) (fun k => ⟨40, 0, [(9, I k), (8, I (mcK ts k).2), (5, .ref 0 0 ts.length), (0, .sl ts.length (cTk ts)), (7, I (mcK ts k).1), (6, I T)], [some ⟨1, ints p.1⟩]⟩) (fun k => T - k) 0 (by omega) (by simp only [mcK]; (first | (refine leF_s ?_; ((repeat (first | simp (maxSteps := 2000000) (disch := omega) only [go_sem, ↓reduceIte, Nat.reduceEqDiff, Nat.reduceAdd, Nat.reduceMul, Nat.reduceSub, Int.reduceToNat, Int.reduceAdd, Int.reduceSub, Int.reduceMul, Int.reduceNeg] | with_reducible refine vIf_t ?_ | with_reducible refine vIf_f ?_)); all_goals (try simp); all_goals (try omega)); done) | (refine leF_p ?_; ((repeat (first | simp (maxSteps := 2000000) (disch := omega) only [go_sem, ↓reduceIte, Nat.reduceEqDiff, Nat.reduceAdd, Nat.reduceMul, Nat.reduceSub, Int.reduceToNat, Int.reduceAdd, Int.reduceSub, Int.reduceMul, Int.reduceNeg] | with_reducible refine vIf_t ?_ | with_reducible refine vIf_f ?_)); all_goals (try simp); all_goals (try omega)); done))) ?_
  intro k hk
  (repeat (first | simp (maxSteps := 2000000) (disch := omega) only [go_sem, ↓reduceIte, Nat.reduceEqDiff, Nat.reduceAdd, Nat.reduceMul, Nat.reduceSub, Int.reduceToNat, Int.reduceAdd, Int.reduceSub, Int.reduceMul, Int.reduceNeg] | with_reducible refine vIf_t ?_ | with_reducible refine vIf_f ?_))
  refine vIf_dec (fun h => ?_) (fun h => ?_)
  · (repeat (first | simp (maxSteps := 2000000) (disch := omega) only [go_sem, ↓reduceIte, Nat.reduceEqDiff, Nat.reduceAdd, Nat.reduceMul, Nat.reduceSub, Int.reduceToNat, Int.reduceAdd, Int.reduceSub, Int.reduceMul, Int.reduceNeg] | with_reducible refine vIf_t ?_ | with_reducible refine vIf_f ?_))
    (refine vCallX_of ?_; (repeat (first | simp (maxSteps := 2000000) (disch := omega) only [go_sem, ↓reduceIte, Nat.reduceEqDiff, Nat.reduceAdd, Nat.reduceMul, Nat.reduceSub, Int.reduceToNat, Int.reduceAdd, Int.reduceSub, Int.reduceMul, Int.reduceNeg] | with_reducible refine vIf_t ?_ | with_reducible refine vIf_f ?_)); refine vCall_eq (q3 k) (by simp (disch := omega) only [go_sem, Nat.reduceAdd]) rfl (by first | exact Or.inl rfl | exact Or.inr ⟨rfl, rfl⟩ | (apply Or.inr; simp only [go_sem])) ?_; (repeat (first | simp (maxSteps := 2000000) (disch := omega) only [go_sem, ↓reduceIte, Nat.reduceEqDiff, Nat.reduceAdd, Nat.reduceMul, Nat.reduceSub, Int.reduceToNat, Int.reduceAdd, Int.reduceSub, Int.reduceMul, Int.reduceNeg] | with_reducible refine vIf_t ?_ | with_reducible refine vIf_f ?_)))
    have e3 : mcK ts (k + 1) = if (mcK ts k).2 < clD ts k then ((k : Int), clD ts k) else mcK ts k := rfl
    refine vIf_dec (fun h2 => ?_) (fun h2 => ?_)
    · rw [if_pos h2] at e3
      (repeat (first | simp (maxSteps := 2000000) (disch := omega) only [go_sem, ↓reduceIte, Nat.reduceEqDiff, Nat.reduceAdd, Nat.reduceMul, Nat.reduceSub, Int.reduceToNat, Int.reduceAdd, Int.reduceSub, Int.reduceMul, Int.reduceNeg] | with_reducible refine vIf_t ?_ | with_reducible refine vIf_f ?_))
      refine againF (k + 1) (by omega) (by omega) (by rw [e3]; (first | (refine leF_s ?_; ((repeat (first | simp (maxSteps := 2000000) (disch := omega) only [go_sem, ↓reduceIte, Nat.reduceEqDiff, Nat.reduceAdd, Nat.reduceMul, Nat.reduceSub, Int.reduceToNat, Int.reduceAdd, Int.reduceSub, Int.reduceMul, Int.reduceNeg] | with_reducible refine vIf_t ?_ | with_reducible refine vIf_f ?_)); all_goals (try simp); all_goals (try omega)); done) | (refine leF_p ?_; ((repeat (first | simp (maxSteps := 2000000) (disch := omega) only [go_sem, ↓reduceIte, Nat.reduceEqDiff, Nat.reduceAdd, Nat.reduceMul, Nat.reduceSub, Int.reduceToNat, Int.reduceAdd, Int.reduceSub, Int.reduceMul, Int.reduceNeg] | with_reducible refine vIf_t ?_ | with_reducible refine vIf_f ?_)); all_goals (try simp); all_goals (try omega)); done)))
    · rw [if_neg h2] at e3
      (repeat (first | simp (maxSteps := 2000000) (disch := omega) only [go_sem, ↓reduceIte, Nat.reduceEqDiff, Nat.reduceAdd, Nat.reduceMul, Nat.reduceSub, Int.reduceToNat, Int.reduceAdd, Int.reduceSub, Int.reduceMul, Int.reduceNeg] | with_reducible refine vIf_t ?_ | with_reducible refine vIf_f ?_))
      refine againF (k + 1) (by omega) (by omega) (by rw [e3]; (first | (refine leF_s ?_; ((repeat (first | simp (maxSteps := 2000000) (disch := omega) only [go_sem, ↓reduceIte, Nat.reduceEqDiff, Nat.reduceAdd, Nat.reduceMul, Nat.reduceSub, Int.reduceToNat, Int.reduceAdd, Int.reduceSub, Int.reduceMul, Int.reduceNeg] | with_reducible refine vIf_t ?_ | with_reducible refine vIf_f ?_)); all_goals (try simp); all_goals (try omega)); done) | (refine leF_p ?_; ((repeat (first | simp (maxSteps := 2000000) (disch := omega) only [go_sem, ↓reduceIte, Nat.reduceEqDiff, Nat.reduceAdd, Nat.reduceMul, Nat.reduceSub, Int.reduceToNat, Int.reduceAdd, Int.reduceSub, Int.reduceMul, Int.reduceNeg] | with_reducible refine vIf_t ?_ | with_reducible refine vIf_f ?_)); all_goals (try simp); all_goals (try omega)); done)))
  · have ek : k = T := by omega
    subst ek
    (repeat (first | simp (maxSteps := 2000000) (disch := omega) only [go_sem, ↓reduceIte, Nat.reduceEqDiff, Nat.reduceAdd, Nat.reduceMul, Nat.reduceSub, Int.reduceToNat, Int.reduceAdd, Int.reduceSub, Int.reduceMul, Int.reduceNeg] | with_reducible refine vIf_t ?_ | with_reducible refine vIf_f ?_))
    (refine retK_of ?_; (repeat (first | simp (maxSteps := 2000000) (disch := omega) only [go_sem, ↓reduceIte, Nat.reduceEqDiff, Nat.reduceAdd, Nat.reduceMul, Nat.reduceSub, Int.reduceToNat, Int.reduceAdd, Int.reduceSub, Int.reduceMul, Int.reduceNeg] | with_reducible refine vIf_t ?_ | with_reducible refine vIf_f ?_)))
    rcases hfin k with ⟨g1, g2⟩ | ⟨g1, g2, g3, g4, g5⟩
    · omega
    refine ⟨_, _, rfl, g2, by omega, g4, fun d hd => ?_⟩
    by_cases hdk : d < k
    · have := g5 d.toNat (by omega)
      rwa [show ((d.toNat : Nat) : Int) = d by omega] at this
    · rw [hlate d (fun j hj => by have := b2 j hj; omega)]
      have := hb (mcK ts k).1
      omega
end Go.Proofs.YtkflbpojkccchaaDoor

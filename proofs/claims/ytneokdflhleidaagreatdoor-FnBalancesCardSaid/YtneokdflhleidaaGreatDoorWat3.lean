/- the water of days: volumes, the first day over, missing pumps -/
import Derived.Test.YtneokdflhleidaaGreatDoorWat2
import Derived.Test.YtneokdflhleidaaGreatDoorArgs
import Derived.Test.YtneokdflhleidaaGreatDoorCurve3
set_option linter.unusedVariables false
set_option linter.unusedSimpArgs false
namespace Go.Proofs.YtneokdflhleidaaGreatDoor
open Go.AG

/-- the first number below n of a kind -/
def fstN (n : Nat) (q : Nat → Bool) : Option Nat := (List.range n).find? q
theorem fstN_some {n k : Nat} {q : Nat → Bool} (hk : k < n) (hq : q k = true) (hn : ∀ j, j < k → q j = false) : fstN n q = some k := by
  unfold fstN
  rw [List.find?_range_eq_some]
  exact ⟨hq, by simpa using hk, fun j hj => by rw [hn j hj]; rfl⟩
theorem fstN_none {n : Nat} {q : Nat → Bool} (h : ∀ j, j < n → q j = false) : fstN n q = none := by
  unfold fstN
  rw [List.find?_range_eq_none]
  exact fun j hj => by rw [h j hj]; rfl
theorem fstN_of_none {n : Nat} {q : Nat → Bool} (h : fstN n q = none) (j : Nat) (hj : j < n) : q j = false := by
  unfold fstN at h
  rw [List.find?_range_eq_none] at h
  have := h j hj
  simpa using this

/-- the volume after k days -/
def vsK (s : Int) (ds : List Wt) : Nat → Int
  | 0 => s
  | k + 1 => vsK s ds k + wtN (gWt ds k)
def vlK (s : Int) (ds : List Wt) : Nat → List Int
  | 0 => []
  | k + 1 => vlK s ds k ++ [vsK s ds (k + 1)]
theorem vlK_len (s : Int) (ds : List Wt) (k : Nat) : (vlK s ds k).length = k := by
  induction k with
  | zero => rfl
  | succ k ih => simp [vlK, ih]
theorem vlK_get (s : Int) (ds : List Wt) (k j : Nat) (h : j < k) : gi (vlK s ds k) j = vsK s ds (j + 1) := by
  induction k with
  | zero => omega
  | succ k ih =>
    have hl := vlK_len s ds k
    simp only [vlK]
    by_cases e : j = k
    · subst e
      have := gi_append_right (vlK s ds j) [vsK s ds (j + 1)] j (by omega)
      rw [this, hl, Nat.sub_self]
      rfl
    · rw [gi_append_left _ _ _ (by omega)]
      exact ih (by omega)
theorem vsK_bd {s : Int} {ds : List Wt} (h : ds.all wtB = true) (k : Nat) (hk : k ≤ ds.length) : s - 30000000 * k ≤ vsK s ds k ∧ vsK s ds k ≤ s + 20000000 * k := by
  induction k with
  | zero => simp [vsK]
  | succ k ih =>
    have := ih (by omega)
    have := wtN_bd (wt_all h k (by omega))
    simp only [vsK]
    omega
set_option maxHeartbeats 1000000 in
theorem volumes_ok (s : Int) (ds : List Wt) (h : ds.all wtB = true) (hl : ds.length ≤ 100) (hs : -1 ≤ s ∧ s ≤ 1000000001) : ACalls Tryz.prog 79 [I s, .sl ds.length (cWt ds)] [] (fun r o => r = .ref 0 0 ds.length ∧ o = [oI (vlK s ds ds.length)]) := by
  refine ACalls.of_vc Tryz.func79 rfl (by decide) 25 rfl [.tmp 4] rfl (by simp) ?_
  (repeat (first | simp (maxSteps := 2000000) (disch := omega) only [go_sem, ↓reduceIte, Nat.reduceEqDiff, Nat.reduceAdd, Nat.reduceMul, Nat.reduceSub, Int.reduceToNat, Int.reduceAdd, Int.reduceSub, Int.reduceMul, Int.reduceNeg] | with_reducible refine vIf_t ?_ | with_reducible refine vIf_f ?_))
  refine vcLoop_invF (fun k : Nat => k ≤ ds.length) (fun k => ⟨25, 0, [(11, I k), (5, .ref 0 0 k), (0, I (vsK s ds k)), (9, .sl ds.length (cWt ds)), (10, I ds.length)], [oI (vlK s ds k)]⟩) (fun k => ds.length - k) 0 (by omega) (by simp only [vsK, vlK]; (first | (refine leF_s ?_; ((repeat (first | simp (maxSteps := 2000000) (disch := omega) only [go_sem, ↓reduceIte, Nat.reduceEqDiff, Nat.reduceAdd, Nat.reduceMul, Nat.reduceSub, Int.reduceToNat, Int.reduceAdd, Int.reduceSub, Int.reduceMul, Int.reduceNeg] | with_reducible refine vIf_t ?_ | with_reducible refine vIf_f ?_)); all_goals (try simp); all_goals (try omega)); done) | (refine leF_p ?_; ((repeat (first | simp (maxSteps := 2000000) (disch := omega) only [go_sem, ↓reduceIte, Nat.reduceEqDiff, Nat.reduceAdd, Nat.reduceMul, Nat.reduceSub, Int.reduceToNat, Int.reduceAdd, Int.reduceSub, Int.reduceMul, Int.reduceNeg] | with_reducible refine vIf_t ?_ | with_reducible refine vIf_f ?_)); all_goals (try simp); all_goals (try omega)); done))) ?_
  intro k hk
  have hlen := vlK_len s ds k
  (repeat (first | simp (maxSteps := 2000000) (disch := omega) only [go_sem, ↓reduceIte, Nat.reduceEqDiff, Nat.reduceAdd, Nat.reduceMul, Nat.reduceSub, Int.reduceToNat, Int.reduceAdd, Int.reduceSub, Int.reduceMul, Int.reduceNeg] | with_reducible refine vIf_t ?_ | with_reducible refine vIf_f ?_))
  refine vIf_dec (fun h2 => ?_) (fun h2 => ?_)
  · have hf := wt_all h k (by omega)
    have hn := net_ok (gWt ds k) hf
    have hb := vsK_bd (s := s) h k hk
    have hw := wtN_bd hf
    unfold Wt.cells at hn
    (repeat (first | simp (maxSteps := 2000000) (disch := omega) only [go_sem, ↓reduceIte, Nat.reduceEqDiff, Nat.reduceAdd, Nat.reduceMul, Nat.reduceSub, Int.reduceToNat, Int.reduceAdd, Int.reduceSub, Int.reduceMul, Int.reduceNeg] | with_reducible refine vIf_t ?_ | with_reducible refine vIf_f ?_))
    (refine vCallX_of ?_; (repeat (first | simp (maxSteps := 2000000) (disch := omega) only [go_sem, ↓reduceIte, Nat.reduceEqDiff, Nat.reduceAdd, Nat.reduceMul, Nat.reduceSub, Int.reduceToNat, Int.reduceAdd, Int.reduceSub, Int.reduceMul, Int.reduceNeg] | with_reducible refine vIf_t ?_ | with_reducible refine vIf_f ?_)); refine vCall_eq (hn) (by simp (disch := omega) only [go_sem, Nat.reduceAdd]) rfl (by first | exact Or.inl rfl | exact Or.inr ⟨rfl, rfl⟩ | (apply Or.inr; simp only [go_sem])) ?_; (repeat (first | simp (maxSteps := 2000000) (disch := omega) only [go_sem, ↓reduceIte, Nat.reduceEqDiff, Nat.reduceAdd, Nat.reduceMul, Nat.reduceSub, Int.reduceToNat, Int.reduceAdd, Int.reduceSub, Int.reduceMul, Int.reduceNeg] | with_reducible refine vIf_t ?_ | with_reducible refine vIf_f ?_)))
    refine againF (k + 1) (by omega) (by omega) ?_
    simp only [vlK, vsK]
    (first | (refine leF_s ?_; ((repeat (first | simp (maxSteps := 2000000) (disch := omega) only [go_sem, ↓reduceIte, Nat.reduceEqDiff, Nat.reduceAdd, Nat.reduceMul, Nat.reduceSub, Int.reduceToNat, Int.reduceAdd, Int.reduceSub, Int.reduceMul, Int.reduceNeg] | with_reducible refine vIf_t ?_ | with_reducible refine vIf_f ?_)); all_goals (try simp); all_goals (try omega)); done) | (refine leF_p ?_; ((repeat (first | simp (maxSteps := 2000000) (disch := omega) only [go_sem, ↓reduceIte, Nat.reduceEqDiff, Nat.reduceAdd, Nat.reduceMul, Nat.reduceSub, Int.reduceToNat, Int.reduceAdd, Int.reduceSub, Int.reduceMul, Int.reduceNeg] | with_reducible refine vIf_t ?_ | with_reducible refine vIf_f ?_)); all_goals (try simp); all_goals (try omega)); done))
  · (repeat (first | simp (maxSteps := 2000000) (disch := omega) only [go_sem, ↓reduceIte, Nat.reduceEqDiff, Nat.reduceAdd, Nat.reduceMul, Nat.reduceSub, Int.reduceToNat, Int.reduceAdd, Int.reduceSub, Int.reduceMul, Int.reduceNeg] | with_reducible refine vIf_t ?_ | with_reducible refine vIf_f ?_))
    (refine retK_of ?_; (repeat (first | simp (maxSteps := 2000000) (disch := omega) only [go_sem, ↓reduceIte, Nat.reduceEqDiff, Nat.reduceAdd, Nat.reduceMul, Nat.reduceSub, Int.reduceToNat, Int.reduceAdd, Int.reduceSub, Int.reduceMul, Int.reduceNeg] | with_reducible refine vIf_t ?_ | with_reducible refine vIf_f ?_)))
    rw [show k = ds.length by omega]
    exact ⟨rfl, rfl⟩
/-- the code of a run up to a limit -/
def rcM (ds : List Wt) (s m : Int) : Int := if ds.all wtB = true then if ds.length ≤ 100 ∧ (0 ≤ s ∧ s ≤ 1000000000) ∧ (0 ≤ m ∧ m ≤ 1000000000) then 0 else 2 else 1
theorem rcM_max (ds : List Wt) (s m : Int) : (if rcW ds s < rcW ds m then rcW ds m else rcW ds s) = rcM ds s m := by
  unfold rcW rcM
  by_cases h : ds.all wtB = true
  · rw [if_pos h, if_pos h, if_pos h]
    by_cases h1 : ds.length ≤ 100 <;> by_cases h2 : 0 ≤ s ∧ s ≤ 1000000000 <;> by_cases h3 : 0 ≤ m ∧ m ≤ 1000000000 <;> simp only [h1, h2, h3, and_self, and_true, true_and, and_false, false_and, if_true, if_false] <;> rfl
  · rw [if_neg h, if_neg h, if_neg h]; rfl
theorem rcM_0 {ds : List Wt} {s m : Int} (h : rcM ds s m = 0) : ds.all wtB = true ∧ ds.length ≤ 100 ∧ (0 ≤ s ∧ s ≤ 1000000000) ∧ (0 ≤ m ∧ m ≤ 1000000000) := by
  unfold rcM at h
  split at h
  · rename_i h1
    split at h
    · rename_i h2; exact ⟨h1, h2⟩
    · omega
  · omega
theorem rcM_W (ds : List Wt) (s m : Int) : rcM ds s m = if rcW ds s = 0 then if 0 ≤ m ∧ m ≤ 1000000000 then 0 else 2 else rcW ds s := by
  unfold rcW rcM
  by_cases h : ds.all wtB = true
  · rw [if_pos h, if_pos h]
    by_cases h1 : ds.length ≤ 100 <;> by_cases h2 : 0 ≤ s ∧ s ≤ 1000000000 <;> by_cases h3 : 0 ≤ m ∧ m ≤ 1000000000 <;> simp only [h1, h2, h3, and_self, and_true, true_and, and_false, false_and, if_true, if_false] <;> rfl
  · rw [if_neg h, if_neg h]; rfl
theorem l13Start_ok (s : Int) (ds : List Wt) (hl : ds.length ≤ 10000000) : ACalls Tryz.prog 82 [I s, .sl ds.length (cWt ds)] [] (fun r o => r = I (rcW ds s) ∧ o = []) := by
  refine ACalls.of_vc Tryz.func82 rfl (by decide) 16 rfl [.tmp 4] rfl (by simp) ?_
  have e : rcW ds s = if rcW ds 0 = 0 then if 0 ≤ s ∧ s ≤ 1000000000 then 0 else 2 else rcW ds 0 := by
    unfold rcW
    by_cases h : ds.all wtB = true
    · rw [if_pos h, if_pos h]
      by_cases h1 : ds.length ≤ 100 <;> by_cases h2 : 0 ≤ s ∧ s ≤ 1000000000 <;> simp [h1, h2]
    · rw [if_neg h, if_neg h]; rfl
  have hc := l13List_ok ds hl
  (repeat (first | simp (maxSteps := 2000000) (disch := omega) only [go_sem, ↓reduceIte, Nat.reduceEqDiff, Nat.reduceAdd, Nat.reduceMul, Nat.reduceSub, Int.reduceToNat, Int.reduceAdd, Int.reduceSub, Int.reduceMul, Int.reduceNeg] | with_reducible refine vIf_t ?_ | with_reducible refine vIf_f ?_))
  (refine vCallX_of ?_; (repeat (first | simp (maxSteps := 2000000) (disch := omega) only [go_sem, ↓reduceIte, Nat.reduceEqDiff, Nat.reduceAdd, Nat.reduceMul, Nat.reduceSub, Int.reduceToNat, Int.reduceAdd, Int.reduceSub, Int.reduceMul, Int.reduceNeg] | with_reducible refine vIf_t ?_ | with_reducible refine vIf_f ?_)); refine vCall_eq (hc) (by simp (disch := omega) only [go_sem, Nat.reduceAdd]) rfl (by first | exact Or.inl rfl | exact Or.inr ⟨rfl, rfl⟩ | (apply Or.inr; simp only [go_sem])) ?_; (repeat (first | simp (maxSteps := 2000000) (disch := omega) only [go_sem, ↓reduceIte, Nat.reduceEqDiff, Nat.reduceAdd, Nat.reduceMul, Nat.reduceSub, Int.reduceToNat, Int.reduceAdd, Int.reduceSub, Int.reduceMul, Int.reduceNeg] | with_reducible refine vIf_t ?_ | with_reducible refine vIf_f ?_)))
  by_cases h : rcW ds 0 = 0
  · have hb : (rcW ds 0 == 0) = true := by simpa using h
    rw [if_pos h] at e
    (repeat (first | simp (maxSteps := 2000000) (disch := omega) only [go_sem, ↓reduceIte, Nat.reduceEqDiff, Nat.reduceAdd, Nat.reduceMul, Nat.reduceSub, Int.reduceToNat, Int.reduceAdd, Int.reduceSub, Int.reduceMul, Int.reduceNeg, hb] | with_reducible refine vIf_t ?_ | with_reducible refine vIf_f ?_))
    (refine vCallX_of ?_; (repeat (first | simp (maxSteps := 2000000) (disch := omega) only [go_sem, ↓reduceIte, Nat.reduceEqDiff, Nat.reduceAdd, Nat.reduceMul, Nat.reduceSub, Int.reduceToNat, Int.reduceAdd, Int.reduceSub, Int.reduceMul, Int.reduceNeg] | with_reducible refine vIf_t ?_ | with_reducible refine vIf_f ?_)); refine vCall_eq (inS_ok s 0 1000000000) (by simp (disch := omega) only [go_sem, Nat.reduceAdd]) rfl (by first | exact Or.inl rfl | exact Or.inr ⟨rfl, rfl⟩ | (apply Or.inr; simp only [go_sem])) ?_; (repeat (first | simp (maxSteps := 2000000) (disch := omega) only [go_sem, ↓reduceIte, Nat.reduceEqDiff, Nat.reduceAdd, Nat.reduceMul, Nat.reduceSub, Int.reduceToNat, Int.reduceAdd, Int.reduceSub, Int.reduceMul, Int.reduceNeg] | with_reducible refine vIf_t ?_ | with_reducible refine vIf_f ?_)))
    cases h2 : decide (0 ≤ s ∧ s ≤ 1000000000) with
    | true =>
      (try (repeat (first | simp (maxSteps := 2000000) (disch := omega) only [go_sem, ↓reduceIte, Nat.reduceEqDiff, Nat.reduceAdd, Nat.reduceMul, Nat.reduceSub, Int.reduceToNat, Int.reduceAdd, Int.reduceSub, Int.reduceMul, Int.reduceNeg, h2] | with_reducible refine vIf_t ?_ | with_reducible refine vIf_f ?_)))
      (refine retK_of ?_; (repeat (first | simp (maxSteps := 2000000) (disch := omega) only [go_sem, ↓reduceIte, Nat.reduceEqDiff, Nat.reduceAdd, Nat.reduceMul, Nat.reduceSub, Int.reduceToNat, Int.reduceAdd, Int.reduceSub, Int.reduceMul, Int.reduceNeg] | with_reducible refine vIf_t ?_ | with_reducible refine vIf_f ?_)))
      rw [e, if_pos (of_decide_eq_true h2), h]
    | false =>
      (try (repeat (first | simp (maxSteps := 2000000) (disch := omega) only [go_sem, ↓reduceIte, Nat.reduceEqDiff, Nat.reduceAdd, Nat.reduceMul, Nat.reduceSub, Int.reduceToNat, Int.reduceAdd, Int.reduceSub, Int.reduceMul, Int.reduceNeg, h2] | with_reducible refine vIf_t ?_ | with_reducible refine vIf_f ?_)))
      (refine retK_of ?_; (repeat (first | simp (maxSteps := 2000000) (disch := omega) only [go_sem, ↓reduceIte, Nat.reduceEqDiff, Nat.reduceAdd, Nat.reduceMul, Nat.reduceSub, Int.reduceToNat, Int.reduceAdd, Int.reduceSub, Int.reduceMul, Int.reduceNeg] | with_reducible refine vIf_t ?_ | with_reducible refine vIf_f ?_)))
      rw [e, if_neg (of_decide_eq_false h2)]
  · have hb : (rcW ds 0 == 0) = false := by simpa using h
    rw [if_neg h] at e
    (try (repeat (first | simp (maxSteps := 2000000) (disch := omega) only [go_sem, ↓reduceIte, Nat.reduceEqDiff, Nat.reduceAdd, Nat.reduceMul, Nat.reduceSub, Int.reduceToNat, Int.reduceAdd, Int.reduceSub, Int.reduceMul, Int.reduceNeg, hb] | with_reducible refine vIf_t ?_ | with_reducible refine vIf_f ?_)))
    (refine retK_of ?_; (repeat (first | simp (maxSteps := 2000000) (disch := omega) only [go_sem, ↓reduceIte, Nat.reduceEqDiff, Nat.reduceAdd, Nat.reduceMul, Nat.reduceSub, Int.reduceToNat, Int.reduceAdd, Int.reduceSub, Int.reduceMul, Int.reduceNeg] | with_reducible refine vIf_t ?_ | with_reducible refine vIf_f ?_)))
    rw [e]
/-- the first day over a limit -/
def foX (s : Int) (ds : List Wt) (m : Int) : Option Nat := fstN ds.length (fun i => decide (m < vsK s ds (i + 1)))
def foD (s : Int) (ds : List Wt) (m : Int) : Int := if rcM ds s m = 0 then (match foX s ds m with | some k => k | none => 0) else 0
def foC (s : Int) (ds : List Wt) (m : Int) : Int := if rcM ds s m = 0 then (match foX s ds m with | some k => 0 | none => 3) else rcM ds s m
/-- what is pumped beside, day by day -/
def moK (x : Int) : Int := if 0 < x then x else 0
def mpK (s : Int) (ds : List Wt) (m : Int) : Nat → Int
  | 0 => s
  | k + 1 => mpK s ds m k + wtN (gWt ds k) - moK (mpK s ds m k + wtN (gWt ds k) - m)
def mpL (s : Int) (ds : List Wt) (m : Int) : Nat → List Int
  | 0 => []
  | k + 1 => mpL s ds m k ++ [moK (mpK s ds m k + wtN (gWt ds k) - m)]
theorem mpL_len (s : Int) (ds : List Wt) (m : Int) (k : Nat) : (mpL s ds m k).length = k := by
  induction k with
  | zero => rfl
  | succ k ih => simp [mpL, ih]
theorem mpL_get (s : Int) (ds : List Wt) (m : Int) (k j : Nat) (h : j < k) : gi (mpL s ds m k) j = moK (mpK s ds m j + wtN (gWt ds j) - m) := by
  induction k with
  | zero => omega
  | succ k ih =>
    have hl := mpL_len s ds m k
    simp only [mpL]
    by_cases e : j = k
    · subst e
      rw [gi_append_right _ _ _ (by omega), hl, Nat.sub_self]
      rfl
    · rw [gi_append_left _ _ _ (by omega)]
      exact ih (by omega)
theorem mpK_bd {s m : Int} {ds : List Wt} (h : ds.all wtB = true) (hm : 0 ≤ m) (hs : 0 ≤ s ∧ s ≤ 1000000000) (k : Nat) (hk : k ≤ ds.length) : -30000000 * k ≤ mpK s ds m k ∧ mpK s ds m k ≤ 1000000000 + 20000000 * k := by
  induction k with
  | zero => simp [mpK]; omega
  | succ k ih =>
    have := ih (by omega)
    have := wtN_bd (wt_all h k (by omega))
    simp only [mpK, moK]
    split <;> omega
def mpR (s : Int) (ds : List Wt) (m : Int) : List Int := if rcM ds s m = 0 then mpL s ds m ds.length else []
end Go.Proofs.YtneokdflhleidaaGreatDoor

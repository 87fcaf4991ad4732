/- tides: valid tables, high waters, ranges -/
import Derived.Test.YtneokdflhleidaaDoorTid1
import Derived.Test.YtneokdflhleidaaDoorFrZ
import Derived.Test.YtneokdflhleidaaDoorCtl2
set_option linter.unusedVariables false
set_option linter.unusedSimpArgs false
namespace Go.Proofs.YtneokdflhleidaaDoor
open Go.AG

theorem allTde_snoc (q : Tde → Bool) (xs : List Tde) (k : Nat) (h : k < xs.length) (he : (xs.take k).all q = true) (hq : q (gTde xs k) = true) : (xs.take (k + 1)).all q = true := by
  rw [gTde_take_succ xs k h, List.all_append, he]; simp [hq]
theorem allTde_no (q : Tde → Bool) (xs : List Tde) (k : Nat) (h : k < xs.length) (hq : q (gTde xs k) = false) : xs.all q = false := by
  rw [List.all_eq_false]
  exact ⟨gTde xs k, gTde_mem xs k h, by simp [hq]⟩
@[go_sem] theorem vAt_Tde00 (ds : List Tde) (K : V → Prop) : vAt (cTde ds) 0 K = grd (0 < ds.length) (K (.sc (.int .i64 (gTde ds 0).min))) := by simpa using vAt_cTde_0 ds 0 K
@[go_sem] theorem vAt_Tde01 (ds : List Tde) (K : V → Prop) : vAt (cTde ds) 1 K = grd (0 < ds.length) (K (.sc (.int .i64 (gTde ds 0).lev))) := by simpa using vAt_cTde_1 ds 0 K
@[go_sem] theorem vAt_Tde11 (ds : List Tde) (K : V → Prop) : vAt (cTde ds) 3 K = grd (1 < ds.length) (K (.sc (.int .i64 (gTde ds 1).lev))) := vAt_cTde_1 ds 1 K
theorem stT_up {u : Bool} {ds : List Tde} {i : Nat} (h : stT u ds i) : decide ((gTde ds i).lev < (gTde ds (i + 1)).lev) = upT u i ∧ (gTde ds i).lev ≠ (gTde ds (i + 1)).lev := by
  have := h.2
  cases hu : upT u i with
  | true => rw [if_pos hu] at this; exact ⟨decide_eq_true this, by omega⟩
  | false => rw [if_neg (by rw [hu]; decide)] at this; exact ⟨decide_eq_false (by omega), by omega⟩
theorem hw_cnt (u : Bool) (n : Nat) : 2 * ((ixs n fun i => !(upT u i)).length : Int) - n ≤ 1 ∧ -1 ≤ 2 * ((ixs n fun i => !(upT u i)).length : Int) - n := by
  have key : 2 * ((ixs n fun i => !(upT u i)).length : Int) = n + (if n % 2 = 0 then 0 else if u = true then -1 else 1) := by
    induction n with
    | zero => rfl
    | succ n ih =>
      have hm : (n + 1) % 2 = if n % 2 = 0 then 1 else 0 := by split <;> omega
      rw [hm]
      by_cases e : n % 2 = 0
      · rw [if_pos e] at ih ⊢
        cases u with
        | true => rw [ixs_no (by simp [upT, e])]; simp; omega
        | false => rw [ixs_yes (by simp [upT, e])]; simp; omega
      · rw [if_neg e] at ih ⊢
        cases u with
        | true => rw [ixs_yes (by simp [upT, e])]; simp at ih ⊢; omega
        | false => rw [ixs_no (by simp [upT, e])]; simp at ih ⊢; omega
  rw [key]
  split
  · omega
  · split <;> omega
/-- places rise -/
theorem ixs_rise (n : Nat) (q : Nat → Bool) : ∀ i, i < (ixs n q).length → (0 ≤ gi (ixs n q) i ∧ gi (ixs n q) i < n) ∧ (0 < i → gi (ixs n q) (i - 1) < gi (ixs n q) i) := by
  induction n with
  | zero => intro i hi; simp [ixs] at hi
  | succ n ih =>
    intro i hi
    cases hq : q n with
    | false =>
      rw [ixs_no hq] at hi ⊢
      have := ih i hi
      exact ⟨by omega, this.2⟩
    | true =>
      rw [ixs_yes hq] at hi ⊢
      rw [List.length_append] at hi
      simp only [List.length_cons, List.length_nil] at hi
      by_cases e : i < (ixs n q).length
      · have h1 := ih i e
        rw [gi_append_left _ _ _ e]
        refine ⟨by omega, fun h0 => ?_⟩
        rw [gi_append_left _ _ _ (by omega)]
        exact h1.2 h0
      · have ei : i = (ixs n q).length := by omega
        have eg : gi (ixs n q ++ [(n : Int)]) i = n := by rw [gi_append_right _ _ _ (by omega), ei, Nat.sub_self]; rfl
        rw [eg]
        refine ⟨by omega, fun h0 => ?_⟩
        rw [gi_append_left _ _ _ (by omega)]
        have := (ih (i - 1) (by omega)).1
        omega
theorem a2Rises_ok (xs : List Int) (n : Nat) (hl : xs.length ≤ 10000000) (h : ∀ i, i < xs.length → (0 ≤ gi xs i ∧ gi xs i < n) ∧ (0 < i → gi xs (i - 1) < gi xs i)) : ACalls Tryd.prog 15 [.sl xs.length (ints xs), I n] [] (fun r o => r = B true ∧ o = []) := by
  refine ACalls.of_vc Tryd.func15 rfl (by decide) 41 rfl [.tmp 4] rfl (by simp) ?_
  (repeat (first | simp (maxSteps := 2000000) (disch := omega) only [go_sem, ↓reduceIte, Nat.reduceEqDiff, Nat.reduceAdd, Nat.reduceMul, Nat.reduceSub, Int.reduceToNat, Int.reduceAdd, Int.reduceSub, Int.reduceMul, Int.reduceNeg] | with_reducible refine vIf_t ?_ | with_reducible refine vIf_f ?_))
  refine vcLoop_invF (fun k : Nat => k ≤ xs.length) (fun k => ⟨41, 0, [(5, I k), (0, .sl xs.length (ints xs)), (1, I n)], []⟩) (fun k => xs.length - k) 0 (by omega) (by (first | (refine leF_s ?_; ((repeat (first | simp (maxSteps := 2000000) (disch := omega) only [go_sem, ↓reduceIte, Nat.reduceEqDiff, Nat.reduceAdd, Nat.reduceMul, Nat.reduceSub, Int.reduceToNat, Int.reduceAdd, Int.reduceSub, Int.reduceMul, Int.reduceNeg] | with_reducible refine vIf_t ?_ | with_reducible refine vIf_f ?_)); all_goals (try simp); all_goals (try omega)); done) | (refine leF_p ?_; ((repeat (first | simp (maxSteps := 2000000) (disch := omega) only [go_sem, ↓reduceIte, Nat.reduceEqDiff, Nat.reduceAdd, Nat.reduceMul, Nat.reduceSub, Int.reduceToNat, Int.reduceAdd, Int.reduceSub, Int.reduceMul, Int.reduceNeg] | with_reducible refine vIf_t ?_ | with_reducible refine vIf_f ?_)); all_goals (try simp); all_goals (try omega)); done))) ?_
  intro k hk
  (repeat (first | simp (maxSteps := 2000000) (disch := omega) only [go_sem, ↓reduceIte, Nat.reduceEqDiff, Nat.reduceAdd, Nat.reduceMul, Nat.reduceSub, Int.reduceToNat, Int.reduceAdd, Int.reduceSub, Int.reduceMul, Int.reduceNeg] | with_reducible refine vIf_t ?_ | with_reducible refine vIf_f ?_))
  refine vIf_dec (fun h2 => ?_) (fun h2 => ?_)
  · have hkl : k < xs.length := by omega
    have hr := h k hkl
    have c1 : decide (gi xs k < 0) = false := decide_eq_false (by omega)
    have c2 : decide ((n : Int) ≤ gi xs k) = false := decide_eq_false (by omega)
    (repeat (first | simp (maxSteps := 2000000) (disch := omega) only [go_sem, ↓reduceIte, Nat.reduceEqDiff, Nat.reduceAdd, Nat.reduceMul, Nat.reduceSub, Int.reduceToNat, Int.reduceAdd, Int.reduceSub, Int.reduceMul, Int.reduceNeg] | with_reducible refine vIf_t ?_ | with_reducible refine vIf_f ?_))
    (refine vDraw_sch 26 ([(0, false), (1, false), (2, false), (3, true), (4, false), (5, false), (6, false), (7, false), (8, false), (9, false), (10, false), (11, false), (12, false), (13, false), (14, false), (15, false), (16, false), (17, false), (18, false), (19, false)] ++ [(20, false), (21, false), (22, false), (23, false), (24, false), (25, false)]) mixed (by kernel_rfl) ?_; simp only [List.cons_append, List.nil_append, List.map_cons, List.map_nil, nthO_zero, nthO_succ, List.drop_succ_cons, List.drop_zero, List.drop_nil]; (repeat (first | simp (maxSteps := 2000000) (disch := omega) only [go_sem, ↓reduceIte, Nat.reduceEqDiff, Nat.reduceAdd, Nat.reduceMul, Nat.reduceSub, Int.reduceToNat, Int.reduceAdd, Int.reduceSub, Int.reduceMul, Int.reduceNeg] | with_reducible refine vIf_t ?_ | with_reducible refine vIf_f ?_)))
    by_cases h0 : 0 < (k : Int)
    · have c3 : decide (0 < (k : Int)) = true := decide_eq_true h0
      have k1 : ((k : Int) - 1).toNat = k - 1 := by omega
      have c4 : decide (gi xs k ≤ gi xs (k - 1)) = false := decide_eq_false (by have := hr.2 (by omega); omega)
      (try (repeat (first | simp (maxSteps := 2000000) (disch := omega) only [go_sem, ↓reduceIte, Nat.reduceEqDiff, Nat.reduceAdd, Nat.reduceMul, Nat.reduceSub, Int.reduceToNat, Int.reduceAdd, Int.reduceSub, Int.reduceMul, Int.reduceNeg, c1, c2, c3, k1] | with_reducible refine vIf_t ?_ | with_reducible refine vIf_f ?_)))
      (try (repeat (first | simp (maxSteps := 2000000) (disch := omega) only [go_sem, ↓reduceIte, Nat.reduceEqDiff, Nat.reduceAdd, Nat.reduceMul, Nat.reduceSub, Int.reduceToNat, Int.reduceAdd, Int.reduceSub, Int.reduceMul, Int.reduceNeg, c4] | with_reducible refine vIf_t ?_ | with_reducible refine vIf_f ?_)))
      refine againF (k + 1) (by omega) (by omega) (by (first | (refine leF_s ?_; ((repeat (first | simp (maxSteps := 2000000) (disch := omega) only [go_sem, ↓reduceIte, Nat.reduceEqDiff, Nat.reduceAdd, Nat.reduceMul, Nat.reduceSub, Int.reduceToNat, Int.reduceAdd, Int.reduceSub, Int.reduceMul, Int.reduceNeg] | with_reducible refine vIf_t ?_ | with_reducible refine vIf_f ?_)); all_goals (try simp); all_goals (try omega)); done) | (refine leF_p ?_; ((repeat (first | simp (maxSteps := 2000000) (disch := omega) only [go_sem, ↓reduceIte, Nat.reduceEqDiff, Nat.reduceAdd, Nat.reduceMul, Nat.reduceSub, Int.reduceToNat, Int.reduceAdd, Int.reduceSub, Int.reduceMul, Int.reduceNeg] | with_reducible refine vIf_t ?_ | with_reducible refine vIf_f ?_)); all_goals (try simp); all_goals (try omega)); done)))
    · have c3 : decide (0 < (k : Int)) = false := decide_eq_false h0
      (try (repeat (first | simp (maxSteps := 2000000) (disch := omega) only [go_sem, ↓reduceIte, Nat.reduceEqDiff, Nat.reduceAdd, Nat.reduceMul, Nat.reduceSub, Int.reduceToNat, Int.reduceAdd, Int.reduceSub, Int.reduceMul, Int.reduceNeg, c1, c2, c3] | with_reducible refine vIf_t ?_ | with_reducible refine vIf_f ?_)))
      refine againF (k + 1) (by omega) (by omega) (by (first | (refine leF_s ?_; ((repeat (first | simp (maxSteps := 2000000) (disch := omega) only [go_sem, ↓reduceIte, Nat.reduceEqDiff, Nat.reduceAdd, Nat.reduceMul, Nat.reduceSub, Int.reduceToNat, Int.reduceAdd, Int.reduceSub, Int.reduceMul, Int.reduceNeg] | with_reducible refine vIf_t ?_ | with_reducible refine vIf_f ?_)); all_goals (try simp); all_goals (try omega)); done) | (refine leF_p ?_; ((repeat (first | simp (maxSteps := 2000000) (disch := omega) only [go_sem, ↓reduceIte, Nat.reduceEqDiff, Nat.reduceAdd, Nat.reduceMul, Nat.reduceSub, Int.reduceToNat, Int.reduceAdd, Int.reduceSub, Int.reduceMul, Int.reduceNeg] | with_reducible refine vIf_t ?_ | with_reducible refine vIf_f ?_)); all_goals (try simp); all_goals (try omega)); done)))
  · (repeat (first | simp (maxSteps := 2000000) (disch := omega) only [go_sem, ↓reduceIte, Nat.reduceEqDiff, Nat.reduceAdd, Nat.reduceMul, Nat.reduceSub, Int.reduceToNat, Int.reduceAdd, Int.reduceSub, Int.reduceMul, Int.reduceNeg] | with_reducible refine vIf_t ?_ | with_reducible refine vIf_f ?_))
    (refine retK_of ?_; (repeat (first | simp (maxSteps := 2000000) (disch := omega) only [go_sem, ↓reduceIte, Nat.reduceEqDiff, Nat.reduceAdd, Nat.reduceMul, Nat.reduceSub, Int.reduceToNat, Int.reduceAdd, Int.reduceSub, Int.reduceMul, Int.reduceNeg] | with_reducible refine vIf_t ?_ | with_reducible refine vIf_f ?_)))
/-- the differences of levels -/
def rgL (ds : List Tde) (k : Nat) : List Int := (List.range k).map fun j => (((gTde ds (j + 1)).lev - (gTde ds j).lev).natAbs : Int)
theorem rgL_zero (ds : List Tde) : rgL ds 0 = [] := rfl
theorem rgL_succ (ds : List Tde) (k : Nat) : rgL ds (k + 1) = rgL ds k ++ [(((gTde ds (k + 1)).lev - (gTde ds k).lev).natAbs : Int)] := by simp [rgL, List.range_succ]
theorem rgL_len (ds : List Tde) (k : Nat) : (rgL ds k).length = k := by simp [rgL]
theorem rgL_get (ds : List Tde) (k j : Nat) (h : j < k) : gi (rgL ds k) j = (((gTde ds (j + 1)).lev - (gTde ds j).lev).natAbs : Int) := by simp [rgL, gi, h]
end Go.Proofs.YtneokdflhleidaaDoor

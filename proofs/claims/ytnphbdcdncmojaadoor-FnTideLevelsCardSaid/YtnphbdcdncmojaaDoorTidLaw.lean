/- tides: the law -/
import Derived.Test.YtnphbdcdncmojaaDoorTid4
import Derived.Test.YtnphbdcdncmojaaDoorA2
set_option linter.unusedVariables false
set_option linter.unusedSimpArgs false
namespace Go.Proofs.YtnphbdcdncmojaaDoor
open Go.AG Go.Lib

attribute [local go_sem] beq_self_eq_true bne_self_eq_false Bool.not_true
set_option maxRecDepth 20000 in
theorem sameTides_ok (ds : List Tde) (hl : ds.length ≤ 10000000) : ACalls Tryd.prog 32 [.sl ds.length (cTde ds), .sl ds.length (cTde ds)] [] (fun r o => r = B true ∧ o = []) := by
  refine ACalls.of_vc Tryd.func32 rfl (by decide) 26 rfl [.tmp 4] rfl (by simp) ?_
  (repeat (first | simp (maxSteps := 2000000) (disch := omega) only [go_sem, Nat.reduceEqDiff, Nat.reduceAdd, Nat.reduceMul, Nat.reduceSub, Int.reduceToNat, Int.reduceAdd, Int.reduceSub, Int.reduceMul, Int.reduceNeg] | refine vIf_t ?_ | refine vIf_f ?_))
  refine vcLoop_invF (fun k : Nat => k ≤ ds.length) (fun k => ⟨26, 0, [(5, I k), (1, .sl ds.length (cTde ds)), (0, .sl ds.length (cTde ds))], []⟩) (fun k => ds.length - k) 0 (by omega) (by (first | (refine leF_s ?_; ((repeat (first | simp (maxSteps := 2000000) (disch := omega) only [go_sem, Nat.reduceEqDiff, Nat.reduceAdd, Nat.reduceMul, Nat.reduceSub, Int.reduceToNat, Int.reduceAdd, Int.reduceSub, Int.reduceMul, Int.reduceNeg] | refine vIf_t ?_ | refine vIf_f ?_)); all_goals (try simp); all_goals (try omega)); done) | (refine leF_p ?_; ((repeat (first | simp (maxSteps := 2000000) (disch := omega) only [go_sem, Nat.reduceEqDiff, Nat.reduceAdd, Nat.reduceMul, Nat.reduceSub, Int.reduceToNat, Int.reduceAdd, Int.reduceSub, Int.reduceMul, Int.reduceNeg] | refine vIf_t ?_ | refine vIf_f ?_)); all_goals (try simp); all_goals (try omega)); done))) ?_
  intro k hk
  (repeat (first | simp (maxSteps := 2000000) (disch := omega) only [go_sem, Nat.reduceEqDiff, Nat.reduceAdd, Nat.reduceMul, Nat.reduceSub, Int.reduceToNat, Int.reduceAdd, Int.reduceSub, Int.reduceMul, Int.reduceNeg] | refine vIf_t ?_ | refine vIf_f ?_))
  refine vIf_dec (fun h => ?_) (fun h => ?_)
  · have hkl : k < ds.length := by omega
    (repeat (first | simp (maxSteps := 2000000) (disch := omega) only [go_sem, Nat.reduceEqDiff, Nat.reduceAdd, Nat.reduceMul, Nat.reduceSub, Int.reduceToNat, Int.reduceAdd, Int.reduceSub, Int.reduceMul, Int.reduceNeg] | refine vIf_t ?_ | refine vIf_f ?_))
    (refine vDraw_sch 8 [(0, false), (1, false), (2, false), (4, false), (5, false), (6, false), (3, false), (7, true)] mixed (by kernel_rfl) ?_; simp only [List.cons_append, List.nil_append, List.map_cons, List.map_nil, nthO_zero, nthO_succ, List.drop_succ_cons, List.drop_zero, List.drop_nil]; (repeat (first | simp (maxSteps := 2000000) (disch := omega) only [go_sem, Nat.reduceEqDiff, Nat.reduceAdd, Nat.reduceMul, Nat.reduceSub, Int.reduceToNat, Int.reduceAdd, Int.reduceSub, Int.reduceMul, Int.reduceNeg] | refine vIf_t ?_ | refine vIf_f ?_)))
    (try (repeat (first | simp (maxSteps := 2000000) (disch := omega) only [go_sem, Nat.reduceEqDiff, Nat.reduceAdd, Nat.reduceMul, Nat.reduceSub, Int.reduceToNat, Int.reduceAdd, Int.reduceSub, Int.reduceMul, Int.reduceNeg] | refine vIf_t ?_ | refine vIf_f ?_)))
    refine againF (k + 1) (by omega) (by omega) (by (first | (refine leF_s ?_; ((repeat (first | simp (maxSteps := 2000000) (disch := omega) only [go_sem, Nat.reduceEqDiff, Nat.reduceAdd, Nat.reduceMul, Nat.reduceSub, Int.reduceToNat, Int.reduceAdd, Int.reduceSub, Int.reduceMul, Int.reduceNeg] | refine vIf_t ?_ | refine vIf_f ?_)); all_goals (try simp); all_goals (try omega)); done) | (refine leF_p ?_; ((repeat (first | simp (maxSteps := 2000000) (disch := omega) only [go_sem, Nat.reduceEqDiff, Nat.reduceAdd, Nat.reduceMul, Nat.reduceSub, Int.reduceToNat, Int.reduceAdd, Int.reduceSub, Int.reduceMul, Int.reduceNeg] | refine vIf_t ?_ | refine vIf_f ?_)); all_goals (try simp); all_goals (try omega)); done)))
  · (repeat (first | simp (maxSteps := 2000000) (disch := omega) only [go_sem, Nat.reduceEqDiff, Nat.reduceAdd, Nat.reduceMul, Nat.reduceSub, Int.reduceToNat, Int.reduceAdd, Int.reduceSub, Int.reduceMul, Int.reduceNeg] | refine vIf_t ?_ | refine vIf_f ?_))
    (refine retK_of ?_; (repeat (first | simp (maxSteps := 2000000) (disch := omega) only [go_sem, Nat.reduceEqDiff, Nat.reduceAdd, Nat.reduceMul, Nat.reduceSub, Int.reduceToNat, Int.reduceAdd, Int.reduceSub, Int.reduceMul, Int.reduceNeg] | refine vIf_t ?_ | refine vIf_f ?_)))
/-- the lowest and the highest of the first levels -/
def loT (ds : List Tde) : Nat → Int
  | 0 => (gTde ds 0).lev
  | k + 1 => if (gTde ds k).lev < loT ds k then (gTde ds k).lev else loT ds k
def hiT (ds : List Tde) : Nat → Int
  | 0 => (gTde ds 0).lev
  | k + 1 => if hiT ds k < (gTde ds k).lev then (gTde ds k).lev else hiT ds k
theorem loT_bd {u : Bool} {ds : List Tde} (X : TdX u ds) (k : Nat) (hk : k ≤ ds.length) : (-1500 ≤ loT ds k ∧ loT ds k ≤ 1500) ∧ ∀ i, i < k → loT ds k ≤ (gTde ds i).lev := by
  have n1 := X.n1
  induction k with
  | zero => exact ⟨X.l 0 (by omega), fun i hi => by omega⟩
  | succ k ih =>
    obtain ⟨h1, h2⟩ := ih (by omega)
    have hl := X.l k (by omega)
    simp only [loT]
    refine ⟨by split <;> omega, fun i hi => ?_⟩
    rcases Nat.lt_or_ge i k with e | e
    · have := h2 i e; split <;> omega
    · rw [show i = k by omega]; split <;> omega
theorem hiT_bd {u : Bool} {ds : List Tde} (X : TdX u ds) (k : Nat) (hk : k ≤ ds.length) : (-1500 ≤ hiT ds k ∧ hiT ds k ≤ 1500) ∧ ∀ i, i < k → (gTde ds i).lev ≤ hiT ds k := by
  have n1 := X.n1
  induction k with
  | zero => exact ⟨X.l 0 (by omega), fun i hi => by omega⟩
  | succ k ih =>
    obtain ⟨h1, h2⟩ := ih (by omega)
    have hl := X.l k (by omega)
    simp only [hiT]
    refine ⟨by split <;> omega, fun i hi => ?_⟩
    rcases Nat.lt_or_ge i k with e | e
    · have := h2 i e; split <;> omega
    · rw [show i = k by omega]; split <;> omega
/-- a fraction in lowest terms lies where the fraction lies -/
theorem frac_bd {M D : Int} (hD : 1 ≤ D ∧ D ≤ 100000) (hM : -1000000000 ≤ M ∧ M ≤ 1000000000) :
    (1 ≤ D / (Int.gcd M D : Int) ∧ D / (Int.gcd M D : Int) ≤ 100000) ∧ (-1000000000 ≤ M / (Int.gcd M D : Int) ∧ M / (Int.gcd M D : Int) ≤ 1000000000) ∧
    (∀ l : Int, l * D ≤ M → l * (D / (Int.gcd M D : Int)) ≤ M / (Int.gcd M D : Int)) ∧ (∀ l : Int, M ≤ l * D → M / (Int.gcd M D : Int) ≤ l * (D / (Int.gcd M D : Int))) := by
  obtain ⟨_, h1, h2, h3⟩ := gcd_div M D hD.1
  generalize (Int.gcd M D : Int) = g at *
  generalize M / g = m at *
  generalize D / g = d at *
  refine ⟨⟨?_, (quot_bd h2 h3 100000 (by omega)).2⟩, quot_bd h1 h3 1000000000 hM, fun l hl => ?_, fun l hl => ?_⟩
  · rcases Int.lt_or_le d 1 with e | e
    · have : d * g ≤ 0 := Int.mul_nonpos_of_nonpos_of_nonneg (by omega) (by omega)
      omega
    · exact e
  · rw [← h1, ← h2, ← Int.mul_assoc] at hl
    exact Int.le_of_mul_le_mul_right hl (by omega)
  · rw [← h1, ← h2, ← Int.mul_assoc] at hl
    exact Int.le_of_mul_le_mul_right hl (by omega)
theorem tideAtK_ok {u : Bool} (ds : List Tde) (X : TdX u ds) (k : Nat) (hk : k < ds.length) : ACalls Tryd.prog 34 [.sl ds.length (cTde ds), I (gTde ds k).min] []
    (fun r o => r = .tup [.agg [I (gTde ds k).lev, I 1], I 0] ∧ o = []) := by
  have n1 := X.n1
  have h0 : (gTde ds 0).min ≤ (gTde ds k).min := by
    rcases Nat.eq_zero_or_pos k with e | e
    · rw [e]; omega
    · have := X.lt e hk; omega
  have h1 : (gTde ds k).min ≤ (gTde ds (ds.length - 1)).min := by
    by_cases e : k = ds.length - 1
    · rw [← e]; omega
    · have := X.lt (i := k) (j := ds.length - 1) (by omega) (by omega); omega
  refine (tideAtF_ok ds X _ h0 h1).mono ?_
  rintro r o ⟨i, hS, rfl, rfl⟩
  obtain ⟨e1, e2⟩ := div_self_gcd (l := (gTde ds k).lev) (tN_bd X hS).1.1
  rw [knot X hk hS, e1, e2]
  exact ⟨rfl, rfl⟩
set_option maxRecDepth 100000 in
set_option maxHeartbeats 32000000 in
theorem tideLaw_ok (code more : List Int) (hb : bOk code) (hl : code.length ≤ 9223372036854775807) (hb' : bOk more) (hl' : more.length ≤ 9223372036854775807) : ACalls Tryd.prog 5 [bS code, bS more] [] (fun r o => r = B true ∧ o = []) := by
  refine ACalls.of_vc Tryd.func5 rfl (by decide) 286 rfl [.tmp 4] rfl (by simp) ?_
  have hlong := a2Long_ok code more hl hl'
  unfold bS at hlong ⊢
  (repeat (first | simp (maxSteps := 2000000) (disch := omega) only [go_sem, Nat.reduceEqDiff, Nat.reduceAdd, Nat.reduceMul, Nat.reduceSub, Int.reduceToNat, Int.reduceAdd, Int.reduceSub, Int.reduceMul, Int.reduceNeg] | refine vIf_t ?_ | refine vIf_f ?_))
  (refine vCallX_of ?_; (repeat (first | simp (maxSteps := 2000000) (disch := omega) only [go_sem, Nat.reduceEqDiff, Nat.reduceAdd, Nat.reduceMul, Nat.reduceSub, Int.reduceToNat, Int.reduceAdd, Int.reduceSub, Int.reduceMul, Int.reduceNeg] | refine vIf_t ?_ | refine vIf_f ?_)); refine vCall_eq (hlong) (by simp (disch := omega) only [go_sem, Nat.reduceAdd]) rfl (by first | exact Or.inl rfl | exact Or.inr ⟨rfl, rfl⟩ | (apply Or.inr; simp only [go_sem])) ?_; (repeat (first | simp (maxSteps := 2000000) (disch := omega) only [go_sem, Nat.reduceEqDiff, Nat.reduceAdd, Nat.reduceMul, Nat.reduceSub, Int.reduceToNat, Int.reduceAdd, Int.reduceSub, Int.reduceMul, Int.reduceNeg] | refine vIf_t ?_ | refine vIf_f ?_)))
  cases hlg : (decide (3000 < (code.length : Int)) || decide (3000 < (more.length : Int))) with
  | true =>
    refine vIf_t ?_
    (repeat (first | simp (maxSteps := 2000000) (disch := omega) only [go_sem, Nat.reduceEqDiff, Nat.reduceAdd, Nat.reduceMul, Nat.reduceSub, Int.reduceToNat, Int.reduceAdd, Int.reduceSub, Int.reduceMul, Int.reduceNeg] | refine vIf_t ?_ | refine vIf_f ?_))
    (refine retK_of ?_; (repeat (first | simp (maxSteps := 2000000) (disch := omega) only [go_sem, Nat.reduceEqDiff, Nat.reduceAdd, Nat.reduceMul, Nat.reduceSub, Int.reduceToNat, Int.reduceAdd, Int.reduceSub, Int.reduceMul, Int.reduceNeg] | refine vIf_t ?_ | refine vIf_f ?_)))
  | false =>
    refine vIf_f ?_
    simp only [Bool.or_eq_false_iff, decide_eq_false_iff_not] at hlg
    have g : SrOk code := ⟨hb, by omega⟩
    have d1 := a2Tides_e g
    unfold bS at d1
    (repeat (first | simp (maxSteps := 2000000) (disch := omega) only [go_sem, Nat.reduceEqDiff, Nat.reduceAdd, Nat.reduceMul, Nat.reduceSub, Int.reduceToNat, Int.reduceAdd, Int.reduceSub, Int.reduceMul, Int.reduceNeg] | refine vIf_t ?_ | refine vIf_f ?_))
    (refine vCallX_of ?_; (repeat (first | simp (maxSteps := 2000000) (disch := omega) only [go_sem, Nat.reduceEqDiff, Nat.reduceAdd, Nat.reduceMul, Nat.reduceSub, Int.reduceToNat, Int.reduceAdd, Int.reduceSub, Int.reduceMul, Int.reduceNeg] | refine vIf_t ?_ | refine vIf_f ?_)); refine vCall_ex (d1) (by simp (disch := omega) only [go_sem, Nat.reduceAdd]) rfl ?_); rintro _ _ ⟨u, ds, rfl, rfl, X⟩; (refine ⟨(by first | exact Or.inl rfl | exact Or.inr ⟨rfl, rfl⟩ | (apply Or.inr; simp only [go_sem])), ?_⟩; (repeat (first | simp (maxSteps := 2000000) (disch := omega) only [go_sem, Nat.reduceEqDiff, Nat.reduceAdd, Nat.reduceMul, Nat.reduceSub, Int.reduceToNat, Int.reduceAdd, Int.reduceSub, Int.reduceMul, Int.reduceNeg] | refine vIf_t ?_ | refine vIf_f ?_)))
    have n1 := X.n1
    have n2 := X.n2
    have p1 := highW_ok ds X
    have p2 := ranges_ok ds X
    have p3 := mean_ok ds X
    have p4 := tidesText_ok ds X
    have p5 := readTides_ok ds X
    have p6 := sameTides_ok ds (by omega)
    have hc := hw_cnt u ds.length
    obtain ⟨hs, ehs⟩ : ∃ hs, ixs ds.length (fun i => !(upT u i)) = hs := ⟨_, rfl⟩
    rw [ehs] at p1 hc
    have p7 := a2Rises_ok hs ds.length (by omega) (by rw [← ehs]; exact ixs_rise ds.length _)
    have hrl := rgL_len ds (ds.length - 1)
    have hD := mtD_bd X
    have hM := mtM_bd X
    obtain ⟨b1, b2, b3, b4⟩ := frac_bd (M := mtM ds) (D := mtD ds) (by omega) (by omega)
    obtain ⟨mn, hmn⟩ : ∃ x, mtM ds / (Int.gcd (mtM ds) (mtD ds) : Int) = x := ⟨_, rfl⟩
    obtain ⟨md, hmd⟩ : ∃ x, mtD ds / (Int.gcd (mtM ds) (mtD ds) : Int) = x := ⟨_, rfl⟩
    rw [hmn] at b2 b3 b4 p3
    rw [hmd] at b1 b3 b4 p3
    unfold iS at p1 p2
    (refine vCallX_fz 0 _ rfl (by (repeat (first | simp (maxSteps := 2000000) (disch := omega) only [go_sem, Nat.reduceEqDiff, Nat.reduceAdd, Nat.reduceMul, Nat.reduceSub, Int.reduceToNat, Int.reduceAdd, Int.reduceSub, Int.reduceMul, Int.reduceNeg] | refine vIf_t ?_ | refine vIf_f ?_))) ?_; (repeat (first | simp (maxSteps := 2000000) (disch := omega) only [go_sem, Nat.reduceEqDiff, Nat.reduceAdd, Nat.reduceMul, Nat.reduceSub, Int.reduceToNat, Int.reduceAdd, Int.reduceSub, Int.reduceMul, Int.reduceNeg] | refine vIf_t ?_ | refine vIf_f ?_)))
    (refine vCallX_of ?_; (repeat (first | simp (maxSteps := 2000000) (disch := omega) only [go_sem, Nat.reduceEqDiff, Nat.reduceAdd, Nat.reduceMul, Nat.reduceSub, Int.reduceToNat, Int.reduceAdd, Int.reduceSub, Int.reduceMul, Int.reduceNeg] | refine vIf_t ?_ | refine vIf_f ?_)); refine vCall_eq (p1) (by simp (disch := omega) only [go_sem, Nat.reduceAdd]) rfl (by first | exact Or.inl rfl | exact Or.inr ⟨rfl, rfl⟩ | (apply Or.inr; simp only [go_sem])) ?_; (repeat (first | simp (maxSteps := 2000000) (disch := omega) only [go_sem, Nat.reduceEqDiff, Nat.reduceAdd, Nat.reduceMul, Nat.reduceSub, Int.reduceToNat, Int.reduceAdd, Int.reduceSub, Int.reduceMul, Int.reduceNeg] | refine vIf_t ?_ | refine vIf_f ?_)))
    (refine vCallX_of ?_; (repeat (first | simp (maxSteps := 2000000) (disch := omega) only [go_sem, Nat.reduceEqDiff, Nat.reduceAdd, Nat.reduceMul, Nat.reduceSub, Int.reduceToNat, Int.reduceAdd, Int.reduceSub, Int.reduceMul, Int.reduceNeg] | refine vIf_t ?_ | refine vIf_f ?_)); refine vCall_eq (p2) (by simp (disch := omega) only [go_sem, Nat.reduceAdd]) rfl (by first | exact Or.inl rfl | exact Or.inr ⟨rfl, rfl⟩ | (apply Or.inr; simp only [go_sem])) ?_; (repeat (first | simp (maxSteps := 2000000) (disch := omega) only [go_sem, Nat.reduceEqDiff, Nat.reduceAdd, Nat.reduceMul, Nat.reduceSub, Int.reduceToNat, Int.reduceAdd, Int.reduceSub, Int.reduceMul, Int.reduceNeg] | refine vIf_t ?_ | refine vIf_f ?_)))
    (refine vCallX_of ?_; (repeat (first | simp (maxSteps := 2000000) (disch := omega) only [go_sem, Nat.reduceEqDiff, Nat.reduceAdd, Nat.reduceMul, Nat.reduceSub, Int.reduceToNat, Int.reduceAdd, Int.reduceSub, Int.reduceMul, Int.reduceNeg] | refine vIf_t ?_ | refine vIf_f ?_)); refine vCall_eq (p3) (by simp (disch := omega) only [go_sem, Nat.reduceAdd]) rfl (by first | exact Or.inl rfl | exact Or.inr ⟨rfl, rfl⟩ | (apply Or.inr; simp only [go_sem])) ?_; (repeat (first | simp (maxSteps := 2000000) (disch := omega) only [go_sem, Nat.reduceEqDiff, Nat.reduceAdd, Nat.reduceMul, Nat.reduceSub, Int.reduceToNat, Int.reduceAdd, Int.reduceSub, Int.reduceMul, Int.reduceNeg] | refine vIf_t ?_ | refine vIf_f ?_)))
    (refine vCallX_fz 1 _ rfl (by (repeat (first | simp (maxSteps := 2000000) (disch := omega) only [go_sem, Nat.reduceEqDiff, Nat.reduceAdd, Nat.reduceMul, Nat.reduceSub, Int.reduceToNat, Int.reduceAdd, Int.reduceSub, Int.reduceMul, Int.reduceNeg] | refine vIf_t ?_ | refine vIf_f ?_))) ?_; (repeat (first | simp (maxSteps := 2000000) (disch := omega) only [go_sem, Nat.reduceEqDiff, Nat.reduceAdd, Nat.reduceMul, Nat.reduceSub, Int.reduceToNat, Int.reduceAdd, Int.reduceSub, Int.reduceMul, Int.reduceNeg] | refine vIf_t ?_ | refine vIf_f ?_)))
    (refine vCallX_keep [5, 8, 1, 10, 6, 11, 9, 7, 46] rfl ?_; (repeat (first | simp (maxSteps := 2000000) (disch := omega) only [go_sem, Nat.reduceEqDiff, Nat.reduceAdd, Nat.reduceMul, Nat.reduceSub, Int.reduceToNat, Int.reduceAdd, Int.reduceSub, Int.reduceMul, Int.reduceNeg] | refine vIf_t ?_ | refine vIf_f ?_)))
    (refine vCallX_of ?_; (repeat (first | simp (maxSteps := 2000000) (disch := omega) only [go_sem, Nat.reduceEqDiff, Nat.reduceAdd, Nat.reduceMul, Nat.reduceSub, Int.reduceToNat, Int.reduceAdd, Int.reduceSub, Int.reduceMul, Int.reduceNeg] | refine vIf_t ?_ | refine vIf_f ?_)); refine vCall_eq (p4) (by simp (disch := omega) only [go_sem, Nat.reduceAdd]) rfl (by first | exact Or.inl rfl | exact Or.inr ⟨rfl, rfl⟩ | (apply Or.inr; simp only [go_sem])) ?_; (repeat (first | simp (maxSteps := 2000000) (disch := omega) only [go_sem, Nat.reduceEqDiff, Nat.reduceAdd, Nat.reduceMul, Nat.reduceSub, Int.reduceToNat, Int.reduceAdd, Int.reduceSub, Int.reduceMul, Int.reduceNeg] | refine vIf_t ?_ | refine vIf_f ?_)))
    (refine vCallX_of ?_; (repeat (first | simp (maxSteps := 2000000) (disch := omega) only [go_sem, Nat.reduceEqDiff, Nat.reduceAdd, Nat.reduceMul, Nat.reduceSub, Int.reduceToNat, Int.reduceAdd, Int.reduceSub, Int.reduceMul, Int.reduceNeg] | refine vIf_t ?_ | refine vIf_f ?_)); refine vCall_eq (p5) (by simp (disch := omega) only [go_sem, Nat.reduceAdd]) rfl (by first | exact Or.inl rfl | exact Or.inr ⟨rfl, rfl⟩ | (apply Or.inr; simp only [go_sem])) ?_; (repeat (first | simp (maxSteps := 2000000) (disch := omega) only [go_sem, Nat.reduceEqDiff, Nat.reduceAdd, Nat.reduceMul, Nat.reduceSub, Int.reduceToNat, Int.reduceAdd, Int.reduceSub, Int.reduceMul, Int.reduceNeg] | refine vIf_t ?_ | refine vIf_f ?_)))
    have c0 : ((rgL ds (ds.length - 1)).length != (ds.length - 1 : Int)) = false := by rw [hrl]; simp; omega
    (try (repeat (first | simp (maxSteps := 2000000) (disch := omega) only [go_sem, Nat.reduceEqDiff, Nat.reduceAdd, Nat.reduceMul, Nat.reduceSub, Int.reduceToNat, Int.reduceAdd, Int.reduceSub, Int.reduceMul, Int.reduceNeg, c0] | refine vIf_t ?_ | refine vIf_f ?_)))
    (refine vCallX_of ?_; (repeat (first | simp (maxSteps := 2000000) (disch := omega) only [go_sem, Nat.reduceEqDiff, Nat.reduceAdd, Nat.reduceMul, Nat.reduceSub, Int.reduceToNat, Int.reduceAdd, Int.reduceSub, Int.reduceMul, Int.reduceNeg] | refine vIf_t ?_ | refine vIf_f ?_)); refine vCall_eq (p6) (by simp (disch := omega) only [go_sem, Nat.reduceAdd]) rfl (by first | exact Or.inl rfl | exact Or.inr ⟨rfl, rfl⟩ | (apply Or.inr; simp only [go_sem])) ?_; (repeat (first | simp (maxSteps := 2000000) (disch := omega) only [go_sem, Nat.reduceEqDiff, Nat.reduceAdd, Nat.reduceMul, Nat.reduceSub, Int.reduceToNat, Int.reduceAdd, Int.reduceSub, Int.reduceMul, Int.reduceNeg] | refine vIf_t ?_ | refine vIf_f ?_)))
    (refine vCallX_of ?_; (repeat (first | simp (maxSteps := 2000000) (disch := omega) only [go_sem, Nat.reduceEqDiff, Nat.reduceAdd, Nat.reduceMul, Nat.reduceSub, Int.reduceToNat, Int.reduceAdd, Int.reduceSub, Int.reduceMul, Int.reduceNeg] | refine vIf_t ?_ | refine vIf_f ?_)); refine vCall_eq (p7) (by simp (disch := omega) only [go_sem, Nat.reduceAdd]) rfl (by first | exact Or.inl rfl | exact Or.inr ⟨rfl, rfl⟩ | (apply Or.inr; simp only [go_sem])) ?_; (repeat (first | simp (maxSteps := 2000000) (disch := omega) only [go_sem, Nat.reduceEqDiff, Nat.reduceAdd, Nat.reduceMul, Nat.reduceSub, Int.reduceToNat, Int.reduceAdd, Int.reduceSub, Int.reduceMul, Int.reduceNeg] | refine vIf_t ?_ | refine vIf_f ?_)))
    refine vcLoop_invF (fun k : Nat => k ≤ ds.length) (fun k => ⟨286, 0, [(16, I k), (5, .sl ds.length (cTde ds)), (15, I (hiT ds k)), (14, I (loT ds k)), (8, .sl (rgL ds (ds.length - 1)).length (ints (rgL ds (ds.length - 1)))), (1, .sl more.length (bts more)), (10, .ip [I mn, I md] 0)], []⟩) (fun k => ds.length - k) 0 (by omega) (by rw [show hiT ds 0 = (gTde ds 0).lev from rfl, show loT ds 0 = (gTde ds 0).lev from rfl]; (first | (refine leF_s ?_; ((repeat (first | simp (maxSteps := 2000000) (disch := omega) only [go_sem, Nat.reduceEqDiff, Nat.reduceAdd, Nat.reduceMul, Nat.reduceSub, Int.reduceToNat, Int.reduceAdd, Int.reduceSub, Int.reduceMul, Int.reduceNeg] | refine vIf_t ?_ | refine vIf_f ?_)); all_goals (try simp); all_goals (try omega)); done) | (refine leF_p ?_; ((repeat (first | simp (maxSteps := 2000000) (disch := omega) only [go_sem, Nat.reduceEqDiff, Nat.reduceAdd, Nat.reduceMul, Nat.reduceSub, Int.reduceToNat, Int.reduceAdd, Int.reduceSub, Int.reduceMul, Int.reduceNeg] | refine vIf_t ?_ | refine vIf_f ?_)); all_goals (try simp); all_goals (try omega)); done))) ?_
    intro k hk
    obtain ⟨l1, l2⟩ := loT_bd X k hk
    obtain ⟨l3, l4⟩ := hiT_bd X k hk
    (repeat (first | simp (maxSteps := 2000000) (disch := omega) only [go_sem, Nat.reduceEqDiff, Nat.reduceAdd, Nat.reduceMul, Nat.reduceSub, Int.reduceToNat, Int.reduceAdd, Int.reduceSub, Int.reduceMul, Int.reduceNeg] | refine vIf_t ?_ | refine vIf_f ?_))
    refine vIf_dec (fun h => ?_) (fun h => ?_)
    · have hkl : k < ds.length := by omega
      have q := tideAtK_ok ds X k hkl
      have m1 := X.m k hkl
      have m2 := X.l k hkl
      have ne : ((gTde ds k).lev != (gTde ds k).lev) = false := by simp
      (repeat (first | simp (maxSteps := 2000000) (disch := omega) only [go_sem, Nat.reduceEqDiff, Nat.reduceAdd, Nat.reduceMul, Nat.reduceSub, Int.reduceToNat, Int.reduceAdd, Int.reduceSub, Int.reduceMul, Int.reduceNeg] | refine vIf_t ?_ | refine vIf_f ?_))
      (refine vCallX_of ?_; (repeat (first | simp (maxSteps := 2000000) (disch := omega) only [go_sem, Nat.reduceEqDiff, Nat.reduceAdd, Nat.reduceMul, Nat.reduceSub, Int.reduceToNat, Int.reduceAdd, Int.reduceSub, Int.reduceMul, Int.reduceNeg] | refine vIf_t ?_ | refine vIf_f ?_)); refine vCall_eq (q) (by simp (disch := omega) only [go_sem, Nat.reduceAdd]) rfl (by first | exact Or.inl rfl | exact Or.inr ⟨rfl, rfl⟩ | (apply Or.inr; simp only [go_sem])) ?_; (repeat (first | simp (maxSteps := 2000000) (disch := omega) only [go_sem, Nat.reduceEqDiff, Nat.reduceAdd, Nat.reduceMul, Nat.reduceSub, Int.reduceToNat, Int.reduceAdd, Int.reduceSub, Int.reduceMul, Int.reduceNeg] | refine vIf_t ?_ | refine vIf_f ?_)))
      (refine vDraw_sch 10 [(0, false), (1, false), (2, false), (3, false), (4, false), (5, false), (6, false), (7, false), (8, false), (9, false)] mixed (by kernel_rfl) ?_; simp only [List.cons_append, List.nil_append, List.map_cons, List.map_nil, nthO_zero, nthO_succ, List.drop_succ_cons, List.drop_zero, List.drop_nil]; (repeat (first | simp (maxSteps := 2000000) (disch := omega) only [go_sem, Nat.reduceEqDiff, Nat.reduceAdd, Nat.reduceMul, Nat.reduceSub, Int.reduceToNat, Int.reduceAdd, Int.reduceSub, Int.reduceMul, Int.reduceNeg] | refine vIf_t ?_ | refine vIf_f ?_)))
      (try (repeat (first | simp (maxSteps := 2000000) (disch := omega) only [go_sem, Nat.reduceEqDiff, Nat.reduceAdd, Nat.reduceMul, Nat.reduceSub, Int.reduceToNat, Int.reduceAdd, Int.reduceSub, Int.reduceMul, Int.reduceNeg, ne] | refine vIf_t ?_ | refine vIf_f ?_)))
      refine againF (k + 1) (by omega) (by omega) ?_
      simp only [loT, hiT]
      (first | (refine leF_s ?_; ((repeat (first | simp (maxSteps := 2000000) (disch := omega) only [go_sem, Nat.reduceEqDiff, Nat.reduceAdd, Nat.reduceMul, Nat.reduceSub, Int.reduceToNat, Int.reduceAdd, Int.reduceSub, Int.reduceMul, Int.reduceNeg] | refine vIf_t ?_ | refine vIf_f ?_)); all_goals (try simp); all_goals (try omega)); done) | (refine leF_p ?_; ((repeat (first | simp (maxSteps := 2000000) (disch := omega) only [go_sem, Nat.reduceEqDiff, Nat.reduceAdd, Nat.reduceMul, Nat.reduceSub, Int.reduceToNat, Int.reduceAdd, Int.reduceSub, Int.reduceMul, Int.reduceNeg] | refine vIf_t ?_ | refine vIf_f ?_)); all_goals (try simp); all_goals (try omega)); done))
    · have ek : k = ds.length := by omega
      have w1 := b3 (loT ds k) (by unfold mtD mtM; exact mtK_lo X (fun i hi => l2 i (by omega)) (ds.length - 1) (by omega))
      have w2 := b4 (hiT ds k) (by unfold mtD mtM; exact mtK_hi X (fun i hi => l4 i (by omega)) (ds.length - 1) (by omega))
      have v1 := mulb (a := loT ds k) (b := md) (n := 1500) (m := 100000) (by omega) (by omega) (by omega)
      have v2 := mulb (a := hiT ds k) (b := md) (n := 1500) (m := 100000) (by omega) (by omega) (by omega)
      generalize loT ds k = lo at l1 l2 w1 v1 ⊢
      generalize hiT ds k = hi at l3 l4 w2 v2 ⊢
      have c1 : decide (md < 1) = false := decide_eq_false (by omega)
      have c2 : decide (100000 < md) = false := decide_eq_false (by omega)
      have c3 : decide (1000000000 < (if mn < -mn then -mn else mn)) = false := decide_eq_false (by split <;> omega)
      have c4 : decide (mn < lo * md) = false := decide_eq_false (by omega)
      have c5 : decide (hi * md < mn) = false := decide_eq_false (by omega)
      have d2 := a2At_ok more 0 ((ds.length : Int) - 1) hb' (by omega) (by omega) (by omega)
      have d3 := atV_bd more 0 ((ds.length : Int) - 1) hb' (by omega) (by omega)
      obtain ⟨j, hj⟩ : ∃ j : Nat, atV more 0 ((ds.length : Int) - 1) = j := ⟨(atV more 0 ((ds.length : Int) - 1)).toNat, by omega⟩
      rw [hj] at d2 d3
      unfold bS at d2
      have m1 := X.m j (by omega)
      have m2 := X.m (j + 1) (by omega)
      have v3 := X.l j (by omega)
      have v4 := X.l (j + 1) (by omega)
      have st := (X.s j (by omega)).1
      obtain ⟨T, hT⟩ : ∃ T, (gTde ds (j + 1)).min - (gTde ds j).min = T := ⟨_, rfl⟩
      have d4 := a2At_ok more 1 (T + 1) hb' (by omega) (by omega) (by omega)
      have d5 := atV_bd more 1 (T + 1) hb' (by omega) (by omega)
      obtain ⟨y, hy⟩ : ∃ y, atV more 1 (T + 1) = y := ⟨_, rfl⟩
      rw [hy] at d4 d5
      unfold bS at d4
      have o1 : (gTde ds 0).min ≤ (gTde ds j).min := by
        rcases Nat.eq_zero_or_pos j with e | e
        · rw [e]; omega
        · have := X.lt e (by omega); omega
      have o2 : (gTde ds (j + 1)).min ≤ (gTde ds (ds.length - 1)).min := by
        by_cases e : j + 1 = ds.length - 1
        · rw [← e]; omega
        · have := X.lt (i := j + 1) (j := ds.length - 1) (by omega) (by omega); omega
      have q := tideAtF_ok ds X ((gTde ds j).min + y) (by omega) (by omega)
      have jt : ((j : Int) + 1).toNat = j + 1 := by omega
      have hrg := rgL_get ds (ds.length - 1) j (by omega)
      (repeat (first | simp (maxSteps := 2000000) (disch := omega) only [go_sem, Nat.reduceEqDiff, Nat.reduceAdd, Nat.reduceMul, Nat.reduceSub, Int.reduceToNat, Int.reduceAdd, Int.reduceSub, Int.reduceMul, Int.reduceNeg, c1, c2, c3, c4, c5] | refine vIf_t ?_ | refine vIf_f ?_))
      (refine vCallX_keep [8, 5, 1, 192, 195] rfl ?_; (repeat (first | simp (maxSteps := 2000000) (disch := omega) only [go_sem, Nat.reduceEqDiff, Nat.reduceAdd, Nat.reduceMul, Nat.reduceSub, Int.reduceToNat, Int.reduceAdd, Int.reduceSub, Int.reduceMul, Int.reduceNeg] | refine vIf_t ?_ | refine vIf_f ?_)))
      (refine vCallX_of ?_; (repeat (first | simp (maxSteps := 2000000) (disch := omega) only [go_sem, Nat.reduceEqDiff, Nat.reduceAdd, Nat.reduceMul, Nat.reduceSub, Int.reduceToNat, Int.reduceAdd, Int.reduceSub, Int.reduceMul, Int.reduceNeg] | refine vIf_t ?_ | refine vIf_f ?_)); refine vCall_eq (d2) (by simp (disch := omega) only [go_sem, Nat.reduceAdd]) rfl (by first | exact Or.inl rfl | exact Or.inr ⟨rfl, rfl⟩ | (apply Or.inr; simp only [go_sem])) ?_; (repeat (first | simp (maxSteps := 2000000) (disch := omega) only [go_sem, Nat.reduceEqDiff, Nat.reduceAdd, Nat.reduceMul, Nat.reduceSub, Int.reduceToNat, Int.reduceAdd, Int.reduceSub, Int.reduceMul, Int.reduceNeg] | refine vIf_t ?_ | refine vIf_f ?_)))
      simp only [jt]
      (refine vDraw_sch 10 [(0, false), (2, false), (3, false), (5, false), (1, false), (4, false), (6, true), (7, false), (8, false), (9, false)] mixed (by kernel_rfl) ?_; simp only [List.cons_append, List.nil_append, List.map_cons, List.map_nil, nthO_zero, nthO_succ, List.drop_succ_cons, List.drop_zero, List.drop_nil]; (repeat (first | simp (maxSteps := 2000000) (disch := omega) only [go_sem, Nat.reduceEqDiff, Nat.reduceAdd, Nat.reduceMul, Nat.reduceSub, Int.reduceToNat, Int.reduceAdd, Int.reduceSub, Int.reduceMul, Int.reduceNeg] | refine vIf_t ?_ | refine vIf_f ?_)))
      simp only [hT]
      (try (repeat (first | simp (maxSteps := 2000000) (disch := omega) only [go_sem, Nat.reduceEqDiff, Nat.reduceAdd, Nat.reduceMul, Nat.reduceSub, Int.reduceToNat, Int.reduceAdd, Int.reduceSub, Int.reduceMul, Int.reduceNeg] | refine vIf_t ?_ | refine vIf_f ?_)))
      (refine vsCallX_of ?_; (try (repeat (first | simp (maxSteps := 2000000) (disch := omega) only [go_sem, Nat.reduceEqDiff, Nat.reduceAdd, Nat.reduceMul, Nat.reduceSub, Int.reduceToNat, Int.reduceAdd, Int.reduceSub, Int.reduceMul, Int.reduceNeg] | refine vIf_t ?_ | refine vIf_f ?_))); refine vCall_eq (d4) (by simp (disch := omega) only [go_sem, Nat.reduceAdd]) rfl (by first | exact Or.inl rfl | exact Or.inr ⟨rfl, rfl⟩ | (apply Or.inr; simp only [go_sem])) ?_; (try (repeat (first | simp (maxSteps := 2000000) (disch := omega) only [go_sem, Nat.reduceEqDiff, Nat.reduceAdd, Nat.reduceMul, Nat.reduceSub, Int.reduceToNat, Int.reduceAdd, Int.reduceSub, Int.reduceMul, Int.reduceNeg] | refine vIf_t ?_ | refine vIf_f ?_))))
      (try (repeat (first | simp (maxSteps := 2000000) (disch := omega) only [go_sem, Nat.reduceEqDiff, Nat.reduceAdd, Nat.reduceMul, Nat.reduceSub, Int.reduceToNat, Int.reduceAdd, Int.reduceSub, Int.reduceMul, Int.reduceNeg] | refine vIf_t ?_ | refine vIf_f ?_)))
      (refine vCallX_keep [20, 21, 19, 8, 22, 5, 218, 219] rfl ?_; (repeat (first | simp (maxSteps := 2000000) (disch := omega) only [go_sem, Nat.reduceEqDiff, Nat.reduceAdd, Nat.reduceMul, Nat.reduceSub, Int.reduceToNat, Int.reduceAdd, Int.reduceSub, Int.reduceMul, Int.reduceNeg] | refine vIf_t ?_ | refine vIf_f ?_)))
      (refine vCallX_of ?_; (repeat (first | simp (maxSteps := 2000000) (disch := omega) only [go_sem, Nat.reduceEqDiff, Nat.reduceAdd, Nat.reduceMul, Nat.reduceSub, Int.reduceToNat, Int.reduceAdd, Int.reduceSub, Int.reduceMul, Int.reduceNeg] | refine vIf_t ?_ | refine vIf_f ?_)); refine vCall_ex (q) (by simp (disch := omega) only [go_sem, Nat.reduceAdd]) rfl ?_); rintro _ _ ⟨i, hS, rfl, rfl⟩; (refine ⟨(by first | exact Or.inl rfl | exact Or.inr ⟨rfl, rfl⟩ | (apply Or.inr; simp only [go_sem])), ?_⟩; (repeat (first | simp (maxSteps := 2000000) (disch := omega) only [go_sem, Nat.reduceEqDiff, Nat.reduceAdd, Nat.reduceMul, Nat.reduceSub, Int.reduceToNat, Int.reduceAdd, Int.reduceSub, Int.reduceMul, Int.reduceNeg] | refine vIf_t ?_ | refine vIf_f ?_)))
      obtain ⟨t1, t2, t3⟩ := tN_bd X hS
      obtain ⟨x1, x2, x3, x4⟩ := frac_bd (M := tN ds ((gTde ds j).min + y) i) (D := tT ds i) (by omega) (by unfold tN; omega)
      generalize tN ds ((gTde ds j).min + y) i / (Int.gcd (tN ds ((gTde ds j).min + y) i) (tT ds i) : Int) = fn at x2 x3 x4 ⊢
      generalize tT ds i / (Int.gcd (tN ds ((gTde ds j).min + y) i) (tT ds i) : Int) = fd at x1 x3 x4 ⊢
      have y3 : (if (gTde ds (j + 1)).lev < (gTde ds j).lev then (gTde ds (j + 1)).lev else (gTde ds j).lev) * fd ≤ fn := x3 _ (between X (k := j) (by omega) ⟨by omega, by omega⟩ hS (hi := 2000) ⟨by split <;> omega, by split <;> omega⟩ ⟨by omega, by omega⟩).1
      have y4 : fn ≤ (if (gTde ds j).lev < (gTde ds (j + 1)).lev then (gTde ds (j + 1)).lev else (gTde ds j).lev) * fd := x4 _ (between X (k := j) (by omega) ⟨by omega, by omega⟩ hS (lo := -2000) ⟨by omega, by omega⟩ ⟨by split <;> omega, by split <;> omega⟩).2
      obtain ⟨A, hA⟩ : ∃ A, (if (gTde ds (j + 1)).lev < (gTde ds j).lev then (gTde ds (j + 1)).lev else (gTde ds j).lev) = A := ⟨_, rfl⟩
      obtain ⟨B', hB'⟩ : ∃ B', (if (gTde ds j).lev < (gTde ds (j + 1)).lev then (gTde ds (j + 1)).lev else (gTde ds j).lev) = B' := ⟨_, rfl⟩
      have bA : -1500 ≤ A ∧ A ≤ 1500 := by rw [← hA]; split <;> omega
      have bB : -1500 ≤ B' ∧ B' ≤ 1500 := by rw [← hB']; split <;> omega
      have v5 := mulb (a := A) (b := fd) (n := 1500) (m := 100000) (by omega) (by omega) (by omega)
      have v6 := mulb (a := B') (b := fd) (n := 1500) (m := 100000) (by omega) (by omega) (by omega)
      have w5 : IntKind.wrap .i64 (A * fd) = A * fd := wrap_i64_id _ (by omega)
      have w6 : IntKind.wrap .i64 (B' * fd) = B' * fd := wrap_i64_id _ (by omega)
      rw [hA] at y3
      rw [hB'] at y4
      have e1 : decide (fd < 1) = false := decide_eq_false (by omega)
      have e2 : decide (100000 < fd) = false := decide_eq_false (by omega)
      have e4 : decide (A * fd ≤ fn) = true := decide_eq_true (by omega)
      have e5 : decide (fn ≤ B' * fd) = true := decide_eq_true (by omega)
      have e6 : (gi (rgL ds (ds.length - 1)) j == (if (gTde ds j).lev - (gTde ds (j + 1)).lev < (gTde ds (j + 1)).lev - (gTde ds j).lev then (gTde ds (j + 1)).lev - (gTde ds j).lev else (gTde ds j).lev - (gTde ds (j + 1)).lev)) = true := by
        rw [hrg, beq_iff_eq]; split <;> omega
      (try (repeat (first | simp (maxSteps := 2000000) (disch := omega) only [go_sem, Nat.reduceEqDiff, Nat.reduceAdd, Nat.reduceMul, Nat.reduceSub, Int.reduceToNat, Int.reduceAdd, Int.reduceSub, Int.reduceMul, Int.reduceNeg, e1, e2] | refine vIf_t ?_ | refine vIf_f ?_)))
      (refine vDraw_sch 40 ([(0, false), (2, false), (4, false), (7, false), (1, false), (3, false), (5, false), (6, false), (8, true), (9, false), (10, false), (11, false), (12, false), (13, false), (14, false), (15, false), (16, false), (17, false), (18, false), (19, false)] ++ [(20, false), (21, false), (22, false), (23, false), (24, false), (25, false), (26, false), (27, false), (28, false), (29, false), (30, false), (31, false), (32, false), (33, false), (34, false), (35, false), (36, false), (37, false), (38, false), (39, false)]) mixed (by kernel_rfl) ?_; simp only [List.cons_append, List.nil_append, List.map_cons, List.map_nil, nthO_zero, nthO_succ, List.drop_succ_cons, List.drop_zero, List.drop_nil]; (repeat (first | simp (maxSteps := 2000000) (disch := omega) only [go_sem, Nat.reduceEqDiff, Nat.reduceAdd, Nat.reduceMul, Nat.reduceSub, Int.reduceToNat, Int.reduceAdd, Int.reduceSub, Int.reduceMul, Int.reduceNeg] | refine vIf_t ?_ | refine vIf_f ?_)))
      (try (repeat (first | simp (maxSteps := 2000000) (disch := omega) only [go_sem, Nat.reduceEqDiff, Nat.reduceAdd, Nat.reduceMul, Nat.reduceSub, Int.reduceToNat, Int.reduceAdd, Int.reduceSub, Int.reduceMul, Int.reduceNeg, hA, e4] | refine vIf_t ?_ | refine vIf_f ?_)))
      (try (repeat (first | simp (maxSteps := 2000000) (disch := omega) only [go_sem, Nat.reduceEqDiff, Nat.reduceAdd, Nat.reduceMul, Nat.reduceSub, Int.reduceToNat, Int.reduceAdd, Int.reduceSub, Int.reduceMul, Int.reduceNeg, hB', e5] | refine vIf_t ?_ | refine vIf_f ?_)))
      (try (repeat (first | simp (maxSteps := 2000000) (disch := omega) only [go_sem, Nat.reduceEqDiff, Nat.reduceAdd, Nat.reduceMul, Nat.reduceSub, Int.reduceToNat, Int.reduceAdd, Int.reduceSub, Int.reduceMul, Int.reduceNeg, e6] | refine vIf_t ?_ | refine vIf_f ?_)))
      (refine retK_of ?_; (repeat (first | simp (maxSteps := 2000000) (disch := omega) only [go_sem, Nat.reduceEqDiff, Nat.reduceAdd, Nat.reduceMul, Nat.reduceSub, Int.reduceToNat, Int.reduceAdd, Int.reduceSub, Int.reduceMul, Int.reduceNeg] | refine vIf_t ?_ | refine vIf_f ?_)))
end Go.Proofs.YtnphbdcdncmojaaDoor

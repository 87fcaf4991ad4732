/- tides: texts -/
import Derived.Test.YtnphbdcdncmojaaDoorTid3
import Derived.Test.YtnphbdcdncmojaaDoorT4
set_option linter.unusedVariables false
set_option linter.unusedSimpArgs false
namespace Go.Proofs.YtnphbdcdncmojaaDoor
open Go.AG Go.Lib

attribute [local go_sem] beq_self_eq_true bne_self_eq_false Bool.not_true
theorem txN_app (a b : List (List UInt8 × Int)) : txN (a ++ b) [] = txN a [] ++ txN b [] := by simp [txN]
/-- the pieces of the text of a table -/
def tdS (k : Nat) : List UInt8 := if k = 0 then [] else [32]
def tdP (ds : List Tde) : Nat → List (List UInt8 × Int)
  | 0 => []
  | k + 1 => tdP ds k ++ [(tdS k, (gTde ds k).min), ([58], (gTde ds k).lev)]
def tdT (ds : List Tde) (k : Nat) : List UInt8 := txN (tdP ds k) []
def tdN (ds : List Tde) : Nat → List Int
  | 0 => []
  | k + 1 => tdN ds k ++ [(gTde ds k).min, (gTde ds k).lev]
theorem tdN_eq (ds : List Tde) (k : Nat) : (tdP ds k).map (·.2) = tdN ds k := by
  induction k with
  | zero => rfl
  | succ k ih => simp [tdP, tdN, ih]
theorem tdN_len (ds : List Tde) (k : Nat) : (tdN ds k).length = 2 * k := by
  induction k with
  | zero => rfl
  | succ k ih => simp [tdN, ih]; omega
theorem tdN_get (ds : List Tde) (n k : Nat) (h : k < n) : gi (tdN ds n) (2 * k) = (gTde ds k).min ∧ gi (tdN ds n) (2 * k + 1) = (gTde ds k).lev := by
  induction n with
  | zero => omega
  | succ n ih =>
    have hl := tdN_len ds n
    simp only [tdN]
    by_cases e : k = n
    · subst e
      rw [gi_append_right _ _ _ (by omega), gi_append_right _ _ _ (by omega), hl, Nat.sub_self, show 2 * k + 1 - 2 * k = 1 by omega]
      exact ⟨rfl, rfl⟩
    · rw [gi_append_left _ _ _ (by omega), gi_append_left _ _ _ (by omega)]
      exact ih (by omega)
theorem tdP_all {u : Bool} {ds : List Tde} (X : TdX u ds) (k : Nat) (hk : k ≤ ds.length) : ∀ p ∈ tdP ds k, nOk p.2 ∧ p.1.length ≤ 1 := by
  induction k with
  | zero => intro p hp; simp [tdP] at hp
  | succ k ih =>
    intro p hp
    have m := X.m k (by omega)
    have l := X.l k (by omega)
    simp only [tdP, List.mem_append, List.mem_cons, List.not_mem_nil, or_false] at hp
    rcases hp with hp | rfl | rfl
    · exact ih (by omega) p hp
    · exact ⟨by unfold nOk; simp only; omega, by unfold tdS; split <;> simp⟩
    · exact ⟨by unfold nOk; simp only; omega, by simp⟩
theorem tdP_sep (ds : List Tde) (k : Nat) : ((tdP ds k).all fun p => sepL p.1) = true ∧ ((tdP ds k).all fun p => p.1.all fun c => decide (c.toNat < 128)) = true := by
  induction k with
  | zero => exact ⟨rfl, rfl⟩
  | succ k ih =>
    simp only [tdP, List.all_append, ih.1, ih.2, Bool.true_and]
    unfold tdS
    split <;> exact ⟨rfl, rfl⟩
theorem tdP_ne (ds : List Tde) (k : Nat) : (((tdP ds k).drop 1).all fun p => !p.1.isEmpty) = true := by
  induction k with
  | zero => rfl
  | succ k ih =>
    cases k with
    | zero => rfl
    | succ k =>
      have hl : 1 ≤ (tdP ds (k + 1)).length := by simp [tdP]
      rw [tdP, List.drop_append_of_le_length hl, List.all_append, ih]
      simp [tdS]
theorem tdP_len (ds : List Tde) (k : Nat) : (tdP ds k).length = 2 * k := by
  induction k with
  | zero => rfl
  | succ k ih => simp [tdP, ih]; omega
theorem tdT_len {u : Bool} {ds : List Tde} (X : TdX u ds) (k : Nat) (hk : k ≤ ds.length) : (tdT ds k).length ≤ 1000 := by
  have n2 := X.n2
  have h := len_txN (tdP ds k) [] 1 (tdP_all X k hk)
  rw [tdP_len] at h
  unfold tdT
  simp at h
  omega
theorem tdT_succ (ds : List Tde) (k : Nat) : tdT ds (k + 1) = tdT ds k ++ (tdS k ++ itoa (gTde ds k).min ++ [58] ++ itoa (gTde ds k).lev) := by
  unfold tdT
  rw [tdP, txN_app]
  simp [txN]
set_option maxRecDepth 20000 in
set_option maxHeartbeats 4000000 in
theorem tidesText_ok {u : Bool} (ds : List Tde) (X : TdX u ds) : ACalls Tryd.prog 31 [.sl ds.length (cTde ds)] [] (fun r o => r = St (tx (tdT ds ds.length)) ∧ o = []) := by
  refine ACalls.of_vc Tryd.func31 rfl (by decide) 32 rfl [.tmp 2] rfl (by simp) ?_
  have hv := validT_ok ds X
  have n1 := X.n1
  have n2 := X.n2
  (repeat (first | simp (maxSteps := 2000000) (disch := omega) only [go_sem, Nat.reduceEqDiff, Nat.reduceAdd, Nat.reduceMul, Nat.reduceSub, Int.reduceToNat, Int.reduceAdd, Int.reduceSub, Int.reduceMul, Int.reduceNeg] | refine vIf_t ?_ | refine vIf_f ?_))
  (refine vCallX_of ?_; (repeat (first | simp (maxSteps := 2000000) (disch := omega) only [go_sem, Nat.reduceEqDiff, Nat.reduceAdd, Nat.reduceMul, Nat.reduceSub, Int.reduceToNat, Int.reduceAdd, Int.reduceSub, Int.reduceMul, Int.reduceNeg] | refine vIf_t ?_ | refine vIf_f ?_)); refine vCall_eq (hv) (by simp (disch := omega) only [go_sem, Nat.reduceAdd]) rfl (by first | exact Or.inl rfl | exact Or.inr ⟨rfl, rfl⟩ | (apply Or.inr; simp only [go_sem])) ?_; (repeat (first | simp (maxSteps := 2000000) (disch := omega) only [go_sem, Nat.reduceEqDiff, Nat.reduceAdd, Nat.reduceMul, Nat.reduceSub, Int.reduceToNat, Int.reduceAdd, Int.reduceSub, Int.reduceMul, Int.reduceNeg] | refine vIf_t ?_ | refine vIf_f ?_)))
  refine vcLoop_invF (fun k : Nat => k ≤ ds.length) (fun k => ⟨32, 0, [(11, I k), (3, St (tx (tdT ds k))), (9, .sl ds.length (cTde ds)), (10, I ds.length)], []⟩) (fun k => ds.length - k) 0 (by omega) (by rw [show tdT ds 0 = [] from rfl]; (first | (refine leF_s ?_; ((repeat (first | simp (maxSteps := 2000000) (disch := omega) only [go_sem, Nat.reduceEqDiff, Nat.reduceAdd, Nat.reduceMul, Nat.reduceSub, Int.reduceToNat, Int.reduceAdd, Int.reduceSub, Int.reduceMul, Int.reduceNeg] | refine vIf_t ?_ | refine vIf_f ?_)); all_goals (try simp); all_goals (try omega)); done) | (refine leF_p ?_; ((repeat (first | simp (maxSteps := 2000000) (disch := omega) only [go_sem, Nat.reduceEqDiff, Nat.reduceAdd, Nat.reduceMul, Nat.reduceSub, Int.reduceToNat, Int.reduceAdd, Int.reduceSub, Int.reduceMul, Int.reduceNeg] | refine vIf_t ?_ | refine vIf_f ?_)); all_goals (try simp); all_goals (try omega)); done))) ?_
  intro k hk
  (repeat (first | simp (maxSteps := 2000000) (disch := omega) only [go_sem, Nat.reduceEqDiff, Nat.reduceAdd, Nat.reduceMul, Nat.reduceSub, Int.reduceToNat, Int.reduceAdd, Int.reduceSub, Int.reduceMul, Int.reduceNeg] | refine vIf_t ?_ | refine vIf_f ?_))
  refine vIf_dec (fun h => ?_) (fun h => ?_)
  · have hkl : k < ds.length := by omega
    have m1 := X.m k hkl
    have l1 := X.l k hkl
    have d1 := decimal_ok (gTde ds k).min (by omega)
    have d2 := decimal_ok (gTde ds k).lev (by omega)
    have i1 := itoa_len (gTde ds k).min (by unfold nOk; omega)
    have i2 := itoa_len (gTde ds k).lev (by unfold nOk; omega)
    have ht := tdT_len X k (by omega)
    have es := tdT_succ ds k
    unfold tdS at es
    (repeat (first | simp (maxSteps := 2000000) (disch := omega) only [go_sem, Nat.reduceEqDiff, Nat.reduceAdd, Nat.reduceMul, Nat.reduceSub, Int.reduceToNat, Int.reduceAdd, Int.reduceSub, Int.reduceMul, Int.reduceNeg] | refine vIf_t ?_ | refine vIf_f ?_))
    by_cases h0 : k = 0
    · subst h0
      have c0 : decide ((0 : Int) < ((0 : Nat) : Int)) = false := rfl
      (try (repeat (first | simp (maxSteps := 2000000) (disch := omega) only [go_sem, Nat.reduceEqDiff, Nat.reduceAdd, Nat.reduceMul, Nat.reduceSub, Int.reduceToNat, Int.reduceAdd, Int.reduceSub, Int.reduceMul, Int.reduceNeg, c0] | refine vIf_t ?_ | refine vIf_f ?_)))
      (refine vDraw_sch 9 [(0, false), (1, false), (5, false), (2, false), (6, false), (3, false), (4, false), (7, false), (8, false)] mixed (by kernel_rfl) ?_; simp only [List.cons_append, List.nil_append, List.map_cons, List.map_nil, nthO_zero, nthO_succ, List.drop_succ_cons, List.drop_zero, List.drop_nil]; (repeat (first | simp (maxSteps := 2000000) (disch := omega) only [go_sem, Nat.reduceEqDiff, Nat.reduceAdd, Nat.reduceMul, Nat.reduceSub, Int.reduceToNat, Int.reduceAdd, Int.reduceSub, Int.reduceMul, Int.reduceNeg] | refine vIf_t ?_ | refine vIf_f ?_)))
      (refine vsCallX_of ?_; (try (repeat (first | simp (maxSteps := 2000000) (disch := omega) only [go_sem, Nat.reduceEqDiff, Nat.reduceAdd, Nat.reduceMul, Nat.reduceSub, Int.reduceToNat, Int.reduceAdd, Int.reduceSub, Int.reduceMul, Int.reduceNeg] | refine vIf_t ?_ | refine vIf_f ?_))); refine vCall_eq (d1) (by simp (disch := omega) only [go_sem, Nat.reduceAdd]) rfl (by first | exact Or.inl rfl | exact Or.inr ⟨rfl, rfl⟩ | (apply Or.inr; simp only [go_sem])) ?_; (try (repeat (first | simp (maxSteps := 2000000) (disch := omega) only [go_sem, Nat.reduceEqDiff, Nat.reduceAdd, Nat.reduceMul, Nat.reduceSub, Int.reduceToNat, Int.reduceAdd, Int.reduceSub, Int.reduceMul, Int.reduceNeg] | refine vIf_t ?_ | refine vIf_f ?_))))
      (refine vsCallX_of ?_; (try (repeat (first | simp (maxSteps := 2000000) (disch := omega) only [go_sem, Nat.reduceEqDiff, Nat.reduceAdd, Nat.reduceMul, Nat.reduceSub, Int.reduceToNat, Int.reduceAdd, Int.reduceSub, Int.reduceMul, Int.reduceNeg] | refine vIf_t ?_ | refine vIf_f ?_))); refine vCall_eq (d2) (by simp (disch := omega) only [go_sem, Nat.reduceAdd]) rfl (by first | exact Or.inl rfl | exact Or.inr ⟨rfl, rfl⟩ | (apply Or.inr; simp only [go_sem])) ?_; (try (repeat (first | simp (maxSteps := 2000000) (disch := omega) only [go_sem, Nat.reduceEqDiff, Nat.reduceAdd, Nat.reduceMul, Nat.reduceSub, Int.reduceToNat, Int.reduceAdd, Int.reduceSub, Int.reduceMul, Int.reduceNeg] | refine vIf_t ?_ | refine vIf_f ?_))))
      (try (repeat (first | simp (maxSteps := 2000000) (disch := omega) only [go_sem, Nat.reduceEqDiff, Nat.reduceAdd, Nat.reduceMul, Nat.reduceSub, Int.reduceToNat, Int.reduceAdd, Int.reduceSub, Int.reduceMul, Int.reduceNeg] | refine vIf_t ?_ | refine vIf_f ?_)))
      refine againF 1 (by omega) (by omega) ?_
      rw [es, if_pos rfl]
      simp only [List.append_assoc, List.nil_append]
      (first | (refine leF_s ?_; ((repeat (first | simp (maxSteps := 2000000) (disch := omega) only [go_sem, Nat.reduceEqDiff, Nat.reduceAdd, Nat.reduceMul, Nat.reduceSub, Int.reduceToNat, Int.reduceAdd, Int.reduceSub, Int.reduceMul, Int.reduceNeg] | refine vIf_t ?_ | refine vIf_f ?_)); all_goals (try simp); all_goals (try omega)); done) | (refine leF_p ?_; ((repeat (first | simp (maxSteps := 2000000) (disch := omega) only [go_sem, Nat.reduceEqDiff, Nat.reduceAdd, Nat.reduceMul, Nat.reduceSub, Int.reduceToNat, Int.reduceAdd, Int.reduceSub, Int.reduceMul, Int.reduceNeg] | refine vIf_t ?_ | refine vIf_f ?_)); all_goals (try simp); all_goals (try omega)); done))
    · have c0 : decide ((0 : Int) < (k : Int)) = true := decide_eq_true (by omega)
      (try (repeat (first | simp (maxSteps := 2000000) (disch := omega) only [go_sem, Nat.reduceEqDiff, Nat.reduceAdd, Nat.reduceMul, Nat.reduceSub, Int.reduceToNat, Int.reduceAdd, Int.reduceSub, Int.reduceMul, Int.reduceNeg, c0] | refine vIf_t ?_ | refine vIf_f ?_)))
      (refine vDraw_sch 9 [(0, false), (1, false), (5, false), (2, false), (6, false), (3, false), (4, false), (7, false), (8, false)] mixed (by kernel_rfl) ?_; simp only [List.cons_append, List.nil_append, List.map_cons, List.map_nil, nthO_zero, nthO_succ, List.drop_succ_cons, List.drop_zero, List.drop_nil]; (repeat (first | simp (maxSteps := 2000000) (disch := omega) only [go_sem, Nat.reduceEqDiff, Nat.reduceAdd, Nat.reduceMul, Nat.reduceSub, Int.reduceToNat, Int.reduceAdd, Int.reduceSub, Int.reduceMul, Int.reduceNeg] | refine vIf_t ?_ | refine vIf_f ?_)))
      (refine vsCallX_of ?_; (try (repeat (first | simp (maxSteps := 2000000) (disch := omega) only [go_sem, Nat.reduceEqDiff, Nat.reduceAdd, Nat.reduceMul, Nat.reduceSub, Int.reduceToNat, Int.reduceAdd, Int.reduceSub, Int.reduceMul, Int.reduceNeg] | refine vIf_t ?_ | refine vIf_f ?_))); refine vCall_eq (d1) (by simp (disch := omega) only [go_sem, Nat.reduceAdd]) rfl (by first | exact Or.inl rfl | exact Or.inr ⟨rfl, rfl⟩ | (apply Or.inr; simp only [go_sem])) ?_; (try (repeat (first | simp (maxSteps := 2000000) (disch := omega) only [go_sem, Nat.reduceEqDiff, Nat.reduceAdd, Nat.reduceMul, Nat.reduceSub, Int.reduceToNat, Int.reduceAdd, Int.reduceSub, Int.reduceMul, Int.reduceNeg] | refine vIf_t ?_ | refine vIf_f ?_))))
      (refine vsCallX_of ?_; (try (repeat (first | simp (maxSteps := 2000000) (disch := omega) only [go_sem, Nat.reduceEqDiff, Nat.reduceAdd, Nat.reduceMul, Nat.reduceSub, Int.reduceToNat, Int.reduceAdd, Int.reduceSub, Int.reduceMul, Int.reduceNeg] | refine vIf_t ?_ | refine vIf_f ?_))); refine vCall_eq (d2) (by simp (disch := omega) only [go_sem, Nat.reduceAdd]) rfl (by first | exact Or.inl rfl | exact Or.inr ⟨rfl, rfl⟩ | (apply Or.inr; simp only [go_sem])) ?_; (try (repeat (first | simp (maxSteps := 2000000) (disch := omega) only [go_sem, Nat.reduceEqDiff, Nat.reduceAdd, Nat.reduceMul, Nat.reduceSub, Int.reduceToNat, Int.reduceAdd, Int.reduceSub, Int.reduceMul, Int.reduceNeg] | refine vIf_t ?_ | refine vIf_f ?_))))
      (try (repeat (first | simp (maxSteps := 2000000) (disch := omega) only [go_sem, Nat.reduceEqDiff, Nat.reduceAdd, Nat.reduceMul, Nat.reduceSub, Int.reduceToNat, Int.reduceAdd, Int.reduceSub, Int.reduceMul, Int.reduceNeg] | refine vIf_t ?_ | refine vIf_f ?_)))
      refine againF (k + 1) (by omega) (by omega) ?_
      rw [es, if_neg h0]
      simp only [List.append_assoc]
      (first | (refine leF_s ?_; ((repeat (first | simp (maxSteps := 2000000) (disch := omega) only [go_sem, Nat.reduceEqDiff, Nat.reduceAdd, Nat.reduceMul, Nat.reduceSub, Int.reduceToNat, Int.reduceAdd, Int.reduceSub, Int.reduceMul, Int.reduceNeg] | refine vIf_t ?_ | refine vIf_f ?_)); all_goals (try simp); all_goals (try omega)); done) | (refine leF_p ?_; ((repeat (first | simp (maxSteps := 2000000) (disch := omega) only [go_sem, Nat.reduceEqDiff, Nat.reduceAdd, Nat.reduceMul, Nat.reduceSub, Int.reduceToNat, Int.reduceAdd, Int.reduceSub, Int.reduceMul, Int.reduceNeg] | refine vIf_t ?_ | refine vIf_f ?_)); all_goals (try simp); all_goals (try omega)); done))
  · (repeat (first | simp (maxSteps := 2000000) (disch := omega) only [go_sem, Nat.reduceEqDiff, Nat.reduceAdd, Nat.reduceMul, Nat.reduceSub, Int.reduceToNat, Int.reduceAdd, Int.reduceSub, Int.reduceMul, Int.reduceNeg] | refine vIf_t ?_ | refine vIf_f ?_))
    (refine retK_of ?_; (repeat (first | simp (maxSteps := 2000000) (disch := omega) only [go_sem, Nat.reduceEqDiff, Nat.reduceAdd, Nat.reduceMul, Nat.reduceSub, Int.reduceToNat, Int.reduceAdd, Int.reduceSub, Int.reduceMul, Int.reduceNeg] | refine vIf_t ?_ | refine vIf_f ?_)))
    rw [show k = ds.length by omega]
    try exact ⟨rfl, rfl⟩
set_option maxRecDepth 20000 in
set_option maxHeartbeats 4000000 in
theorem readTides_ok {u : Bool} (ds : List Tde) (X : TdX u ds) : ACalls Tryd.prog 30 [St (tx (tdT ds ds.length))] [] (fun r o => r = .tup [.sl ds.length (cTde ds), B true] ∧ o = []) := by
  refine ACalls.of_vc Tryd.func30 rfl (by decide) 35 rfl [.tmp 2, .tmp 3] rfl (by simp) ?_
  have hv := validT_ok ds X
  have n1 := X.n1
  have n2 := X.n2
  have hl := tdT_len X ds.length (Nat.le_refl _)
  have hnl := tdN_len ds ds.length
  have hf := flG_txN (tdP ds ds.length) [] (tdP_sep ds _).1 (tdP_ne ds _) rfl
  rw [tdN_eq] at hf
  have hnum := numbersIn_ok (tdT ds ds.length) (tdN ds ds.length) (asc_txN _ _ (tdP_sep ds _).2 rfl) (by omega) hf (by
    rw [← tdN_eq]
    intro n hn
    obtain ⟨p, hp, rfl⟩ := List.mem_map.1 hn
    exact (tdP_all X ds.length (Nat.le_refl _) p hp).1) (by omega)
  have h3 := tidesText_ok ds X
  (repeat (first | simp (maxSteps := 2000000) (disch := omega) only [go_sem, Nat.reduceEqDiff, Nat.reduceAdd, Nat.reduceMul, Nat.reduceSub, Int.reduceToNat, Int.reduceAdd, Int.reduceSub, Int.reduceMul, Int.reduceNeg] | refine vIf_t ?_ | refine vIf_f ?_))
  (refine vCallX_of ?_; (repeat (first | simp (maxSteps := 2000000) (disch := omega) only [go_sem, Nat.reduceEqDiff, Nat.reduceAdd, Nat.reduceMul, Nat.reduceSub, Int.reduceToNat, Int.reduceAdd, Int.reduceSub, Int.reduceMul, Int.reduceNeg] | refine vIf_t ?_ | refine vIf_f ?_)); refine vCall_eq (hnum) (by simp (disch := omega) only [go_sem, Nat.reduceAdd]) rfl (by first | exact Or.inl rfl | exact Or.inr ⟨rfl, rfl⟩ | (apply Or.inr; simp only [go_sem])) ?_; (repeat (first | simp (maxSteps := 2000000) (disch := omega) only [go_sem, Nat.reduceEqDiff, Nat.reduceAdd, Nat.reduceMul, Nat.reduceSub, Int.reduceToNat, Int.reduceAdd, Int.reduceSub, Int.reduceMul, Int.reduceNeg] | refine vIf_t ?_ | refine vIf_f ?_)))
  refine vcLoop_invF (fun k : Nat => k ≤ ds.length) (fun k => ⟨35, 0, [(5, .ref 1 (2 * k) (2 * ds.length - 2 * k)), (4, .ref 0 0 k), (0, St (tx (tdT ds ds.length)))], [some ⟨2, cTde (ds.take k)⟩, oI (tdN ds ds.length)]⟩) (fun k => ds.length - k) 0 (by omega) (by rw [hnl]; simp only [List.take_zero]; (first | (refine leF_s ?_; ((repeat (first | simp (maxSteps := 2000000) (disch := omega) only [go_sem, Nat.reduceEqDiff, Nat.reduceAdd, Nat.reduceMul, Nat.reduceSub, Int.reduceToNat, Int.reduceAdd, Int.reduceSub, Int.reduceMul, Int.reduceNeg] | refine vIf_t ?_ | refine vIf_f ?_)); all_goals (try simp); all_goals (try omega)); done) | (refine leF_p ?_; ((repeat (first | simp (maxSteps := 2000000) (disch := omega) only [go_sem, Nat.reduceEqDiff, Nat.reduceAdd, Nat.reduceMul, Nat.reduceSub, Int.reduceToNat, Int.reduceAdd, Int.reduceSub, Int.reduceMul, Int.reduceNeg] | refine vIf_t ?_ | refine vIf_f ?_)); all_goals (try simp); all_goals (try omega)); done))) ?_
  intro k hk
  have hlt : (ds.take k).length = k := by simp; omega
  (repeat (first | simp (maxSteps := 2000000) (disch := omega) only [go_sem, Nat.reduceEqDiff, Nat.reduceAdd, Nat.reduceMul, Nat.reduceSub, Int.reduceToNat, Int.reduceAdd, Int.reduceSub, Int.reduceMul, Int.reduceNeg] | refine vIf_t ?_ | refine vIf_f ?_))
  refine vIf_dec (fun h => ?_) (fun h => ?_)
  · have hkl : k < ds.length := by omega
    obtain ⟨g0, g1⟩ := tdN_get ds ds.length k hkl
    have et := gTde_take_succ ds k hkl
    (repeat (first | simp (maxSteps := 2000000) (disch := omega) only [go_sem, Nat.reduceEqDiff, Nat.reduceAdd, Nat.reduceMul, Nat.reduceSub, Int.reduceToNat, Int.reduceAdd, Int.reduceSub, Int.reduceMul, Int.reduceNeg] | refine vIf_t ?_ | refine vIf_f ?_))
    (refine vDraw_sch 9 [(0, false), (1, false), (2, false), (4, false), (5, false), (3, false), (6, true), (7, false), (8, false)] mixed (by kernel_rfl) ?_; simp only [List.cons_append, List.nil_append, List.map_cons, List.map_nil, nthO_zero, nthO_succ, List.drop_succ_cons, List.drop_zero, List.drop_nil]; (repeat (first | simp (maxSteps := 2000000) (disch := omega) only [go_sem, Nat.reduceEqDiff, Nat.reduceAdd, Nat.reduceMul, Nat.reduceSub, Int.reduceToNat, Int.reduceAdd, Int.reduceSub, Int.reduceMul, Int.reduceNeg] | refine vIf_t ?_ | refine vIf_f ?_)))
    (try (repeat (first | simp (maxSteps := 2000000) (disch := omega) only [go_sem, Nat.reduceEqDiff, Nat.reduceAdd, Nat.reduceMul, Nat.reduceSub, Int.reduceToNat, Int.reduceAdd, Int.reduceSub, Int.reduceMul, Int.reduceNeg, g0, g1] | refine vIf_t ?_ | refine vIf_f ?_)))
    refine againF (k + 1) (by omega) (by omega) ?_
    rw [et]
    (first | (refine leF_s ?_; ((repeat (first | simp (maxSteps := 2000000) (disch := omega) only [go_sem, Nat.reduceEqDiff, Nat.reduceAdd, Nat.reduceMul, Nat.reduceSub, Int.reduceToNat, Int.reduceAdd, Int.reduceSub, Int.reduceMul, Int.reduceNeg] | refine vIf_t ?_ | refine vIf_f ?_)); all_goals (try simp); all_goals (try omega)); done) | (refine leF_p ?_; ((repeat (first | simp (maxSteps := 2000000) (disch := omega) only [go_sem, Nat.reduceEqDiff, Nat.reduceAdd, Nat.reduceMul, Nat.reduceSub, Int.reduceToNat, Int.reduceAdd, Int.reduceSub, Int.reduceMul, Int.reduceNeg] | refine vIf_t ?_ | refine vIf_f ?_)); all_goals (try simp); all_goals (try omega)); done))
  · have ek : k = ds.length := by omega
    subst ek
    (repeat (first | simp (maxSteps := 2000000) (disch := omega) only [go_sem, Nat.reduceEqDiff, Nat.reduceAdd, Nat.reduceMul, Nat.reduceSub, Int.reduceToNat, Int.reduceAdd, Int.reduceSub, Int.reduceMul, Int.reduceNeg, List.take_length] | refine vIf_t ?_ | refine vIf_f ?_))
    (refine vCallX_of ?_; (repeat (first | simp (maxSteps := 2000000) (disch := omega) only [go_sem, Nat.reduceEqDiff, Nat.reduceAdd, Nat.reduceMul, Nat.reduceSub, Int.reduceToNat, Int.reduceAdd, Int.reduceSub, Int.reduceMul, Int.reduceNeg] | refine vIf_t ?_ | refine vIf_f ?_)); refine vCall_eq (hv) (by simp (disch := omega) only [go_sem, Nat.reduceAdd]) rfl (by first | exact Or.inl rfl | exact Or.inr ⟨rfl, rfl⟩ | (apply Or.inr; simp only [go_sem])) ?_; (repeat (first | simp (maxSteps := 2000000) (disch := omega) only [go_sem, Nat.reduceEqDiff, Nat.reduceAdd, Nat.reduceMul, Nat.reduceSub, Int.reduceToNat, Int.reduceAdd, Int.reduceSub, Int.reduceMul, Int.reduceNeg] | refine vIf_t ?_ | refine vIf_f ?_)))
    (refine vCallX_of ?_; (repeat (first | simp (maxSteps := 2000000) (disch := omega) only [go_sem, Nat.reduceEqDiff, Nat.reduceAdd, Nat.reduceMul, Nat.reduceSub, Int.reduceToNat, Int.reduceAdd, Int.reduceSub, Int.reduceMul, Int.reduceNeg] | refine vIf_t ?_ | refine vIf_f ?_)); refine vCall_eq (h3) (by simp (disch := omega) only [go_sem, Nat.reduceAdd]) rfl (by first | exact Or.inl rfl | exact Or.inr ⟨rfl, rfl⟩ | (apply Or.inr; simp only [go_sem])) ?_; (repeat (first | simp (maxSteps := 2000000) (disch := omega) only [go_sem, Nat.reduceEqDiff, Nat.reduceAdd, Nat.reduceMul, Nat.reduceSub, Int.reduceToNat, Int.reduceAdd, Int.reduceSub, Int.reduceMul, Int.reduceNeg] | refine vIf_t ?_ | refine vIf_f ?_)))
    exact retK_frz (.step 0 ⟨2, cTde ds⟩ rfl (by (repeat (first | simp (maxSteps := 2000000) (disch := omega) only [go_sem, Nat.reduceEqDiff, Nat.reduceAdd, Nat.reduceMul, Nat.reduceSub, Int.reduceToNat, Int.reduceAdd, Int.reduceSub, Int.reduceMul, Int.reduceNeg] | refine vIf_t ?_ | refine vIf_f ?_))) (.refl _)) (by (repeat (first | simp (maxSteps := 2000000) (disch := omega) only [go_sem, Nat.reduceEqDiff, Nat.reduceAdd, Nat.reduceMul, Nat.reduceSub, Int.reduceToNat, Int.reduceAdd, Int.reduceSub, Int.reduceMul, Int.reduceNeg] | refine vIf_t ?_ | refine vIf_f ?_)))
end Go.Proofs.YtnphbdcdncmojaaDoor

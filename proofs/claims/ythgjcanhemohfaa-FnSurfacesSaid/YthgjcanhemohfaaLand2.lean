/- lands: neighbours -/
import Derived.Test.YthgjcanhemohfaaLand
set_option linter.unusedVariables false
set_option linter.unusedSimpArgs false
namespace Go.Proofs.Ythgjcanhemohfaa
open Go.AG

/-- the k-th neighbour, if there is one -/
def ngh (l : Ld) (c : Int) : Nat → List Int
  | 0 => if 0 < c / l.cols then [c - l.cols] else []
  | 1 => if 0 < c % l.cols then [c - 1] else []
  | 2 => if c % l.cols < l.cols - 1 then [c + 1] else []
  | 3 => if c / l.cols < l.rows - 1 then [c + l.cols] else []
  | _ => []
def nearK (l : Ld) (c : Int) : Nat → List Int
  | 0 => []
  | k + 1 => nearK l c k ++ ngh l c k
def near (l : Ld) (c : Int) : List Int := nearK l c 4
theorem ngh_len (l : Ld) (c : Int) (k : Nat) : (ngh l c k).length ≤ 1 := by
  unfold ngh; split <;> (try split) <;> simp
theorem nearK_len (l : Ld) (c : Int) (k : Nat) : (nearK l c k).length ≤ k := by
  induction k with
  | zero => simp [nearK]
  | succ k ih => simp only [nearK, List.length_append]; have := ngh_len l c k; omega
/-- the cell of a land: its row and its column -/
structure Cl (l : Ld) (c : Int) : Prop where
  fr : 1 ≤ l.rows ∧ l.rows ≤ 12
  fk : 1 ≤ l.cols ∧ l.cols ≤ 12
  fn : (l.hs.length : Int) = l.rows * l.cols
  fc : 0 ≤ c ∧ c < l.hs.length
  frm : 0 ≤ c / l.cols ∧ c / l.cols < l.rows
  fcm : 0 ≤ c % l.cols ∧ c % l.cols < l.cols
  feq : c / l.cols * l.cols + c % l.cols = c
  fs : (l.hs.length : Int) ≤ 144
theorem Cl.of {l : Ld} {c : Int} (h : okL l = true) (hc : 0 ≤ c ∧ c < l.hs.length) : Cl l c := by
  simp only [okL, Bool.and_eq_true, decide_eq_true_eq] at h
  obtain ⟨⟨⟨h1, h2⟩, h3⟩, h4⟩ := h
  have hm := mul12 h1 h2
  refine ⟨h1, h2, h3, hc, ⟨Int.ediv_nonneg hc.1 (by omega), ?_⟩, ⟨Int.emod_nonneg _ (by omega), Int.emod_lt_of_pos _ (by omega)⟩, by rw [Int.mul_comm]; exact Int.mul_ediv_add_emod c l.cols, by omega⟩
  rw [Int.ediv_lt_iff_lt_mul (by omega)]
  omega
theorem okL_h {l : Ld} (h : okL l = true) (i : Nat) (hi : i < l.hs.length) : -2000 ≤ gi l.hs i ∧ gi l.hs i ≤ 2000 := by
  simp only [okL, Bool.and_eq_true, List.all_eq_true, decide_eq_true_eq] at h
  exact h.2 _ (gi_mem _ _ hi)

set_option maxHeartbeats 4000000 in
theorem nearS_ok (l : Ld) (c : Int) (g : Cl l c) : ACalls Try.prog 106 [.ip (lC l) 0, I c] [] (fun r o => r = .ref 0 0 (near l c).length ∧ o = [oI (near l c)]) := by
  refine ACalls.of_vc Try.func106 rfl (by decide) 68 rfl [.tmp 4] rfl (by simp) ?_
  have hr := g.fr
  have hk := g.fk
  have hc := g.fc
  have hrm := g.frm
  have hcm := g.fcm
  have hs := g.fs
  have e1 : c.tdiv l.cols = c / l.cols := Int.tdiv_eq_ediv_of_nonneg hc.1
  have e2 : c.tmod l.cols = c % l.cols := Int.tmod_eq_emod_of_nonneg hc.1
  unfold lC
  (repeat (first | simp (maxSteps := 2000000) (disch := omega) only [go_sem, ↓reduceIte, Nat.reduceEqDiff, Nat.reduceAdd, Nat.reduceMul, Nat.reduceSub, Int.reduceToNat, Int.reduceAdd, Int.reduceSub, Int.reduceMul, Int.reduceNeg, e1, e2] | with_reducible refine vIf_t ?_ | with_reducible refine vIf_f ?_))
  have hl1 := nearK_len l c 1
  have hl2 := nearK_len l c 2
  have hl3 := nearK_len l c 3
  refine vIf_join1 ⟨68, 0, [(0, .ip (lC l) 0), (1, I c), (6, I (c / l.cols)), (7, I (c % l.cols)), (5, .ref 0 0 (nearK l c 1).length)], [oI (nearK l c 1)]⟩ (fun h => ?_) (fun h => ?_) ?_
  · have h := of_decide_eq_true h
    have e : nearK l c 1 = [c - l.cols] := by simp only [nearK, ngh, if_pos h, List.nil_append]
    (repeat (first | simp (maxSteps := 2000000) (disch := omega) only [go_sem, ↓reduceIte, Nat.reduceEqDiff, Nat.reduceAdd, Nat.reduceMul, Nat.reduceSub, Int.reduceToNat, Int.reduceAdd, Int.reduceSub, Int.reduceMul, Int.reduceNeg] | with_reducible refine vIf_t ?_ | with_reducible refine vIf_f ?_))
    refine jn_same () trivial ?_
    (repeat (first | simp (maxSteps := 2000000) (disch := omega) only [go_sem, ↓reduceIte, Nat.reduceEqDiff, Nat.reduceAdd, Nat.reduceMul, Nat.reduceSub, Int.reduceToNat, Int.reduceAdd, Int.reduceSub, Int.reduceMul, Int.reduceNeg, lC, e] | with_reducible refine vIf_t ?_ | with_reducible refine vIf_f ?_))
    all_goals (try simp)
  · have h := of_decide_eq_false h
    have e : nearK l c 1 = [] := by simp only [nearK, ngh, if_neg h, List.nil_append]
    (repeat (first | simp (maxSteps := 2000000) (disch := omega) only [go_sem, ↓reduceIte, Nat.reduceEqDiff, Nat.reduceAdd, Nat.reduceMul, Nat.reduceSub, Int.reduceToNat, Int.reduceAdd, Int.reduceSub, Int.reduceMul, Int.reduceNeg] | with_reducible refine vIf_t ?_ | with_reducible refine vIf_f ?_))
    refine jn_same () trivial ?_
    (repeat (first | simp (maxSteps := 2000000) (disch := omega) only [go_sem, ↓reduceIte, Nat.reduceEqDiff, Nat.reduceAdd, Nat.reduceMul, Nat.reduceSub, Int.reduceToNat, Int.reduceAdd, Int.reduceSub, Int.reduceMul, Int.reduceNeg, lC, e] | with_reducible refine vIf_t ?_ | with_reducible refine vIf_f ?_))
    all_goals (try simp)
  unfold lC oI
  (repeat (first | simp (maxSteps := 2000000) (disch := omega) only [go_sem, ↓reduceIte, Nat.reduceEqDiff, Nat.reduceAdd, Nat.reduceMul, Nat.reduceSub, Int.reduceToNat, Int.reduceAdd, Int.reduceSub, Int.reduceMul, Int.reduceNeg] | with_reducible refine vIf_t ?_ | with_reducible refine vIf_f ?_))
  refine vIf_join1 ⟨68, 0, [(0, .ip (lC l) 0), (1, I c), (6, I (c / l.cols)), (7, I (c % l.cols)), (5, .ref 0 0 (nearK l c 2).length)], [oI (nearK l c 2)]⟩ (fun h => ?_) (fun h => ?_) ?_
  · have h := of_decide_eq_true h
    have e : nearK l c 2 = nearK l c 1 ++ [c - 1] := by rw [nearK]; simp only [ngh, if_pos h]
    (repeat (first | simp (maxSteps := 2000000) (disch := omega) only [go_sem, ↓reduceIte, Nat.reduceEqDiff, Nat.reduceAdd, Nat.reduceMul, Nat.reduceSub, Int.reduceToNat, Int.reduceAdd, Int.reduceSub, Int.reduceMul, Int.reduceNeg] | with_reducible refine vIf_t ?_ | with_reducible refine vIf_f ?_))
    refine jn_same () trivial ?_
    (repeat (first | simp (maxSteps := 2000000) (disch := omega) only [go_sem, ↓reduceIte, Nat.reduceEqDiff, Nat.reduceAdd, Nat.reduceMul, Nat.reduceSub, Int.reduceToNat, Int.reduceAdd, Int.reduceSub, Int.reduceMul, Int.reduceNeg, lC, e] | with_reducible refine vIf_t ?_ | with_reducible refine vIf_f ?_))
    all_goals (try simp)
  · have h := of_decide_eq_false h
    have e : nearK l c 2 = nearK l c 1 := by rw [nearK]; simp only [ngh, if_neg h, List.append_nil]
    (repeat (first | simp (maxSteps := 2000000) (disch := omega) only [go_sem, ↓reduceIte, Nat.reduceEqDiff, Nat.reduceAdd, Nat.reduceMul, Nat.reduceSub, Int.reduceToNat, Int.reduceAdd, Int.reduceSub, Int.reduceMul, Int.reduceNeg] | with_reducible refine vIf_t ?_ | with_reducible refine vIf_f ?_))
    refine jn_same () trivial ?_
    (repeat (first | simp (maxSteps := 2000000) (disch := omega) only [go_sem, ↓reduceIte, Nat.reduceEqDiff, Nat.reduceAdd, Nat.reduceMul, Nat.reduceSub, Int.reduceToNat, Int.reduceAdd, Int.reduceSub, Int.reduceMul, Int.reduceNeg, lC, e] | with_reducible refine vIf_t ?_ | with_reducible refine vIf_f ?_))
    all_goals (try simp)
  unfold lC oI
  (repeat (first | simp (maxSteps := 2000000) (disch := omega) only [go_sem, ↓reduceIte, Nat.reduceEqDiff, Nat.reduceAdd, Nat.reduceMul, Nat.reduceSub, Int.reduceToNat, Int.reduceAdd, Int.reduceSub, Int.reduceMul, Int.reduceNeg] | with_reducible refine vIf_t ?_ | with_reducible refine vIf_f ?_))
  refine vIf_join1 ⟨68, 0, [(0, .ip (lC l) 0), (1, I c), (6, I (c / l.cols)), (7, I (c % l.cols)), (5, .ref 0 0 (nearK l c 3).length)], [oI (nearK l c 3)]⟩ (fun h => ?_) (fun h => ?_) ?_
  · have h := of_decide_eq_true h
    have e : nearK l c 3 = nearK l c 2 ++ [c + 1] := by rw [nearK]; simp only [ngh, if_pos h]
    (repeat (first | simp (maxSteps := 2000000) (disch := omega) only [go_sem, ↓reduceIte, Nat.reduceEqDiff, Nat.reduceAdd, Nat.reduceMul, Nat.reduceSub, Int.reduceToNat, Int.reduceAdd, Int.reduceSub, Int.reduceMul, Int.reduceNeg] | with_reducible refine vIf_t ?_ | with_reducible refine vIf_f ?_))
    refine jn_same () trivial ?_
    (repeat (first | simp (maxSteps := 2000000) (disch := omega) only [go_sem, ↓reduceIte, Nat.reduceEqDiff, Nat.reduceAdd, Nat.reduceMul, Nat.reduceSub, Int.reduceToNat, Int.reduceAdd, Int.reduceSub, Int.reduceMul, Int.reduceNeg, lC, e] | with_reducible refine vIf_t ?_ | with_reducible refine vIf_f ?_))
    all_goals (try simp)
  · have h := of_decide_eq_false h
    have e : nearK l c 3 = nearK l c 2 := by rw [nearK]; simp only [ngh, if_neg h, List.append_nil]
    (repeat (first | simp (maxSteps := 2000000) (disch := omega) only [go_sem, ↓reduceIte, Nat.reduceEqDiff, Nat.reduceAdd, Nat.reduceMul, Nat.reduceSub, Int.reduceToNat, Int.reduceAdd, Int.reduceSub, Int.reduceMul, Int.reduceNeg] | with_reducible refine vIf_t ?_ | with_reducible refine vIf_f ?_))
    refine jn_same () trivial ?_
    (repeat (first | simp (maxSteps := 2000000) (disch := omega) only [go_sem, ↓reduceIte, Nat.reduceEqDiff, Nat.reduceAdd, Nat.reduceMul, Nat.reduceSub, Int.reduceToNat, Int.reduceAdd, Int.reduceSub, Int.reduceMul, Int.reduceNeg, lC, e] | with_reducible refine vIf_t ?_ | with_reducible refine vIf_f ?_))
    all_goals (try simp)
  unfold lC oI
  (repeat (first | simp (maxSteps := 2000000) (disch := omega) only [go_sem, ↓reduceIte, Nat.reduceEqDiff, Nat.reduceAdd, Nat.reduceMul, Nat.reduceSub, Int.reduceToNat, Int.reduceAdd, Int.reduceSub, Int.reduceMul, Int.reduceNeg] | with_reducible refine vIf_t ?_ | with_reducible refine vIf_f ?_))
  refine vIf_dec (fun h => ?_) (fun h => ?_)
  · have e : near l c = nearK l c 3 ++ [c + l.cols] := by unfold near; rw [nearK]; simp only [ngh, if_pos h]
    (repeat (first | simp (maxSteps := 2000000) (disch := omega) only [go_sem, ↓reduceIte, Nat.reduceEqDiff, Nat.reduceAdd, Nat.reduceMul, Nat.reduceSub, Int.reduceToNat, Int.reduceAdd, Int.reduceSub, Int.reduceMul, Int.reduceNeg] | with_reducible refine vIf_t ?_ | with_reducible refine vIf_f ?_))
    (refine retK_of ?_; (repeat (first | simp (maxSteps := 2000000) (disch := omega) only [go_sem, ↓reduceIte, Nat.reduceEqDiff, Nat.reduceAdd, Nat.reduceMul, Nat.reduceSub, Int.reduceToNat, Int.reduceAdd, Int.reduceSub, Int.reduceMul, Int.reduceNeg] | with_reducible refine vIf_t ?_ | with_reducible refine vIf_f ?_)))
    simp [e]
  · have e : near l c = nearK l c 3 := by unfold near; rw [nearK]; simp only [ngh, if_neg h, List.append_nil]
    (repeat (first | simp (maxSteps := 2000000) (disch := omega) only [go_sem, ↓reduceIte, Nat.reduceEqDiff, Nat.reduceAdd, Nat.reduceMul, Nat.reduceSub, Int.reduceToNat, Int.reduceAdd, Int.reduceSub, Int.reduceMul, Int.reduceNeg] | with_reducible refine vIf_t ?_ | with_reducible refine vIf_f ?_))
    (refine retK_of ?_; (repeat (first | simp (maxSteps := 2000000) (disch := omega) only [go_sem, ↓reduceIte, Nat.reduceEqDiff, Nat.reduceAdd, Nat.reduceMul, Nat.reduceSub, Int.reduceToNat, Int.reduceAdd, Int.reduceSub, Int.reduceMul, Int.reduceNeg] | with_reducible refine vIf_t ?_ | with_reducible refine vIf_f ?_)))
    simp [e]
theorem cell_ok (l : Ld) (r q : Int) : ACalls Try.prog 160 [.agg (lC l), I r, I q] []
    (fun x o => x = .tup [I (IntKind.wrap .i64 (IntKind.wrap .i64 (r * l.cols) + q)), B (decide (0 ≤ r ∧ r ≤ IntKind.wrap .i64 (l.rows - 1)) && decide (0 ≤ q ∧ q ≤ IntKind.wrap .i64 (l.cols - 1)))] ∧ o = []) := by
  refine ACalls.of_vc Try.func160 rfl (by decide) 26 rfl [.tmp 6, .tmp 7] rfl (by simp) ?_
  unfold lC
  (repeat (first | simp (maxSteps := 2000000) (disch := omega) only [go_sem, ↓reduceIte, Nat.reduceEqDiff, Nat.reduceAdd, Nat.reduceMul, Nat.reduceSub, Int.reduceToNat, Int.reduceAdd, Int.reduceSub, Int.reduceMul, Int.reduceNeg] | with_reducible refine vIf_t ?_ | with_reducible refine vIf_f ?_))
  (refine vDraw_of mixed (by kernel_rfl) ?_; (repeat (first | simp (maxSteps := 2000000) (disch := omega) only [go_sem, ↓reduceIte, Nat.reduceEqDiff, Nat.reduceAdd, Nat.reduceMul, Nat.reduceSub, Int.reduceToNat, Int.reduceAdd, Int.reduceSub, Int.reduceMul, Int.reduceNeg] | with_reducible refine vIf_t ?_ | with_reducible refine vIf_f ?_)))
  (refine vqCall_eq (in_ok r 0 (IntKind.wrap .i64 (l.rows - 1))) (by simp (disch := omega) only [go_sem, Nat.reduceAdd]) rfl ?_; (repeat (first | simp (maxSteps := 2000000) (disch := omega) only [go_sem, ↓reduceIte, Nat.reduceEqDiff, Nat.reduceAdd, Nat.reduceMul, Nat.reduceSub, Int.reduceToNat, Int.reduceAdd, Int.reduceSub, Int.reduceMul, Int.reduceNeg] | with_reducible refine vIf_t ?_ | with_reducible refine vIf_f ?_)))
  refine vqGuard_any (fun g1 => ?_) (fun g1 => ?_)
  · (repeat (first | simp (maxSteps := 2000000) (disch := omega) only [go_sem, ↓reduceIte, Nat.reduceEqDiff, Nat.reduceAdd, Nat.reduceMul, Nat.reduceSub, Int.reduceToNat, Int.reduceAdd, Int.reduceSub, Int.reduceMul, Int.reduceNeg, g1] | with_reducible refine vIf_t ?_ | with_reducible refine vIf_f ?_))
    (refine vqCall_eq (in_ok q 0 (IntKind.wrap .i64 (l.cols - 1))) (by simp (disch := omega) only [go_sem, Nat.reduceAdd]) rfl ?_; (repeat (first | simp (maxSteps := 2000000) (disch := omega) only [go_sem, ↓reduceIte, Nat.reduceEqDiff, Nat.reduceAdd, Nat.reduceMul, Nat.reduceSub, Int.reduceToNat, Int.reduceAdd, Int.reduceSub, Int.reduceMul, Int.reduceNeg] | with_reducible refine vIf_t ?_ | with_reducible refine vIf_f ?_)))
    (try (repeat (first | simp (maxSteps := 2000000) (disch := omega) only [go_sem, ↓reduceIte, Nat.reduceEqDiff, Nat.reduceAdd, Nat.reduceMul, Nat.reduceSub, Int.reduceToNat, Int.reduceAdd, Int.reduceSub, Int.reduceMul, Int.reduceNeg, g1] | with_reducible refine vIf_t ?_ | with_reducible refine vIf_f ?_)))
    (refine retK_of ?_; (repeat (first | simp (maxSteps := 2000000) (disch := omega) only [go_sem, ↓reduceIte, Nat.reduceEqDiff, Nat.reduceAdd, Nat.reduceMul, Nat.reduceSub, Int.reduceToNat, Int.reduceAdd, Int.reduceSub, Int.reduceMul, Int.reduceNeg] | with_reducible refine vIf_t ?_ | with_reducible refine vIf_f ?_)))
  · have g1 : decide (0 ≤ r ∧ r ≤ IntKind.wrap .i64 (l.rows - 1)) = false := by simpa using g1
    (repeat (first | simp (maxSteps := 2000000) (disch := omega) only [go_sem, ↓reduceIte, Nat.reduceEqDiff, Nat.reduceAdd, Nat.reduceMul, Nat.reduceSub, Int.reduceToNat, Int.reduceAdd, Int.reduceSub, Int.reduceMul, Int.reduceNeg, g1] | with_reducible refine vIf_t ?_ | with_reducible refine vIf_f ?_))
    (refine retK_of ?_; (repeat (first | simp (maxSteps := 2000000) (disch := omega) only [go_sem, ↓reduceIte, Nat.reduceEqDiff, Nat.reduceAdd, Nat.reduceMul, Nat.reduceSub, Int.reduceToNat, Int.reduceAdd, Int.reduceSub, Int.reduceMul, Int.reduceNeg] | with_reducible refine vIf_t ?_ | with_reducible refine vIf_f ?_)))
/-- the steps to the neighbours -/
def stp : List Int := [-1, 0, 0, -1, 0, 1, 1, 0]
set_option maxRecDepth 100000 in
set_option maxHeartbeats 4000000 in
theorem next_ok (l : Ld) (c : Int) (g : Cl l c) : ACalls Try.prog 94 [.agg (lC l), I c] [] (fun r o => r = .ref 0 0 (near l c).length ∧ o = [oI (near l c)]) := by
  refine ACalls.of_vc Try.func94 rfl (by decide) 51 rfl [.tmp 4] rfl (by simp) ?_
  have hr := g.fr
  have hk := g.fk
  have hc := g.fc
  have hrm := g.frm
  have hcm := g.fcm
  have hs := g.fs
  have e1 : c.tdiv l.cols = c / l.cols := Int.tdiv_eq_ediv_of_nonneg hc.1
  have e2 : c.tmod l.cols = c % l.cols := Int.tmod_eq_emod_of_nonneg hc.1
  unfold lC
  (repeat (first | simp (maxSteps := 2000000) (disch := omega) only [go_sem, ↓reduceIte, Nat.reduceEqDiff, Nat.reduceAdd, Nat.reduceMul, Nat.reduceSub, Int.reduceToNat, Int.reduceAdd, Int.reduceSub, Int.reduceMul, Int.reduceNeg, e1, e2] | with_reducible refine vIf_t ?_ | with_reducible refine vIf_f ?_))
  (refine vDraw_of mixed (by kernel_rfl) ?_; (repeat (first | simp (maxSteps := 2000000) (disch := omega) only [go_sem, ↓reduceIte, Nat.reduceEqDiff, Nat.reduceAdd, Nat.reduceMul, Nat.reduceSub, Int.reduceToNat, Int.reduceAdd, Int.reduceSub, Int.reduceMul, Int.reduceNeg] | with_reducible refine vIf_t ?_ | with_reducible refine vIf_f ?_)))
  (try (repeat (first | simp (maxSteps := 2000000) (disch := omega) only [go_sem, ↓reduceIte, Nat.reduceEqDiff, Nat.reduceAdd, Nat.reduceMul, Nat.reduceSub, Int.reduceToNat, Int.reduceAdd, Int.reduceSub, Int.reduceMul, Int.reduceNeg, e1, e2] | with_reducible refine vIf_t ?_ | with_reducible refine vIf_f ?_)))
  have hM : ∃ M, M = c / l.cols * l.cols ∧ 0 ≤ M ∧ M ≤ 144 := ⟨_, rfl, Int.mul_nonneg hrm.1 (by omega), by have := g.feq; omega⟩
  obtain ⟨M, hM, hM0, hM1⟩ := hM
  have hMc : M + c % l.cols = c := by rw [hM]; exact g.feq
  have m0 : (c / l.cols + -1) * l.cols = M - l.cols := by rw [hM, Int.add_mul]; omega
  have m3 : (c / l.cols + 1) * l.cols = M + l.cols := by rw [hM, Int.add_mul]; omega
  refine vcLoop_inv (fun k : Nat => k ≤ 4) (fun k => ⟨51, 0, [(2, .ptr 0 0), (5, .ref 1 0 (nearK l c k).length), (6, I (c / l.cols)), (7, I (c % l.cols)), (25, .ref 2 0 4), (26, I 4), (27, I k)], [some ⟨3, lC l⟩, oI (nearK l c k), some ⟨2, [I (-1), I 0, I 0, I (-1), I 0, I 1, I 1, I 0]⟩]⟩) (fun k => 4 - k) 0 (by omega) (by (repeat (first | simp (maxSteps := 2000000) (disch := omega) only [go_sem, ↓reduceIte, Nat.reduceEqDiff, Nat.reduceAdd, Nat.reduceMul, Nat.reduceSub, Int.reduceToNat, Int.reduceAdd, Int.reduceSub, Int.reduceMul, Int.reduceNeg, lC, nearK] | with_reducible refine vIf_t ?_ | with_reducible refine vIf_f ?_)); all_goals (try simp)) ?_
  intro k hk4
  have hnl := nearK_len l c k
  unfold lC oI
  (repeat (first | simp (maxSteps := 2000000) (disch := omega) only [go_sem, ↓reduceIte, Nat.reduceEqDiff, Nat.reduceAdd, Nat.reduceMul, Nat.reduceSub, Int.reduceToNat, Int.reduceAdd, Int.reduceSub, Int.reduceMul, Int.reduceNeg] | with_reducible refine vIf_t ?_ | with_reducible refine vIf_f ?_))
  refine vIf_dec (fun h => ?_) (fun h => ?_)
  · obtain rfl | rfl | rfl | rfl : k = 0 ∨ k = 1 ∨ k = 2 ∨ k = 3 := by omega
    · have hcell := cell_ok l (c / l.cols + -1) (c % l.cols)
      unfold lC at hcell
      simp only [m0] at hcell
      have ev : M - l.cols + c % l.cols = c - l.cols := by omega
      (repeat (first | simp (maxSteps := 2000000) (disch := omega) only [go_sem, ↓reduceIte, Nat.reduceEqDiff, Nat.reduceAdd, Nat.reduceMul, Nat.reduceSub, Int.reduceToNat, Int.reduceAdd, Int.reduceSub, Int.reduceMul, Int.reduceNeg] | with_reducible refine vIf_t ?_ | with_reducible refine vIf_f ?_))
      (refine vCallX_of ?_; (repeat (first | simp (maxSteps := 2000000) (disch := omega) only [go_sem, ↓reduceIte, Nat.reduceEqDiff, Nat.reduceAdd, Nat.reduceMul, Nat.reduceSub, Int.reduceToNat, Int.reduceAdd, Int.reduceSub, Int.reduceMul, Int.reduceNeg] | with_reducible refine vIf_t ?_ | with_reducible refine vIf_f ?_)); refine vCall_eq (hcell) (by simp (disch := omega) only [go_sem, Nat.reduceAdd]) rfl (by first | exact Or.inl rfl | exact Or.inr ⟨rfl, rfl⟩ | (apply Or.inr; simp only [go_sem])) ?_; (repeat (first | simp (maxSteps := 2000000) (disch := omega) only [go_sem, ↓reduceIte, Nat.reduceEqDiff, Nat.reduceAdd, Nat.reduceMul, Nat.reduceSub, Int.reduceToNat, Int.reduceAdd, Int.reduceSub, Int.reduceMul, Int.reduceNeg] | with_reducible refine vIf_t ?_ | with_reducible refine vIf_f ?_)))
      refine vIf_dec (fun hq => ?_) (fun hq => ?_)
      · have e : nearK l c 1 = nearK l c 0 ++ [c - l.cols] := by show nearK l c 0 ++ ngh l c 0 = _; simp only [ngh]; rw [if_pos (by omega)]
        (repeat (first | simp (maxSteps := 2000000) (disch := omega) only [go_sem, ↓reduceIte, Nat.reduceEqDiff, Nat.reduceAdd, Nat.reduceMul, Nat.reduceSub, Int.reduceToNat, Int.reduceAdd, Int.reduceSub, Int.reduceMul, Int.reduceNeg] | with_reducible refine vIf_t ?_ | with_reducible refine vIf_f ?_))
        refine again 1 (by omega) (by omega) ?_
        (repeat (first | simp (maxSteps := 2000000) (disch := omega) only [go_sem, ↓reduceIte, Nat.reduceEqDiff, Nat.reduceAdd, Nat.reduceMul, Nat.reduceSub, Int.reduceToNat, Int.reduceAdd, Int.reduceSub, Int.reduceMul, Int.reduceNeg, lC, e, ev] | with_reducible refine vIf_t ?_ | with_reducible refine vIf_f ?_))
      · have e : nearK l c 1 = nearK l c 0 := by show nearK l c 0 ++ ngh l c 0 = _; simp only [ngh]; rw [if_neg (by omega), List.append_nil]
        (repeat (first | simp (maxSteps := 2000000) (disch := omega) only [go_sem, ↓reduceIte, Nat.reduceEqDiff, Nat.reduceAdd, Nat.reduceMul, Nat.reduceSub, Int.reduceToNat, Int.reduceAdd, Int.reduceSub, Int.reduceMul, Int.reduceNeg] | with_reducible refine vIf_t ?_ | with_reducible refine vIf_f ?_))
        refine again 1 (by omega) (by omega) ?_
        (repeat (first | simp (maxSteps := 2000000) (disch := omega) only [go_sem, ↓reduceIte, Nat.reduceEqDiff, Nat.reduceAdd, Nat.reduceMul, Nat.reduceSub, Int.reduceToNat, Int.reduceAdd, Int.reduceSub, Int.reduceMul, Int.reduceNeg, lC, e] | with_reducible refine vIf_t ?_ | with_reducible refine vIf_f ?_))
    · have hcell := cell_ok l (c / l.cols) (c % l.cols + -1)
      unfold lC at hcell
      simp only [← hM] at hcell
      have ev : M + (c % l.cols + -1) = c - 1 := by omega
      (repeat (first | simp (maxSteps := 2000000) (disch := omega) only [go_sem, ↓reduceIte, Nat.reduceEqDiff, Nat.reduceAdd, Nat.reduceMul, Nat.reduceSub, Int.reduceToNat, Int.reduceAdd, Int.reduceSub, Int.reduceMul, Int.reduceNeg] | with_reducible refine vIf_t ?_ | with_reducible refine vIf_f ?_))
      (refine vCallX_of ?_; (repeat (first | simp (maxSteps := 2000000) (disch := omega) only [go_sem, ↓reduceIte, Nat.reduceEqDiff, Nat.reduceAdd, Nat.reduceMul, Nat.reduceSub, Int.reduceToNat, Int.reduceAdd, Int.reduceSub, Int.reduceMul, Int.reduceNeg] | with_reducible refine vIf_t ?_ | with_reducible refine vIf_f ?_)); refine vCall_eq (hcell) (by simp (disch := omega) only [go_sem, Nat.reduceAdd]) rfl (by first | exact Or.inl rfl | exact Or.inr ⟨rfl, rfl⟩ | (apply Or.inr; simp only [go_sem])) ?_; (repeat (first | simp (maxSteps := 2000000) (disch := omega) only [go_sem, ↓reduceIte, Nat.reduceEqDiff, Nat.reduceAdd, Nat.reduceMul, Nat.reduceSub, Int.reduceToNat, Int.reduceAdd, Int.reduceSub, Int.reduceMul, Int.reduceNeg] | with_reducible refine vIf_t ?_ | with_reducible refine vIf_f ?_)))
      refine vIf_dec (fun hq => ?_) (fun hq => ?_)
      · have e : nearK l c 2 = nearK l c 1 ++ [c - 1] := by show nearK l c 1 ++ ngh l c 1 = _; simp only [ngh]; rw [if_pos (by omega)]
        (repeat (first | simp (maxSteps := 2000000) (disch := omega) only [go_sem, ↓reduceIte, Nat.reduceEqDiff, Nat.reduceAdd, Nat.reduceMul, Nat.reduceSub, Int.reduceToNat, Int.reduceAdd, Int.reduceSub, Int.reduceMul, Int.reduceNeg] | with_reducible refine vIf_t ?_ | with_reducible refine vIf_f ?_))
        refine again 2 (by omega) (by omega) ?_
        (repeat (first | simp (maxSteps := 2000000) (disch := omega) only [go_sem, ↓reduceIte, Nat.reduceEqDiff, Nat.reduceAdd, Nat.reduceMul, Nat.reduceSub, Int.reduceToNat, Int.reduceAdd, Int.reduceSub, Int.reduceMul, Int.reduceNeg, lC, e, ev] | with_reducible refine vIf_t ?_ | with_reducible refine vIf_f ?_))
      · have e : nearK l c 2 = nearK l c 1 := by show nearK l c 1 ++ ngh l c 1 = _; simp only [ngh]; rw [if_neg (by omega), List.append_nil]
        (repeat (first | simp (maxSteps := 2000000) (disch := omega) only [go_sem, ↓reduceIte, Nat.reduceEqDiff, Nat.reduceAdd, Nat.reduceMul, Nat.reduceSub, Int.reduceToNat, Int.reduceAdd, Int.reduceSub, Int.reduceMul, Int.reduceNeg] | with_reducible refine vIf_t ?_ | with_reducible refine vIf_f ?_))
        refine again 2 (by omega) (by omega) ?_
        (repeat (first | simp (maxSteps := 2000000) (disch := omega) only [go_sem, ↓reduceIte, Nat.reduceEqDiff, Nat.reduceAdd, Nat.reduceMul, Nat.reduceSub, Int.reduceToNat, Int.reduceAdd, Int.reduceSub, Int.reduceMul, Int.reduceNeg, lC, e] | with_reducible refine vIf_t ?_ | with_reducible refine vIf_f ?_))
    · have hcell := cell_ok l (c / l.cols) (c % l.cols + 1)
      unfold lC at hcell
      simp only [← hM] at hcell
      have ev : M + (c % l.cols + 1) = c + 1 := by omega
      (repeat (first | simp (maxSteps := 2000000) (disch := omega) only [go_sem, ↓reduceIte, Nat.reduceEqDiff, Nat.reduceAdd, Nat.reduceMul, Nat.reduceSub, Int.reduceToNat, Int.reduceAdd, Int.reduceSub, Int.reduceMul, Int.reduceNeg] | with_reducible refine vIf_t ?_ | with_reducible refine vIf_f ?_))
      (refine vCallX_of ?_; (repeat (first | simp (maxSteps := 2000000) (disch := omega) only [go_sem, ↓reduceIte, Nat.reduceEqDiff, Nat.reduceAdd, Nat.reduceMul, Nat.reduceSub, Int.reduceToNat, Int.reduceAdd, Int.reduceSub, Int.reduceMul, Int.reduceNeg] | with_reducible refine vIf_t ?_ | with_reducible refine vIf_f ?_)); refine vCall_eq (hcell) (by simp (disch := omega) only [go_sem, Nat.reduceAdd]) rfl (by first | exact Or.inl rfl | exact Or.inr ⟨rfl, rfl⟩ | (apply Or.inr; simp only [go_sem])) ?_; (repeat (first | simp (maxSteps := 2000000) (disch := omega) only [go_sem, ↓reduceIte, Nat.reduceEqDiff, Nat.reduceAdd, Nat.reduceMul, Nat.reduceSub, Int.reduceToNat, Int.reduceAdd, Int.reduceSub, Int.reduceMul, Int.reduceNeg] | with_reducible refine vIf_t ?_ | with_reducible refine vIf_f ?_)))
      refine vIf_dec (fun hq => ?_) (fun hq => ?_)
      · have e : nearK l c 3 = nearK l c 2 ++ [c + 1] := by show nearK l c 2 ++ ngh l c 2 = _; simp only [ngh]; rw [if_pos (by omega)]
        (repeat (first | simp (maxSteps := 2000000) (disch := omega) only [go_sem, ↓reduceIte, Nat.reduceEqDiff, Nat.reduceAdd, Nat.reduceMul, Nat.reduceSub, Int.reduceToNat, Int.reduceAdd, Int.reduceSub, Int.reduceMul, Int.reduceNeg] | with_reducible refine vIf_t ?_ | with_reducible refine vIf_f ?_))
        refine again 3 (by omega) (by omega) ?_
        (repeat (first | simp (maxSteps := 2000000) (disch := omega) only [go_sem, ↓reduceIte, Nat.reduceEqDiff, Nat.reduceAdd, Nat.reduceMul, Nat.reduceSub, Int.reduceToNat, Int.reduceAdd, Int.reduceSub, Int.reduceMul, Int.reduceNeg, lC, e, ev] | with_reducible refine vIf_t ?_ | with_reducible refine vIf_f ?_))
      · have e : nearK l c 3 = nearK l c 2 := by show nearK l c 2 ++ ngh l c 2 = _; simp only [ngh]; rw [if_neg (by omega), List.append_nil]
        (repeat (first | simp (maxSteps := 2000000) (disch := omega) only [go_sem, ↓reduceIte, Nat.reduceEqDiff, Nat.reduceAdd, Nat.reduceMul, Nat.reduceSub, Int.reduceToNat, Int.reduceAdd, Int.reduceSub, Int.reduceMul, Int.reduceNeg] | with_reducible refine vIf_t ?_ | with_reducible refine vIf_f ?_))
        refine again 3 (by omega) (by omega) ?_
        (repeat (first | simp (maxSteps := 2000000) (disch := omega) only [go_sem, ↓reduceIte, Nat.reduceEqDiff, Nat.reduceAdd, Nat.reduceMul, Nat.reduceSub, Int.reduceToNat, Int.reduceAdd, Int.reduceSub, Int.reduceMul, Int.reduceNeg, lC, e] | with_reducible refine vIf_t ?_ | with_reducible refine vIf_f ?_))
    · have hcell := cell_ok l (c / l.cols + 1) (c % l.cols)
      unfold lC at hcell
      simp only [m3] at hcell
      have ev : M + l.cols + c % l.cols = c + l.cols := by omega
      (repeat (first | simp (maxSteps := 2000000) (disch := omega) only [go_sem, ↓reduceIte, Nat.reduceEqDiff, Nat.reduceAdd, Nat.reduceMul, Nat.reduceSub, Int.reduceToNat, Int.reduceAdd, Int.reduceSub, Int.reduceMul, Int.reduceNeg] | with_reducible refine vIf_t ?_ | with_reducible refine vIf_f ?_))
      (refine vCallX_of ?_; (repeat (first | simp (maxSteps := 2000000) (disch := omega) only [go_sem, ↓reduceIte, Nat.reduceEqDiff, Nat.reduceAdd, Nat.reduceMul, Nat.reduceSub, Int.reduceToNat, Int.reduceAdd, Int.reduceSub, Int.reduceMul, Int.reduceNeg] | with_reducible refine vIf_t ?_ | with_reducible refine vIf_f ?_)); refine vCall_eq (hcell) (by simp (disch := omega) only [go_sem, Nat.reduceAdd]) rfl (by first | exact Or.inl rfl | exact Or.inr ⟨rfl, rfl⟩ | (apply Or.inr; simp only [go_sem])) ?_; (repeat (first | simp (maxSteps := 2000000) (disch := omega) only [go_sem, ↓reduceIte, Nat.reduceEqDiff, Nat.reduceAdd, Nat.reduceMul, Nat.reduceSub, Int.reduceToNat, Int.reduceAdd, Int.reduceSub, Int.reduceMul, Int.reduceNeg] | with_reducible refine vIf_t ?_ | with_reducible refine vIf_f ?_)))
      refine vIf_dec (fun hq => ?_) (fun hq => ?_)
      · have e : nearK l c 4 = nearK l c 3 ++ [c + l.cols] := by show nearK l c 3 ++ ngh l c 3 = _; simp only [ngh]; rw [if_pos (by omega)]
        (repeat (first | simp (maxSteps := 2000000) (disch := omega) only [go_sem, ↓reduceIte, Nat.reduceEqDiff, Nat.reduceAdd, Nat.reduceMul, Nat.reduceSub, Int.reduceToNat, Int.reduceAdd, Int.reduceSub, Int.reduceMul, Int.reduceNeg] | with_reducible refine vIf_t ?_ | with_reducible refine vIf_f ?_))
        refine again 4 (by omega) (by omega) ?_
        (repeat (first | simp (maxSteps := 2000000) (disch := omega) only [go_sem, ↓reduceIte, Nat.reduceEqDiff, Nat.reduceAdd, Nat.reduceMul, Nat.reduceSub, Int.reduceToNat, Int.reduceAdd, Int.reduceSub, Int.reduceMul, Int.reduceNeg, lC, e, ev] | with_reducible refine vIf_t ?_ | with_reducible refine vIf_f ?_))
      · have e : nearK l c 4 = nearK l c 3 := by show nearK l c 3 ++ ngh l c 3 = _; simp only [ngh]; rw [if_neg (by omega), List.append_nil]
        (repeat (first | simp (maxSteps := 2000000) (disch := omega) only [go_sem, ↓reduceIte, Nat.reduceEqDiff, Nat.reduceAdd, Nat.reduceMul, Nat.reduceSub, Int.reduceToNat, Int.reduceAdd, Int.reduceSub, Int.reduceMul, Int.reduceNeg] | with_reducible refine vIf_t ?_ | with_reducible refine vIf_f ?_))
        refine again 4 (by omega) (by omega) ?_
        (repeat (first | simp (maxSteps := 2000000) (disch := omega) only [go_sem, ↓reduceIte, Nat.reduceEqDiff, Nat.reduceAdd, Nat.reduceMul, Nat.reduceSub, Int.reduceToNat, Int.reduceAdd, Int.reduceSub, Int.reduceMul, Int.reduceNeg, lC, e] | with_reducible refine vIf_t ?_ | with_reducible refine vIf_f ?_))
  · have e : k = 4 := by omega
    subst e
    (repeat (first | simp (maxSteps := 2000000) (disch := omega) only [go_sem, ↓reduceIte, Nat.reduceEqDiff, Nat.reduceAdd, Nat.reduceMul, Nat.reduceSub, Int.reduceToNat, Int.reduceAdd, Int.reduceSub, Int.reduceMul, Int.reduceNeg] | with_reducible refine vIf_t ?_ | with_reducible refine vIf_f ?_))
    (refine retK_of ?_; (repeat (first | simp (maxSteps := 2000000) (disch := omega) only [go_sem, ↓reduceIte, Nat.reduceEqDiff, Nat.reduceAdd, Nat.reduceMul, Nat.reduceSub, Int.reduceToNat, Int.reduceAdd, Int.reduceSub, Int.reduceMul, Int.reduceNeg] | with_reducible refine vIf_t ?_ | with_reducible refine vIf_f ?_)))
    exact ⟨rfl, rfl⟩
end Go.Proofs.Ythgjcanhemohfaa

/- tides: means, levels at a minute -/
import Derived.Test.YtnphbdcdncmojaaDoorTid2
set_option linter.unusedVariables false
set_option linter.unusedSimpArgs false
namespace Go.Proofs.YtnphbdcdncmojaaDoor
open Go.AG

theorem mulb {a b n m : Int} (ha : -n ≤ a ∧ a ≤ n) (hb : 0 ≤ b ∧ b ≤ m) (hn : 0 ≤ n) : -(n * m) ≤ a * b ∧ a * b ≤ n * m := by
  have h1 : a * b ≤ n * b := Int.mul_le_mul_of_nonneg_right ha.2 hb.1
  have h2 : n * b ≤ n * m := Int.mul_le_mul_of_nonneg_left hb.2 hn
  have h3 : (-n) * b ≤ a * b := Int.mul_le_mul_of_nonneg_right ha.1 hb.1
  rw [Int.neg_mul] at h3
  omega
theorem TdX.mono {u : Bool} {ds : List Tde} (X : TdX u ds) : ∀ (d i : Nat), i + (d + 1) < ds.length → (gTde ds i).min < (gTde ds (i + (d + 1))).min
  | 0, i, h => (X.s i h).1.1
  | d + 1, i, h => by
    have h1 := X.mono d i (by omega)
    have h2 := (X.s (i + (d + 1)) (by omega)).1.1
    rw [show i + (d + 1) + 1 = i + (d + 1 + 1) by omega] at h2
    omega
theorem TdX.lt {u : Bool} {ds : List Tde} (X : TdX u ds) {i j : Nat} (hij : i < j) (hj : j < ds.length) : (gTde ds i).min < (gTde ds j).min := by
  have := X.mono (j - i - 1) i (by omega)
  rw [show i + (j - i - 1 + 1) = j by omega] at this
  exact this
/-- twice the area below the levels -/
def mtK (ds : List Tde) : Nat → Int
  | 0 => 0
  | k + 1 => mtK ds k + ((gTde ds k).lev + (gTde ds (k + 1)).lev) * ((gTde ds (k + 1)).min - (gTde ds k).min)
theorem mt_step {u : Bool} {ds : List Tde} (X : TdX u ds) (k : Nat) (hk : k + 1 < ds.length) : -120000 ≤ ((gTde ds k).lev + (gTde ds (k + 1)).lev) * ((gTde ds (k + 1)).min - (gTde ds k).min) ∧ ((gTde ds k).lev + (gTde ds (k + 1)).lev) * ((gTde ds (k + 1)).min - (gTde ds k).min) ≤ 120000 := by
  have l1 := X.l k (by omega)
  have l2 := X.l (k + 1) (by omega)
  have s := (X.s k hk).1
  have := mulb (a := (gTde ds k).lev + (gTde ds (k + 1)).lev) (b := (gTde ds (k + 1)).min - (gTde ds k).min) (n := 3000) (m := 40) (by omega) (by omega) (by omega)
  omega
theorem mtK_bd {u : Bool} {ds : List Tde} (X : TdX u ds) (k : Nat) (hk : k < ds.length) : -120000 * (k : Int) ≤ mtK ds k ∧ mtK ds k ≤ 120000 * k := by
  induction k with
  | zero => simp [mtK]
  | succ k ih =>
    have := ih (by omega)
    have := mt_step X k hk
    simp only [mtK]
    omega
theorem mtK_lo {u : Bool} {ds : List Tde} (X : TdX u ds) {lo : Int} (h : ∀ i, i < ds.length → lo ≤ (gTde ds i).lev) (k : Nat) (hk : k < ds.length) : lo * (2 * ((gTde ds k).min - (gTde ds 0).min)) ≤ mtK ds k := by
  induction k with
  | zero => simp [mtK]
  | succ k ih =>
    have i1 := ih (by omega)
    have h1 := h k (by omega)
    have h2 := h (k + 1) hk
    have s := (X.s k hk).1
    have : (2 * lo) * ((gTde ds (k + 1)).min - (gTde ds k).min) ≤ ((gTde ds k).lev + (gTde ds (k + 1)).lev) * ((gTde ds (k + 1)).min - (gTde ds k).min) := Int.mul_le_mul_of_nonneg_right (by omega) (by omega)
    have e : lo * (2 * ((gTde ds (k + 1)).min - (gTde ds 0).min)) = lo * (2 * ((gTde ds k).min - (gTde ds 0).min)) + (2 * lo) * ((gTde ds (k + 1)).min - (gTde ds k).min) := by
      rw [show 2 * lo * ((gTde ds (k + 1)).min - (gTde ds k).min) = lo * (2 * ((gTde ds (k + 1)).min - (gTde ds k).min)) by rw [Int.mul_comm 2 lo, Int.mul_assoc], ← Int.mul_add]
      congr 1
      omega
    simp only [mtK]
    omega
theorem mtK_hi {u : Bool} {ds : List Tde} (X : TdX u ds) {hi : Int} (h : ∀ i, i < ds.length → (gTde ds i).lev ≤ hi) (k : Nat) (hk : k < ds.length) : mtK ds k ≤ hi * (2 * ((gTde ds k).min - (gTde ds 0).min)) := by
  induction k with
  | zero => simp [mtK]
  | succ k ih =>
    have i1 := ih (by omega)
    have h1 := h k (by omega)
    have h2 := h (k + 1) hk
    have s := (X.s k hk).1
    have : ((gTde ds k).lev + (gTde ds (k + 1)).lev) * ((gTde ds (k + 1)).min - (gTde ds k).min) ≤ (2 * hi) * ((gTde ds (k + 1)).min - (gTde ds k).min) := Int.mul_le_mul_of_nonneg_right (by omega) (by omega)
    have e : hi * (2 * ((gTde ds (k + 1)).min - (gTde ds 0).min)) = hi * (2 * ((gTde ds k).min - (gTde ds 0).min)) + (2 * hi) * ((gTde ds (k + 1)).min - (gTde ds k).min) := by
      rw [show 2 * hi * ((gTde ds (k + 1)).min - (gTde ds k).min) = hi * (2 * ((gTde ds (k + 1)).min - (gTde ds k).min)) by rw [Int.mul_comm 2 hi, Int.mul_assoc], ← Int.mul_add]
      congr 1
      omega
    simp only [mtK]
    omega
def mtM (ds : List Tde) : Int := mtK ds (ds.length - 1)
def mtD (ds : List Tde) : Int := 2 * ((gTde ds (ds.length - 1)).min - (gTde ds 0).min)
theorem mtD_bd {u : Bool} {ds : List Tde} (X : TdX u ds) : 1 ≤ mtD ds ∧ mtD ds ≤ 1000 := by
  have n1 := X.n1
  have := X.lt (i := 0) (j := ds.length - 1) (by omega) (by omega)
  have := X.m 0 (by omega)
  have := X.m (ds.length - 1) (by omega)
  unfold mtD
  omega
theorem mtM_bd {u : Bool} {ds : List Tde} (X : TdX u ds) : -1000000 ≤ mtM ds ∧ mtM ds ≤ 1000000 := by
  have n1 := X.n1
  have n2 := X.n2
  have := mtK_bd X (ds.length - 1) (by omega)
  unfold mtM
  omega
set_option maxRecDepth 20000 in
set_option maxHeartbeats 4000000 in
theorem mean_ok {u : Bool} (ds : List Tde) (X : TdX u ds) : ACalls Tryd.prog 29 [.sl ds.length (cTde ds)] [] (fun r o => r = .tup [.agg [I (mtM ds / (Int.gcd (mtM ds) (mtD ds) : Int)), I (mtD ds / (Int.gcd (mtM ds) (mtD ds) : Int))], I 0] ∧ o = []) := by
  refine ACalls.of_vc Tryd.func29 rfl (by decide) 58 rfl [.cell 2 58, .tmp 3] rfl (by simp) ?_
  have hv := validT_ok ds X
  have n1 := X.n1
  have n2 := X.n2
  have b1 := mtD_bd X
  have b2 := mtM_bd X
  (repeat (first | simp (maxSteps := 2000000) (disch := omega) only [go_sem, Nat.reduceEqDiff, Nat.reduceAdd, Nat.reduceMul, Nat.reduceSub, Int.reduceToNat, Int.reduceAdd, Int.reduceSub, Int.reduceMul, Int.reduceNeg] | refine vIf_t ?_ | refine vIf_f ?_))
  (refine vCallX_of ?_; (repeat (first | simp (maxSteps := 2000000) (disch := omega) only [go_sem, Nat.reduceEqDiff, Nat.reduceAdd, Nat.reduceMul, Nat.reduceSub, Int.reduceToNat, Int.reduceAdd, Int.reduceSub, Int.reduceMul, Int.reduceNeg] | refine vIf_t ?_ | refine vIf_f ?_)); refine vCall_eq (hv) (by simp (disch := omega) only [go_sem, Nat.reduceAdd]) rfl (by first | exact Or.inl rfl | exact Or.inr ⟨rfl, rfl⟩ | (apply Or.inr; simp only [go_sem])) ?_; (repeat (first | simp (maxSteps := 2000000) (disch := omega) only [go_sem, Nat.reduceEqDiff, Nat.reduceAdd, Nat.reduceMul, Nat.reduceSub, Int.reduceToNat, Int.reduceAdd, Int.reduceSub, Int.reduceMul, Int.reduceNeg] | refine vIf_t ?_ | refine vIf_f ?_)))
  refine vcLoop_invF (fun k : Nat => k + 1 ≤ ds.length) (fun k => ⟨58, 0, [(5, I (k + 1)), (0, .sl ds.length (cTde ds)), (4, I (mtK ds k)), (2, .ptr 0 0)], [some ⟨2, [I 0, I 0]⟩]⟩) (fun k => ds.length - k) 0 (by omega) (by simp only [mtK]; (first | (refine leF_s ?_; ((repeat (first | simp (maxSteps := 2000000) (disch := omega) only [go_sem, Nat.reduceEqDiff, Nat.reduceAdd, Nat.reduceMul, Nat.reduceSub, Int.reduceToNat, Int.reduceAdd, Int.reduceSub, Int.reduceMul, Int.reduceNeg] | refine vIf_t ?_ | refine vIf_f ?_)); all_goals (try simp); all_goals (try omega)); done) | (refine leF_p ?_; ((repeat (first | simp (maxSteps := 2000000) (disch := omega) only [go_sem, Nat.reduceEqDiff, Nat.reduceAdd, Nat.reduceMul, Nat.reduceSub, Int.reduceToNat, Int.reduceAdd, Int.reduceSub, Int.reduceMul, Int.reduceNeg] | refine vIf_t ?_ | refine vIf_f ?_)); all_goals (try simp); all_goals (try omega)); done))) ?_
  intro k hk
  have k1 : ((k : Int) + 1).toNat = k + 1 := by omega
  (repeat (first | simp (maxSteps := 2000000) (disch := omega) only [go_sem, Nat.reduceEqDiff, Nat.reduceAdd, Nat.reduceMul, Nat.reduceSub, Int.reduceToNat, Int.reduceAdd, Int.reduceSub, Int.reduceMul, Int.reduceNeg] | refine vIf_t ?_ | refine vIf_f ?_))
  refine vIf_dec (fun h => ?_) (fun h => ?_)
  · have hlt : k + 1 < ds.length := by omega
    have l1 := X.l k (by omega)
    have l2 := X.l (k + 1) (by omega)
    have m1 := X.m k (by omega)
    have m2 := X.m (k + 1) (by omega)
    have k2 : ((k : Int) + 1 - 1).toNat = k := by omega
    have hst := mt_step X k hlt
    have hkb := mtK_bd X k (by omega)
    (repeat (first | simp (maxSteps := 2000000) (disch := omega) only [go_sem, Nat.reduceEqDiff, Nat.reduceAdd, Nat.reduceMul, Nat.reduceSub, Int.reduceToNat, Int.reduceAdd, Int.reduceSub, Int.reduceMul, Int.reduceNeg] | refine vIf_t ?_ | refine vIf_f ?_))
    (refine vDraw_sch 26 ([(0, false), (1, false), (2, false), (3, false), (4, false), (5, false), (7, false), (8, false), (9, false), (10, false), (13, false), (14, false), (15, false), (16, false), (18, false), (19, false), (20, false), (21, false), (22, false), (6, false)] ++ [(11, false), (12, false), (17, false), (23, true), (24, false), (25, false)]) mixed (by kernel_rfl) ?_; simp only [List.cons_append, List.nil_append, List.map_cons, List.map_nil, nthO_zero, nthO_succ, List.drop_succ_cons, List.drop_zero, List.drop_nil]; (repeat (first | simp (maxSteps := 2000000) (disch := omega) only [go_sem, Nat.reduceEqDiff, Nat.reduceAdd, Nat.reduceMul, Nat.reduceSub, Int.reduceToNat, Int.reduceAdd, Int.reduceSub, Int.reduceMul, Int.reduceNeg] | refine vIf_t ?_ | refine vIf_f ?_)))
    (try (repeat (first | simp (maxSteps := 2000000) (disch := omega) only [go_sem, Nat.reduceEqDiff, Nat.reduceAdd, Nat.reduceMul, Nat.reduceSub, Int.reduceToNat, Int.reduceAdd, Int.reduceSub, Int.reduceMul, Int.reduceNeg, k1, k2] | refine vIf_t ?_ | refine vIf_f ?_)))
    refine againF (k + 1) (by omega) (by omega) ?_
    simp only [mtK]
    (first | (refine leF_s ?_; ((repeat (first | simp (maxSteps := 2000000) (disch := omega) only [go_sem, Nat.reduceEqDiff, Nat.reduceAdd, Nat.reduceMul, Nat.reduceSub, Int.reduceToNat, Int.reduceAdd, Int.reduceSub, Int.reduceMul, Int.reduceNeg] | refine vIf_t ?_ | refine vIf_f ?_)); all_goals (try simp); all_goals (try omega)); done) | (refine leF_p ?_; ((repeat (first | simp (maxSteps := 2000000) (disch := omega) only [go_sem, Nat.reduceEqDiff, Nat.reduceAdd, Nat.reduceMul, Nat.reduceSub, Int.reduceToNat, Int.reduceAdd, Int.reduceSub, Int.reduceMul, Int.reduceNeg] | refine vIf_t ?_ | refine vIf_f ?_)); all_goals (try simp); all_goals (try omega)); done))
  · have ek : k = ds.length - 1 := by omega
    have k3 : ((ds.length : Int) - 1).toNat = ds.length - 1 := by omega
    have e1 : mtK ds k = mtM ds := by rw [ek]; rfl
    have e2 : 2 * ((gTde ds (ds.length - 1)).min - (gTde ds 0).min) = mtD ds := rfl
    have m1 := X.m 0 (by omega)
    have m2 := X.m (ds.length - 1) (by omega)
    have hf := frZ_ok (mtM ds) (mtD ds) (by omega) (by omega)
    have hlt : ds.length - 1 < ds.length := by omega
    (repeat (first | simp (maxSteps := 2000000) (disch := omega) only [go_sem, Nat.reduceEqDiff, Nat.reduceAdd, Nat.reduceMul, Nat.reduceSub, Int.reduceToNat, Int.reduceAdd, Int.reduceSub, Int.reduceMul, Int.reduceNeg, e1] | refine vIf_t ?_ | refine vIf_f ?_))
    (refine vDraw_sch 14 [(0, false), (1, false), (2, false), (3, false), (4, false), (5, false), (6, false), (8, false), (9, false), (10, false), (7, false), (11, true), (12, false), (13, false)] mixed (by kernel_rfl) ?_; simp only [List.cons_append, List.nil_append, List.map_cons, List.map_nil, nthO_zero, nthO_succ, List.drop_succ_cons, List.drop_zero, List.drop_nil]; (repeat (first | simp (maxSteps := 2000000) (disch := omega) only [go_sem, Nat.reduceEqDiff, Nat.reduceAdd, Nat.reduceMul, Nat.reduceSub, Int.reduceToNat, Int.reduceAdd, Int.reduceSub, Int.reduceMul, Int.reduceNeg] | refine vIf_t ?_ | refine vIf_f ?_)))
    (try (repeat (first | simp (maxSteps := 2000000) (disch := omega) only [go_sem, Nat.reduceEqDiff, Nat.reduceAdd, Nat.reduceMul, Nat.reduceSub, Int.reduceToNat, Int.reduceAdd, Int.reduceSub, Int.reduceMul, Int.reduceNeg, k3, e1] | refine vIf_t ?_ | refine vIf_f ?_)))
    (try (repeat (first | simp (maxSteps := 2000000) (disch := omega) only [go_sem, Nat.reduceEqDiff, Nat.reduceAdd, Nat.reduceMul, Nat.reduceSub, Int.reduceToNat, Int.reduceAdd, Int.reduceSub, Int.reduceMul, Int.reduceNeg, e2] | refine vIf_t ?_ | refine vIf_f ?_)))
    (refine vCallX_of ?_; (repeat (first | simp (maxSteps := 2000000) (disch := omega) only [go_sem, Nat.reduceEqDiff, Nat.reduceAdd, Nat.reduceMul, Nat.reduceSub, Int.reduceToNat, Int.reduceAdd, Int.reduceSub, Int.reduceMul, Int.reduceNeg] | refine vIf_t ?_ | refine vIf_f ?_)); refine vCall_eq (hf) (by simp (disch := omega) only [go_sem, Nat.reduceAdd]) rfl (by first | exact Or.inl rfl | exact Or.inr ⟨rfl, rfl⟩ | (apply Or.inr; simp only [go_sem])) ?_; (repeat (first | simp (maxSteps := 2000000) (disch := omega) only [go_sem, Nat.reduceEqDiff, Nat.reduceAdd, Nat.reduceMul, Nat.reduceSub, Int.reduceToNat, Int.reduceAdd, Int.reduceSub, Int.reduceMul, Int.reduceNeg] | refine vIf_t ?_ | refine vIf_f ?_)))
    (refine retK_of ?_; (repeat (first | simp (maxSteps := 2000000) (disch := omega) only [go_sem, Nat.reduceEqDiff, Nat.reduceAdd, Nat.reduceMul, Nat.reduceSub, Int.reduceToNat, Int.reduceAdd, Int.reduceSub, Int.reduceMul, Int.reduceNeg] | refine vIf_t ?_ | refine vIf_f ?_)))
/-- the part of a table in which a minute lies -/
structure Sg (ds : List Tde) (mu : Int) (i : Nat) : Prop where
  n : i + 2 ≤ ds.length
  lo : (gTde ds i).min ≤ mu
  hi : mu ≤ (gTde ds (i + 1)).min
  lt : i + 2 < ds.length → mu < (gTde ds (i + 1)).min
def tT (ds : List Tde) (i : Nat) : Int := (gTde ds (i + 1)).min - (gTde ds i).min
def tN (ds : List Tde) (mu : Int) (i : Nat) : Int := (gTde ds i).lev * tT ds i + ((gTde ds (i + 1)).lev - (gTde ds i).lev) * (mu - (gTde ds i).min)
theorem tN_bd {u : Bool} {ds : List Tde} (X : TdX u ds) {mu : Int} {i : Nat} (h : Sg ds mu i) : (1 ≤ tT ds i ∧ tT ds i ≤ 40) ∧ (-60000 ≤ (gTde ds i).lev * tT ds i ∧ (gTde ds i).lev * tT ds i ≤ 60000) ∧ (-120000 ≤ ((gTde ds (i + 1)).lev - (gTde ds i).lev) * (mu - (gTde ds i).min) ∧ ((gTde ds (i + 1)).lev - (gTde ds i).lev) * (mu - (gTde ds i).min) ≤ 120000) := by
  have hn := h.n
  have l1 := X.l i (by omega)
  have l2 := X.l (i + 1) (by omega)
  have s := (X.s i (by omega)).1
  have h1 := h.lo
  have h2 := h.hi
  have ht : 1 ≤ tT ds i ∧ tT ds i ≤ 40 := by unfold tT; omega
  have p1 := mulb (a := (gTde ds i).lev) (b := tT ds i) (n := 1500) (m := 40) (by omega) (by omega) (by omega)
  have p2 := mulb (a := (gTde ds (i + 1)).lev - (gTde ds i).lev) (b := mu - (gTde ds i).min) (n := 3000) (m := 40) (by omega) (by omega) (by omega)
  exact ⟨ht, by omega, by omega⟩
set_option maxRecDepth 20000 in
set_option maxHeartbeats 8000000 in
theorem tideAt_ok {u : Bool} (ds : List Tde) (X : TdX u ds) (mu : Int) (h0 : (gTde ds 0).min ≤ mu) (h1 : mu ≤ (gTde ds (ds.length - 1)).min) : ACalls Tryd.prog 88 [.sl ds.length (cTde ds), I mu] [] (fun r o => ∃ i : Nat, Sg ds mu i ∧ r = .agg [I (tN ds mu i), I (tT ds i)] ∧ o = []) := by
  refine ACalls.of_vc Tryd.func88 rfl (by decide) 57 rfl [.cell 4 58] rfl (by simp) ?_
  have n1 := X.n1
  have n2 := X.n2
  (repeat (first | simp (maxSteps := 2000000) (disch := omega) only [go_sem, Nat.reduceEqDiff, Nat.reduceAdd, Nat.reduceMul, Nat.reduceSub, Int.reduceToNat, Int.reduceAdd, Int.reduceSub, Int.reduceMul, Int.reduceNeg] | refine vIf_t ?_ | refine vIf_f ?_))
  refine vcLoop_join 0 (fun i : Nat => Sg ds mu i) (fun i => ⟨57, 0, [(5, I i), (4, .ptr 0 0), (1, I mu), (0, .sl ds.length (cTde ds))], [some ⟨2, [I 0, I 0]⟩]⟩) (fun i : Nat => i + 2 ≤ ds.length ∧ (gTde ds i).min ≤ mu) (fun i => ⟨57, 0, [(5, I i), (4, .ptr 0 0), (1, I mu), (0, .sl ds.length (cTde ds))], [some ⟨2, [I 0, I 0]⟩]⟩) (fun i => ds.length - i) 0 ⟨by omega, h0⟩ (by (first | (refine leF_s ?_; ((repeat (first | simp (maxSteps := 2000000) (disch := omega) only [go_sem, Nat.reduceEqDiff, Nat.reduceAdd, Nat.reduceMul, Nat.reduceSub, Int.reduceToNat, Int.reduceAdd, Int.reduceSub, Int.reduceMul, Int.reduceNeg] | refine vIf_t ?_ | refine vIf_f ?_)); all_goals (try simp); all_goals (try omega)); done) | (refine leF_p ?_; ((repeat (first | simp (maxSteps := 2000000) (disch := omega) only [go_sem, Nat.reduceEqDiff, Nat.reduceAdd, Nat.reduceMul, Nat.reduceSub, Int.reduceToNat, Int.reduceAdd, Int.reduceSub, Int.reduceMul, Int.reduceNeg] | refine vIf_t ?_ | refine vIf_f ?_)); all_goals (try simp); all_goals (try omega)); done))) ?_ ?_
  · rintro i ⟨hi, hm⟩
    have k1 : ((i : Int) + 1).toNat = i + 1 := by omega
    by_cases h2 : (i : Int) + 2 < ds.length
    · have d2 : decide ((i : Int) + 2 < ds.length) = true := decide_eq_true h2
      by_cases h3 : (gTde ds (i + 1)).min ≤ mu
      · have d3 : decide ((gTde ds (i + 1)).min ≤ mu) = true := decide_eq_true h3
        (repeat (first | simp (maxSteps := 2000000) (disch := omega) only [go_sem, Nat.reduceEqDiff, Nat.reduceAdd, Nat.reduceMul, Nat.reduceSub, Int.reduceToNat, Int.reduceAdd, Int.reduceSub, Int.reduceMul, Int.reduceNeg, d2, k1] | refine vIf_t ?_ | refine vIf_f ?_))
        (try (repeat (first | simp (maxSteps := 2000000) (disch := omega) only [go_sem, Nat.reduceEqDiff, Nat.reduceAdd, Nat.reduceMul, Nat.reduceSub, Int.reduceToNat, Int.reduceAdd, Int.reduceSub, Int.reduceMul, Int.reduceNeg, d3] | refine vIf_t ?_ | refine vIf_f ?_)))
        refine againF (i + 1) ⟨by omega, h3⟩ (by omega) (by (first | (refine leF_s ?_; ((repeat (first | simp (maxSteps := 2000000) (disch := omega) only [go_sem, Nat.reduceEqDiff, Nat.reduceAdd, Nat.reduceMul, Nat.reduceSub, Int.reduceToNat, Int.reduceAdd, Int.reduceSub, Int.reduceMul, Int.reduceNeg] | refine vIf_t ?_ | refine vIf_f ?_)); all_goals (try simp); all_goals (try omega)); done) | (refine leF_p ?_; ((repeat (first | simp (maxSteps := 2000000) (disch := omega) only [go_sem, Nat.reduceEqDiff, Nat.reduceAdd, Nat.reduceMul, Nat.reduceSub, Int.reduceToNat, Int.reduceAdd, Int.reduceSub, Int.reduceMul, Int.reduceNeg] | refine vIf_t ?_ | refine vIf_f ?_)); all_goals (try simp); all_goals (try omega)); done)))
      · have d3 : decide ((gTde ds (i + 1)).min ≤ mu) = false := decide_eq_false h3
        (repeat (first | simp (maxSteps := 2000000) (disch := omega) only [go_sem, Nat.reduceEqDiff, Nat.reduceAdd, Nat.reduceMul, Nat.reduceSub, Int.reduceToNat, Int.reduceAdd, Int.reduceSub, Int.reduceMul, Int.reduceNeg, d2, k1] | refine vIf_t ?_ | refine vIf_f ?_))
        (try (repeat (first | simp (maxSteps := 2000000) (disch := omega) only [go_sem, Nat.reduceEqDiff, Nat.reduceAdd, Nat.reduceMul, Nat.reduceSub, Int.reduceToNat, Int.reduceAdd, Int.reduceSub, Int.reduceMul, Int.reduceNeg, d3] | refine vIf_t ?_ | refine vIf_f ?_)))
        refine jnXF i ⟨hi, hm, by omega, fun _ => by omega⟩ (by (first | (refine leF_s ?_; ((repeat (first | simp (maxSteps := 2000000) (disch := omega) only [go_sem, Nat.reduceEqDiff, Nat.reduceAdd, Nat.reduceMul, Nat.reduceSub, Int.reduceToNat, Int.reduceAdd, Int.reduceSub, Int.reduceMul, Int.reduceNeg] | refine vIf_t ?_ | refine vIf_f ?_)); all_goals (try simp); all_goals (try omega)); done) | (refine leF_p ?_; ((repeat (first | simp (maxSteps := 2000000) (disch := omega) only [go_sem, Nat.reduceEqDiff, Nat.reduceAdd, Nat.reduceMul, Nat.reduceSub, Int.reduceToNat, Int.reduceAdd, Int.reduceSub, Int.reduceMul, Int.reduceNeg] | refine vIf_t ?_ | refine vIf_f ?_)); all_goals (try simp); all_goals (try omega)); done)))
    · have d2 : decide ((i : Int) + 2 < ds.length) = false := decide_eq_false h2
      (repeat (first | simp (maxSteps := 2000000) (disch := omega) only [go_sem, Nat.reduceEqDiff, Nat.reduceAdd, Nat.reduceMul, Nat.reduceSub, Int.reduceToNat, Int.reduceAdd, Int.reduceSub, Int.reduceMul, Int.reduceNeg, d2] | refine vIf_t ?_ | refine vIf_f ?_))
      refine jnXF i ⟨hi, hm, ?_, fun h => by omega⟩ (by (first | (refine leF_s ?_; ((repeat (first | simp (maxSteps := 2000000) (disch := omega) only [go_sem, Nat.reduceEqDiff, Nat.reduceAdd, Nat.reduceMul, Nat.reduceSub, Int.reduceToNat, Int.reduceAdd, Int.reduceSub, Int.reduceMul, Int.reduceNeg] | refine vIf_t ?_ | refine vIf_f ?_)); all_goals (try simp); all_goals (try omega)); done) | (refine leF_p ?_; ((repeat (first | simp (maxSteps := 2000000) (disch := omega) only [go_sem, Nat.reduceEqDiff, Nat.reduceAdd, Nat.reduceMul, Nat.reduceSub, Int.reduceToNat, Int.reduceAdd, Int.reduceSub, Int.reduceMul, Int.reduceNeg] | refine vIf_t ?_ | refine vIf_f ?_)); all_goals (try simp); all_goals (try omega)); done)))
      rw [show i + 1 = ds.length - 1 by omega]
      exact h1
  · intro i hS
    have k1 : ((i : Int) + 1).toNat = i + 1 := by omega
    have hn := hS.n
    have g1 := hS.lo
    have g2 := hS.hi
    have m1 := X.m i (by omega)
    have m2 := X.m (i + 1) (by omega)
    have l1 := X.l i (by omega)
    have l2 := X.l (i + 1) (by omega)
    obtain ⟨b1, b2, b3⟩ := tN_bd X hS
    have e1 : (gTde ds (i + 1)).min - (gTde ds i).min = tT ds i := rfl
    (repeat (first | simp (maxSteps := 2000000) (disch := omega) only [go_sem, Nat.reduceEqDiff, Nat.reduceAdd, Nat.reduceMul, Nat.reduceSub, Int.reduceToNat, Int.reduceAdd, Int.reduceSub, Int.reduceMul, Int.reduceNeg] | refine vIf_t ?_ | refine vIf_f ?_))
    (refine vDraw_tr 12 (.rd 0 (.rd 1 (.rd 2 (.rd 3 (.rd 4 (.rd 5 (.rd 6 (.rd 7 (.rd 8 (.alt 9 (.alt 10 (.alt 11 (.done) (.stop)) (.stop)) (.alt 10 (.alt 9 (.alt 11 (.done) (.stop)) (.stop)) (.stop)))))))))))) (fun _ : Unit => True) (fun _ => ⟨57, 0, [(4, .ptr 0 0), (1, I mu), (6, .ptr 1 0), (7, .ptr 2 0), (34, .agg [I (gTde ds (i + 1)).min, I (gTde ds (i + 1)).lev])], [some ⟨2, [I 0, I 0]⟩, some ⟨2, [I (gTde ds i).min, I (gTde ds i).lev]⟩, some ⟨2, [I 0, I 0]⟩]⟩) mixed (by kernel_rfl) ?_ ?_)
    · (repeat (first | simp (maxSteps := 2000000) (disch := omega) only [go_sem, Nat.reduceEqDiff, Nat.reduceAdd, Nat.reduceMul, Nat.reduceSub, Int.reduceToNat, Int.reduceAdd, Int.reduceSub, Int.reduceMul, Int.reduceNeg, k1] | refine vIf_t ?_ | refine vIf_f ?_))
      repeat' (first | refine And.intro ?_ ?_ | (refine ⟨(), _, Frz.refl _, Or.inr ?_⟩; (repeat (first | simp (maxSteps := 2000000) (disch := omega) only [go_sem, Nat.reduceEqDiff, Nat.reduceAdd, Nat.reduceMul, Nat.reduceSub, Int.reduceToNat, Int.reduceAdd, Int.reduceSub, Int.reduceMul, Int.reduceNeg, k1] | refine vIf_t ?_ | refine vIf_f ?_))))
    · intro _ _
      simp only [List.drop_succ_cons, List.drop_zero, List.drop_nil]
      (repeat (first | simp (maxSteps := 2000000) (disch := omega) only [go_sem, Nat.reduceEqDiff, Nat.reduceAdd, Nat.reduceMul, Nat.reduceSub, Int.reduceToNat, Int.reduceAdd, Int.reduceSub, Int.reduceMul, Int.reduceNeg] | refine vIf_t ?_ | refine vIf_f ?_))
      (try (repeat (first | simp (maxSteps := 2000000) (disch := omega) only [go_sem, Nat.reduceEqDiff, Nat.reduceAdd, Nat.reduceMul, Nat.reduceSub, Int.reduceToNat, Int.reduceAdd, Int.reduceSub, Int.reduceMul, Int.reduceNeg, e1] | refine vIf_t ?_ | refine vIf_f ?_)))
      (refine retK_of ?_; (repeat (first | simp (maxSteps := 2000000) (disch := omega) only [go_sem, Nat.reduceEqDiff, Nat.reduceAdd, Nat.reduceMul, Nat.reduceSub, Int.reduceToNat, Int.reduceAdd, Int.reduceSub, Int.reduceMul, Int.reduceNeg] | refine vIf_t ?_ | refine vIf_f ?_)))
      exact ⟨i, hS, rfl⟩
theorem isMin_ok {u : Bool} (ds : List Tde) (X : TdX u ds) (mu : Int) (h0 : (gTde ds 0).min ≤ mu) (h1 : mu ≤ (gTde ds (ds.length - 1)).min) : ACalls Tryd.prog 87 [.sl ds.length (cTde ds), I mu] [] (fun r o => r = B true ∧ o = []) := by
  refine ACalls.of_vc Tryd.func87 rfl (by decide) 18 rfl [.tmp 4] rfl (by simp) ?_
  have n1 := X.n1
  have n2 := X.n2
  have k3 : ((ds.length : Int) - 1).toNat = ds.length - 1 := by omega
  have hin := in_ok mu (gTde ds 0).min (gTde ds (ds.length - 1)).min
  rw [decide_eq_true ⟨h0, h1⟩] at hin
  (repeat (first | simp (maxSteps := 2000000) (disch := omega) only [go_sem, Nat.reduceEqDiff, Nat.reduceAdd, Nat.reduceMul, Nat.reduceSub, Int.reduceToNat, Int.reduceAdd, Int.reduceSub, Int.reduceMul, Int.reduceNeg] | refine vIf_t ?_ | refine vIf_f ?_))
  (refine vDraw_sch 12 [(0, false), (1, false), (2, false), (3, false), (5, false), (6, false), (7, false), (8, false), (9, false), (10, false), (4, false), (11, true)] mixed (by kernel_rfl) ?_; simp only [List.cons_append, List.nil_append, List.map_cons, List.map_nil, nthO_zero, nthO_succ, List.drop_succ_cons, List.drop_zero, List.drop_nil]; (repeat (first | simp (maxSteps := 2000000) (disch := omega) only [go_sem, Nat.reduceEqDiff, Nat.reduceAdd, Nat.reduceMul, Nat.reduceSub, Int.reduceToNat, Int.reduceAdd, Int.reduceSub, Int.reduceMul, Int.reduceNeg] | refine vIf_t ?_ | refine vIf_f ?_)))
  (try (repeat (first | simp (maxSteps := 2000000) (disch := omega) only [go_sem, Nat.reduceEqDiff, Nat.reduceAdd, Nat.reduceMul, Nat.reduceSub, Int.reduceToNat, Int.reduceAdd, Int.reduceSub, Int.reduceMul, Int.reduceNeg, k3] | refine vIf_t ?_ | refine vIf_f ?_)))
  (refine vCallX_of ?_; (repeat (first | simp (maxSteps := 2000000) (disch := omega) only [go_sem, Nat.reduceEqDiff, Nat.reduceAdd, Nat.reduceMul, Nat.reduceSub, Int.reduceToNat, Int.reduceAdd, Int.reduceSub, Int.reduceMul, Int.reduceNeg] | refine vIf_t ?_ | refine vIf_f ?_)); refine vCall_eq (hin) (by simp (disch := omega) only [go_sem, Nat.reduceAdd]) rfl (by first | exact Or.inl rfl | exact Or.inr ⟨rfl, rfl⟩ | (apply Or.inr; simp only [go_sem])) ?_; (repeat (first | simp (maxSteps := 2000000) (disch := omega) only [go_sem, Nat.reduceEqDiff, Nat.reduceAdd, Nat.reduceMul, Nat.reduceSub, Int.reduceToNat, Int.reduceAdd, Int.reduceSub, Int.reduceMul, Int.reduceNeg] | refine vIf_t ?_ | refine vIf_f ?_)))
  (refine retK_of ?_; (repeat (first | simp (maxSteps := 2000000) (disch := omega) only [go_sem, Nat.reduceEqDiff, Nat.reduceAdd, Nat.reduceMul, Nat.reduceSub, Int.reduceToNat, Int.reduceAdd, Int.reduceSub, Int.reduceMul, Int.reduceNeg] | refine vIf_t ?_ | refine vIf_f ?_)))
set_option maxRecDepth 20000 in
theorem tideAtF_ok {u : Bool} (ds : List Tde) (X : TdX u ds) (mu : Int) (h0 : (gTde ds 0).min ≤ mu) (h1 : mu ≤ (gTde ds (ds.length - 1)).min) : ACalls Tryd.prog 34 [.sl ds.length (cTde ds), I mu] []
    (fun r o => ∃ i : Nat, Sg ds mu i ∧ r = .tup [.agg [I (tN ds mu i / (Int.gcd (tN ds mu i) (tT ds i) : Int)), I (tT ds i / (Int.gcd (tN ds mu i) (tT ds i) : Int))], I 0] ∧ o = []) := by
  refine ACalls.of_vc Tryd.func34 rfl (by decide) 26 rfl [.cell 4 58, .tmp 5] rfl (by simp) ?_
  have hv := validT_ok ds X
  have hm := isMin_ok ds X mu h0 h1
  have ht := tideAt_ok ds X mu h0 h1
  (repeat (first | simp (maxSteps := 2000000) (disch := omega) only [go_sem, Nat.reduceEqDiff, Nat.reduceAdd, Nat.reduceMul, Nat.reduceSub, Int.reduceToNat, Int.reduceAdd, Int.reduceSub, Int.reduceMul, Int.reduceNeg] | refine vIf_t ?_ | refine vIf_f ?_))
  (refine vCallX_of ?_; (repeat (first | simp (maxSteps := 2000000) (disch := omega) only [go_sem, Nat.reduceEqDiff, Nat.reduceAdd, Nat.reduceMul, Nat.reduceSub, Int.reduceToNat, Int.reduceAdd, Int.reduceSub, Int.reduceMul, Int.reduceNeg] | refine vIf_t ?_ | refine vIf_f ?_)); refine vCall_eq (hv) (by simp (disch := omega) only [go_sem, Nat.reduceAdd]) rfl (by first | exact Or.inl rfl | exact Or.inr ⟨rfl, rfl⟩ | (apply Or.inr; simp only [go_sem])) ?_; (repeat (first | simp (maxSteps := 2000000) (disch := omega) only [go_sem, Nat.reduceEqDiff, Nat.reduceAdd, Nat.reduceMul, Nat.reduceSub, Int.reduceToNat, Int.reduceAdd, Int.reduceSub, Int.reduceMul, Int.reduceNeg] | refine vIf_t ?_ | refine vIf_f ?_)))
  (refine vCallX_of ?_; (repeat (first | simp (maxSteps := 2000000) (disch := omega) only [go_sem, Nat.reduceEqDiff, Nat.reduceAdd, Nat.reduceMul, Nat.reduceSub, Int.reduceToNat, Int.reduceAdd, Int.reduceSub, Int.reduceMul, Int.reduceNeg] | refine vIf_t ?_ | refine vIf_f ?_)); refine vCall_eq (hm) (by simp (disch := omega) only [go_sem, Nat.reduceAdd]) rfl (by first | exact Or.inl rfl | exact Or.inr ⟨rfl, rfl⟩ | (apply Or.inr; simp only [go_sem])) ?_; (repeat (first | simp (maxSteps := 2000000) (disch := omega) only [go_sem, Nat.reduceEqDiff, Nat.reduceAdd, Nat.reduceMul, Nat.reduceSub, Int.reduceToNat, Int.reduceAdd, Int.reduceSub, Int.reduceMul, Int.reduceNeg] | refine vIf_t ?_ | refine vIf_f ?_)))
  (refine vCallX_of ?_; (repeat (first | simp (maxSteps := 2000000) (disch := omega) only [go_sem, Nat.reduceEqDiff, Nat.reduceAdd, Nat.reduceMul, Nat.reduceSub, Int.reduceToNat, Int.reduceAdd, Int.reduceSub, Int.reduceMul, Int.reduceNeg] | refine vIf_t ?_ | refine vIf_f ?_)); refine vCall_ex (ht) (by simp (disch := omega) only [go_sem, Nat.reduceAdd]) rfl ?_); rintro _ _ ⟨i, hS, rfl, rfl⟩; (refine ⟨(by first | exact Or.inl rfl | exact Or.inr ⟨rfl, rfl⟩ | (apply Or.inr; simp only [go_sem])), ?_⟩; (repeat (first | simp (maxSteps := 2000000) (disch := omega) only [go_sem, Nat.reduceEqDiff, Nat.reduceAdd, Nat.reduceMul, Nat.reduceSub, Int.reduceToNat, Int.reduceAdd, Int.reduceSub, Int.reduceMul, Int.reduceNeg] | refine vIf_t ?_ | refine vIf_f ?_)))
  obtain ⟨b1, b2, b3⟩ := tN_bd X hS
  have hf := frZ_ok (tN ds mu i) (tT ds i) (by unfold tN; omega) (by omega)
  (refine vCallX_of ?_; (repeat (first | simp (maxSteps := 2000000) (disch := omega) only [go_sem, Nat.reduceEqDiff, Nat.reduceAdd, Nat.reduceMul, Nat.reduceSub, Int.reduceToNat, Int.reduceAdd, Int.reduceSub, Int.reduceMul, Int.reduceNeg] | refine vIf_t ?_ | refine vIf_f ?_)); refine vCall_eq (hf) (by simp (disch := omega) only [go_sem, Nat.reduceAdd]) rfl (by first | exact Or.inl rfl | exact Or.inr ⟨rfl, rfl⟩ | (apply Or.inr; simp only [go_sem])) ?_; (repeat (first | simp (maxSteps := 2000000) (disch := omega) only [go_sem, Nat.reduceEqDiff, Nat.reduceAdd, Nat.reduceMul, Nat.reduceSub, Int.reduceToNat, Int.reduceAdd, Int.reduceSub, Int.reduceMul, Int.reduceNeg] | refine vIf_t ?_ | refine vIf_f ?_)))
  (refine retK_of ?_; (repeat (first | simp (maxSteps := 2000000) (disch := omega) only [go_sem, Nat.reduceEqDiff, Nat.reduceAdd, Nat.reduceMul, Nat.reduceSub, Int.reduceToNat, Int.reduceAdd, Int.reduceSub, Int.reduceMul, Int.reduceNeg] | refine vIf_t ?_ | refine vIf_f ?_)))
  exact ⟨i, hS, rfl⟩
theorem div_self_gcd {l t : Int} (ht : 1 ≤ t) : (l * t) / (Int.gcd (l * t) t : Int) = l ∧ t / (Int.gcd (l * t) t : Int) = 1 := by
  have h : (Int.gcd (l * t) t : Int) = t := by
    rw [Int.gcd_mul_left_left]
    omega
  rw [h]
  exact ⟨Int.mul_ediv_cancel _ (by omega), Int.ediv_self (by omega)⟩
/-- at its own minutes a table has its own levels -/
theorem knot {u : Bool} {ds : List Tde} (X : TdX u ds) {k i : Nat} (hk : k < ds.length) (h : Sg ds (gTde ds k).min i) : tN ds (gTde ds k).min i = (gTde ds k).lev * tT ds i := by
  have hn := h.n
  have h1 := h.lo
  have h2 := h.hi
  have h3 := h.lt
  have hik : k = i ∨ k = i + 1 := by
    rcases Nat.lt_trichotomy k i with e | e | e
    · have := X.lt e (by omega); omega
    · exact .inl e
    · rcases Nat.lt_or_ge (i + 1) k with e2 | e2
      · have := X.lt e2 hk; omega
      · exact .inr (by omega)
  rcases hik with rfl | rfl
  · unfold tN; simp
  · unfold tN tT
    rw [← Int.add_mul]
    congr 1
    omega
/-- between two elements the level lies between theirs -/
theorem between {u : Bool} {ds : List Tde} (X : TdX u ds) {k i : Nat} {mu lo hi : Int} (hk : k + 1 < ds.length) (hmu : (gTde ds k).min ≤ mu ∧ mu ≤ (gTde ds (k + 1)).min) (h : Sg ds mu i) (h1 : lo ≤ (gTde ds k).lev ∧ lo ≤ (gTde ds (k + 1)).lev) (h2 : (gTde ds k).lev ≤ hi ∧ (gTde ds (k + 1)).lev ≤ hi) :
    lo * tT ds i ≤ tN ds mu i ∧ tN ds mu i ≤ hi * tT ds i := by
  have hn := h.n
  have g1 := h.lo
  have g2 := h.hi
  have g3 := h.lt
  have hb := (tN_bd X h).1
  have hik : i = k ∨ (i = k + 1 ∧ mu = (gTde ds (k + 1)).min) := by
    rcases Nat.lt_trichotomy i k with e | e | e
    · exfalso
      rcases Nat.lt_or_ge (i + 1) k with e2 | e2
      · have := X.lt e2 (by omega); omega
      · have : i + 1 = k := by omega
        rw [this] at g2 g3
        have := g3 (by omega)
        omega
    · exact .inl e
    · rcases Nat.lt_or_ge (k + 1) i with e2 | e2
      · have := X.lt e2 (by omega); omega
      · have : i = k + 1 := by omega
        rw [this] at g1
        exact .inr ⟨this, by omega⟩
  rcases hik with rfl | ⟨rfl, rfl⟩
  · have e : tN ds mu i = (gTde ds i).lev * ((gTde ds (i + 1)).min - mu) + (gTde ds (i + 1)).lev * (mu - (gTde ds i).min) := by
      unfold tN tT
      rw [Int.sub_mul, Int.mul_sub, Int.mul_sub, Int.mul_sub, Int.mul_sub]
      omega
    have e1 : ∀ x : Int, x * tT ds i = x * ((gTde ds (i + 1)).min - mu) + x * (mu - (gTde ds i).min) := by
      intro x
      rw [← Int.mul_add]
      unfold tT
      congr 1
      omega
    have p1 : lo * ((gTde ds (i + 1)).min - mu) ≤ (gTde ds i).lev * ((gTde ds (i + 1)).min - mu) := Int.mul_le_mul_of_nonneg_right h1.1 (by omega)
    have p2 : lo * (mu - (gTde ds i).min) ≤ (gTde ds (i + 1)).lev * (mu - (gTde ds i).min) := Int.mul_le_mul_of_nonneg_right h1.2 (by omega)
    have p3 : (gTde ds i).lev * ((gTde ds (i + 1)).min - mu) ≤ hi * ((gTde ds (i + 1)).min - mu) := Int.mul_le_mul_of_nonneg_right h2.1 (by omega)
    have p4 : (gTde ds (i + 1)).lev * (mu - (gTde ds i).min) ≤ hi * (mu - (gTde ds i).min) := Int.mul_le_mul_of_nonneg_right h2.2 (by omega)
    rw [e, e1, e1]
    omega
  · have e := knot X (k := k + 1) (by omega) h
    rw [e]
    exact ⟨Int.mul_le_mul_of_nonneg_right h1.2 (by omega), Int.mul_le_mul_of_nonneg_right h2.2 (by omega)⟩
end Go.Proofs.YtnphbdcdncmojaaDoor

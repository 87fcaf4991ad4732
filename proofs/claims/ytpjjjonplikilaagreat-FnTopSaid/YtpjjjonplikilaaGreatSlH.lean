/- parts of the proof of the law, sliced: what it needs of the texts Land2, Land3, Flood, Flood4, Usd, PooP, SpP, SpF, Spr1, Level, Fld1, Srf1, Srf2, Dut4. Conditions: none. -/
import Derived.Test.YtpjjjonplikilaaGreatSlA
import Derived.Test.YtpjjjonplikilaaGreatSlB
import Derived.Test.YtpjjjonplikilaaGreatSlC
import Derived.Test.YtpjjjonplikilaaGreatSlD
import Derived.Test.YtpjjjonplikilaaGreatSlE
import Derived.Test.YtpjjjonplikilaaGreatSlF
import Derived.Test.YtpjjjonplikilaaGreatSlG
import Derived.Test.YtpjjjonplikilaaGreatAgZ
set_option linter.unusedVariables false
set_option linter.unusedSimpArgs false
namespace Go.Proofs.YtpjjjonplikilaaGreat
open Go.AG

/-- the k-th neighbour, if there is one -/
def ngh (l : Ld) (c : Int) : Nat → List Int
  | 0 => if 0 < c / l.cols then [c - l.cols] else []
  | 1 => if 0 < c % l.cols then [c - 1] else []
  | 2 => if c % l.cols < l.cols - 1 then [c + 1] else []
  | 3 => if c / l.cols < l.rows - 1 then [c + l.cols] else []
  | _ => []
def nearK (l : Ld) (c : Int) : Nat → List Int
  | 0 => []
  | k + 1 => nearK l c k ++ ngh l c k
def near (l : Ld) (c : Int) : List Int := nearK l c 4
theorem ngh_len (l : Ld) (c : Int) (k : Nat) : (ngh l c k).length ≤ 1 := by
  unfold ngh; split <;> (try split) <;> simp
theorem nearK_len (l : Ld) (c : Int) (k : Nat) : (nearK l c k).length ≤ k := by
  induction k with
  | zero => simp [nearK]
  | succ k ih => simp only [nearK, List.length_append]; have := ngh_len l c k; omega
/-- the cell of a land: its row and its column -/
structure Cl (l : Ld) (c : Int) : Prop where
  fr : 1 ≤ l.rows ∧ l.rows ≤ 12
  fk : 1 ≤ l.cols ∧ l.cols ≤ 12
  fn : (l.hs.length : Int) = l.rows * l.cols
  fc : 0 ≤ c ∧ c < l.hs.length
  frm : 0 ≤ c / l.cols ∧ c / l.cols < l.rows
  fcm : 0 ≤ c % l.cols ∧ c % l.cols < l.cols
  feq : c / l.cols * l.cols + c % l.cols = c
  fs : (l.hs.length : Int) ≤ 144
theorem Cl.of {l : Ld} {c : Int} (h : okL l = true) (hc : 0 ≤ c ∧ c < l.hs.length) : Cl l c := by
  simp only [okL, Bool.and_eq_true, decide_eq_true_eq] at h
  obtain ⟨⟨⟨h1, h2⟩, h3⟩, h4⟩ := h
  have hm := mul12 h1 h2
  refine ⟨h1, h2, h3, hc, ⟨Int.ediv_nonneg hc.1 (by omega), ?_⟩, ⟨Int.emod_nonneg _ (by omega), Int.emod_lt_of_pos _ (by omega)⟩, by rw [Int.mul_comm]; exact Int.mul_ediv_add_emod c l.cols, by omega⟩
  rw [Int.ediv_lt_iff_lt_mul (by omega)]
  omega
theorem okL_h {l : Ld} (h : okL l = true) (i : Nat) (hi : i < l.hs.length) : -2000 ≤ gi l.hs i ∧ gi l.hs i ≤ 2000 := by
  simp only [okL, Bool.and_eq_true, List.all_eq_true, decide_eq_true_eq] at h
  exact h.2 _ (gi_mem _ _ hi)

theorem cell_ok (l : Ld) (r q : Int) : ACalls Tryz.prog 105 [.agg (lC l), I r, I q] []
    (fun x o => x = .tup [I (IntKind.wrap .i64 (IntKind.wrap .i64 (r * l.cols) + q)), B (decide (0 ≤ r ∧ r ≤ IntKind.wrap .i64 (l.rows - 1)) && decide (0 ≤ q ∧ q ≤ IntKind.wrap .i64 (l.cols - 1)))] ∧ o = []) := by
  refine ACalls.of_vc Tryz.func105 rfl (by decide) 26 rfl [.tmp 6, .tmp 7] rfl (by simp) ?_
  unfold lC
  (repeat (first | simp (maxSteps := 2000000) (disch := omega) only [go_sem, ↓reduceIte] | with_reducible refine vIf_t ?_ | with_reducible refine vIf_f ?_))
  (refine vDraw_of mixed (by kernel_rfl) ?_; (repeat (first | simp (maxSteps := 2000000) (disch := omega) only [go_sem, ↓reduceIte] | with_reducible refine vIf_t ?_ | with_reducible refine vIf_f ?_)))
  (refine vqCall_eq (in_ok r 0 (IntKind.wrap .i64 (l.rows - 1))) (by simp (disch := omega) only [go_sem]) rfl ?_; (repeat (first | simp (maxSteps := 2000000) (disch := omega) only [go_sem, ↓reduceIte] | with_reducible refine vIf_t ?_ | with_reducible refine vIf_f ?_)))
  refine vqGuard_any (fun g1 => ?_) (fun g1 => ?_)
  · (repeat (first | simp (maxSteps := 2000000) (disch := omega) only [go_sem, ↓reduceIte, g1] | with_reducible refine vIf_t ?_ | with_reducible refine vIf_f ?_))
    (refine vqCall_eq (in_ok q 0 (IntKind.wrap .i64 (l.cols - 1))) (by simp (disch := omega) only [go_sem]) rfl ?_; (repeat (first | simp (maxSteps := 2000000) (disch := omega) only [go_sem, ↓reduceIte] | with_reducible refine vIf_t ?_ | with_reducible refine vIf_f ?_)))
    (try (repeat (first | simp (maxSteps := 2000000) (disch := omega) only [go_sem, ↓reduceIte, g1] | with_reducible refine vIf_t ?_ | with_reducible refine vIf_f ?_)))
    (refine retK_of ?_; (repeat (first | simp (maxSteps := 2000000) (disch := omega) only [go_sem, ↓reduceIte] | with_reducible refine vIf_t ?_ | with_reducible refine vIf_f ?_)))
  · have g1 : decide (0 ≤ r ∧ r ≤ IntKind.wrap .i64 (l.rows - 1)) = false := by simpa using g1
    (repeat (first | simp (maxSteps := 2000000) (disch := omega) only [go_sem, ↓reduceIte, g1] | with_reducible refine vIf_t ?_ | with_reducible refine vIf_f ?_))
    (refine retK_of ?_; (repeat (first | simp (maxSteps := 2000000) (disch := omega) only [go_sem, ↓reduceIte] | with_reducible refine vIf_t ?_ | with_reducible refine vIf_f ?_)))
set_option maxRecDepth 100000 in
set_option maxHeartbeats 4000000 in
theorem next_ok (l : Ld) (c : Int) (g : Cl l c) : ACalls Tryz.prog 79 [.agg (lC l), I c] [] (fun r o => r = .ref 0 0 (near l c).length ∧ o = [oI (near l c)]) := by
  refine ACalls.of_vc Tryz.func79 rfl (by decide) 51 rfl [.tmp 4] rfl (by simp) ?_
  have hr := g.fr
  have hk := g.fk
  have hc := g.fc
  have hrm := g.frm
  have hcm := g.fcm
  have hs := g.fs
  have e1 : c.tdiv l.cols = c / l.cols := Int.tdiv_eq_ediv_of_nonneg hc.1
  have e2 : c.tmod l.cols = c % l.cols := Int.tmod_eq_emod_of_nonneg hc.1
  unfold lC
  (repeat (first | simp (maxSteps := 2000000) (disch := omega) only [go_sem, ↓reduceIte, e1, e2] | with_reducible refine vIf_t ?_ | with_reducible refine vIf_f ?_))
  (refine vDraw_of mixed (by kernel_rfl) ?_; (repeat (first | simp (maxSteps := 2000000) (disch := omega) only [go_sem, ↓reduceIte] | with_reducible refine vIf_t ?_ | with_reducible refine vIf_f ?_)))
  (try (repeat (first | simp (maxSteps := 2000000) (disch := omega) only [go_sem, ↓reduceIte, e1, e2] | with_reducible refine vIf_t ?_ | with_reducible refine vIf_f ?_)))
  have hM : ∃ M, M = c / l.cols * l.cols ∧ 0 ≤ M ∧ M ≤ 144 := ⟨_, rfl, Int.mul_nonneg hrm.1 (by omega), by have := g.feq; omega⟩
  obtain ⟨M, hM, hM0, hM1⟩ := hM
  have hMc : M + c % l.cols = c := by rw [hM]; exact g.feq
  have m0 : (c / l.cols + -1) * l.cols = M - l.cols := by rw [hM, Int.add_mul]; omega
  have m3 : (c / l.cols + 1) * l.cols = M + l.cols := by rw [hM, Int.add_mul]; omega
  refine vcLoop_inv (fun k : Nat => k ≤ 4) (fun k => ⟨51, 0, [(2, .ptr 0 0), (5, .ref 1 0 (nearK l c k).length), (6, I (c / l.cols)), (7, I (c % l.cols)), (25, .ref 2 0 4), (26, I 4), (27, I k)], [some ⟨3, lC l⟩, oI (nearK l c k), some ⟨2, [I (-1), I 0, I 0, I (-1), I 0, I 1, I 1, I 0]⟩]⟩) (fun k => 4 - k) 0 (by omega) (by (repeat (first | simp (maxSteps := 2000000) (disch := omega) only [go_sem, ↓reduceIte, lC, nearK] | with_reducible refine vIf_t ?_ | with_reducible refine vIf_f ?_)); all_goals (try simp)) ?_
  intro k hk4
  have hnl := nearK_len l c k
  unfold lC oI
  (repeat (first | simp (maxSteps := 2000000) (disch := omega) only [go_sem, ↓reduceIte] | with_reducible refine vIf_t ?_ | with_reducible refine vIf_f ?_))
  refine vIf_dec (fun h => ?_) (fun h => ?_)
  · obtain rfl | rfl | rfl | rfl : k = 0 ∨ k = 1 ∨ k = 2 ∨ k = 3 := by omega
    · have hcell := cell_ok l (c / l.cols + -1) (c % l.cols)
      unfold lC at hcell
      simp only [m0] at hcell
      have ev : M - l.cols + c % l.cols = c - l.cols := by omega
      (repeat (first | simp (maxSteps := 2000000) (disch := omega) only [go_sem, ↓reduceIte] | with_reducible refine vIf_t ?_ | with_reducible refine vIf_f ?_))
      (refine vCallX_of ?_; (repeat (first | simp (maxSteps := 2000000) (disch := omega) only [go_sem, ↓reduceIte] | with_reducible refine vIf_t ?_ | with_reducible refine vIf_f ?_)); refine vCall_eq (hcell) (by simp (disch := omega) only [go_sem]) rfl (by first | exact Or.inl rfl | exact Or.inr ⟨rfl, rfl⟩ | (apply Or.inr; simp only [go_sem])) ?_; (repeat (first | simp (maxSteps := 2000000) (disch := omega) only [go_sem, ↓reduceIte] | with_reducible refine vIf_t ?_ | with_reducible refine vIf_f ?_)))
      refine vIf_dec (fun hq => ?_) (fun hq => ?_)
      · have e : nearK l c 1 = nearK l c 0 ++ [c - l.cols] := by show nearK l c 0 ++ ngh l c 0 = _; simp only [ngh]; rw [if_pos (by omega)]
        (repeat (first | simp (maxSteps := 2000000) (disch := omega) only [go_sem, ↓reduceIte] | with_reducible refine vIf_t ?_ | with_reducible refine vIf_f ?_))
        refine again 1 (by omega) (by omega) ?_
        (repeat (first | simp (maxSteps := 2000000) (disch := omega) only [go_sem, ↓reduceIte, lC, e, ev] | with_reducible refine vIf_t ?_ | with_reducible refine vIf_f ?_))
      · have e : nearK l c 1 = nearK l c 0 := by show nearK l c 0 ++ ngh l c 0 = _; simp only [ngh]; rw [if_neg (by omega), List.append_nil]
        (repeat (first | simp (maxSteps := 2000000) (disch := omega) only [go_sem, ↓reduceIte] | with_reducible refine vIf_t ?_ | with_reducible refine vIf_f ?_))
        refine again 1 (by omega) (by omega) ?_
        (repeat (first | simp (maxSteps := 2000000) (disch := omega) only [go_sem, ↓reduceIte, lC, e] | with_reducible refine vIf_t ?_ | with_reducible refine vIf_f ?_))
    · have hcell := cell_ok l (c / l.cols) (c % l.cols + -1)
      unfold lC at hcell
      simp only [← hM] at hcell
      have ev : M + (c % l.cols + -1) = c - 1 := by omega
      (repeat (first | simp (maxSteps := 2000000) (disch := omega) only [go_sem, ↓reduceIte] | with_reducible refine vIf_t ?_ | with_reducible refine vIf_f ?_))
      (refine vCallX_of ?_; (repeat (first | simp (maxSteps := 2000000) (disch := omega) only [go_sem, ↓reduceIte] | with_reducible refine vIf_t ?_ | with_reducible refine vIf_f ?_)); refine vCall_eq (hcell) (by simp (disch := omega) only [go_sem]) rfl (by first | exact Or.inl rfl | exact Or.inr ⟨rfl, rfl⟩ | (apply Or.inr; simp only [go_sem])) ?_; (repeat (first | simp (maxSteps := 2000000) (disch := omega) only [go_sem, ↓reduceIte] | with_reducible refine vIf_t ?_ | with_reducible refine vIf_f ?_)))
      refine vIf_dec (fun hq => ?_) (fun hq => ?_)
      · have e : nearK l c 2 = nearK l c 1 ++ [c - 1] := by show nearK l c 1 ++ ngh l c 1 = _; simp only [ngh]; rw [if_pos (by omega)]
        (repeat (first | simp (maxSteps := 2000000) (disch := omega) only [go_sem, ↓reduceIte] | with_reducible refine vIf_t ?_ | with_reducible refine vIf_f ?_))
        refine again 2 (by omega) (by omega) ?_
        (repeat (first | simp (maxSteps := 2000000) (disch := omega) only [go_sem, ↓reduceIte, lC, e, ev] | with_reducible refine vIf_t ?_ | with_reducible refine vIf_f ?_))
      · have e : nearK l c 2 = nearK l c 1 := by show nearK l c 1 ++ ngh l c 1 = _; simp only [ngh]; rw [if_neg (by omega), List.append_nil]
        (repeat (first | simp (maxSteps := 2000000) (disch := omega) only [go_sem, ↓reduceIte] | with_reducible refine vIf_t ?_ | with_reducible refine vIf_f ?_))
        refine again 2 (by omega) (by omega) ?_
        (repeat (first | simp (maxSteps := 2000000) (disch := omega) only [go_sem, ↓reduceIte, lC, e] | with_reducible refine vIf_t ?_ | with_reducible refine vIf_f ?_))
    · have hcell := cell_ok l (c / l.cols) (c % l.cols + 1)
      unfold lC at hcell
      simp only [← hM] at hcell
      have ev : M + (c % l.cols + 1) = c + 1 := by omega
      (repeat (first | simp (maxSteps := 2000000) (disch := omega) only [go_sem, ↓reduceIte] | with_reducible refine vIf_t ?_ | with_reducible refine vIf_f ?_))
      (refine vCallX_of ?_; (repeat (first | simp (maxSteps := 2000000) (disch := omega) only [go_sem, ↓reduceIte] | with_reducible refine vIf_t ?_ | with_reducible refine vIf_f ?_)); refine vCall_eq (hcell) (by simp (disch := omega) only [go_sem]) rfl (by first | exact Or.inl rfl | exact Or.inr ⟨rfl, rfl⟩ | (apply Or.inr; simp only [go_sem])) ?_; (repeat (first | simp (maxSteps := 2000000) (disch := omega) only [go_sem, ↓reduceIte] | with_reducible refine vIf_t ?_ | with_reducible refine vIf_f ?_)))
      refine vIf_dec (fun hq => ?_) (fun hq => ?_)
      · have e : nearK l c 3 = nearK l c 2 ++ [c + 1] := by show nearK l c 2 ++ ngh l c 2 = _; simp only [ngh]; rw [if_pos (by omega)]
        (repeat (first | simp (maxSteps := 2000000) (disch := omega) only [go_sem, ↓reduceIte] | with_reducible refine vIf_t ?_ | with_reducible refine vIf_f ?_))
        refine again 3 (by omega) (by omega) ?_
        (repeat (first | simp (maxSteps := 2000000) (disch := omega) only [go_sem, ↓reduceIte, lC, e, ev] | with_reducible refine vIf_t ?_ | with_reducible refine vIf_f ?_))
      · have e : nearK l c 3 = nearK l c 2 := by show nearK l c 2 ++ ngh l c 2 = _; simp only [ngh]; rw [if_neg (by omega), List.append_nil]
        (repeat (first | simp (maxSteps := 2000000) (disch := omega) only [go_sem, ↓reduceIte] | with_reducible refine vIf_t ?_ | with_reducible refine vIf_f ?_))
        refine again 3 (by omega) (by omega) ?_
        (repeat (first | simp (maxSteps := 2000000) (disch := omega) only [go_sem, ↓reduceIte, lC, e] | with_reducible refine vIf_t ?_ | with_reducible refine vIf_f ?_))
    · have hcell := cell_ok l (c / l.cols + 1) (c % l.cols)
      unfold lC at hcell
      simp only [m3] at hcell
      have ev : M + l.cols + c % l.cols = c + l.cols := by omega
      (repeat (first | simp (maxSteps := 2000000) (disch := omega) only [go_sem, ↓reduceIte] | with_reducible refine vIf_t ?_ | with_reducible refine vIf_f ?_))
      (refine vCallX_of ?_; (repeat (first | simp (maxSteps := 2000000) (disch := omega) only [go_sem, ↓reduceIte] | with_reducible refine vIf_t ?_ | with_reducible refine vIf_f ?_)); refine vCall_eq (hcell) (by simp (disch := omega) only [go_sem]) rfl (by first | exact Or.inl rfl | exact Or.inr ⟨rfl, rfl⟩ | (apply Or.inr; simp only [go_sem])) ?_; (repeat (first | simp (maxSteps := 2000000) (disch := omega) only [go_sem, ↓reduceIte] | with_reducible refine vIf_t ?_ | with_reducible refine vIf_f ?_)))
      refine vIf_dec (fun hq => ?_) (fun hq => ?_)
      · have e : nearK l c 4 = nearK l c 3 ++ [c + l.cols] := by show nearK l c 3 ++ ngh l c 3 = _; simp only [ngh]; rw [if_pos (by omega)]
        (repeat (first | simp (maxSteps := 2000000) (disch := omega) only [go_sem, ↓reduceIte] | with_reducible refine vIf_t ?_ | with_reducible refine vIf_f ?_))
        refine again 4 (by omega) (by omega) ?_
        (repeat (first | simp (maxSteps := 2000000) (disch := omega) only [go_sem, ↓reduceIte, lC, e, ev] | with_reducible refine vIf_t ?_ | with_reducible refine vIf_f ?_))
      · have e : nearK l c 4 = nearK l c 3 := by show nearK l c 3 ++ ngh l c 3 = _; simp only [ngh]; rw [if_neg (by omega), List.append_nil]
        (repeat (first | simp (maxSteps := 2000000) (disch := omega) only [go_sem, ↓reduceIte] | with_reducible refine vIf_t ?_ | with_reducible refine vIf_f ?_))
        refine again 4 (by omega) (by omega) ?_
        (repeat (first | simp (maxSteps := 2000000) (disch := omega) only [go_sem, ↓reduceIte, lC, e] | with_reducible refine vIf_t ?_ | with_reducible refine vIf_f ?_))
  · have e : k = 4 := by omega
    subst e
    (repeat (first | simp (maxSteps := 2000000) (disch := omega) only [go_sem, ↓reduceIte] | with_reducible refine vIf_t ?_ | with_reducible refine vIf_f ?_))
    (refine retK_of ?_; (repeat (first | simp (maxSteps := 2000000) (disch := omega) only [go_sem, ↓reduceIte] | with_reducible refine vIf_t ?_ | with_reducible refine vIf_f ?_)))
    exact ⟨rfl, rfl⟩
end Go.Proofs.YtpjjjonplikilaaGreat
namespace Go.Proofs.YtpjjjonplikilaaGreat
open Go.AG

def inC (l : Ld) (c : Int) : Prop := 0 ≤ c ∧ c ≤ (l.hs.length : Int) - 1
instance (l : Ld) (c : Int) : Decidable (inC l c) := by unfold inC; infer_instance
def ccC (l : Ld) (c : Int) : Int := if okL l = true then if inC l c then 0 else 2 else 1
theorem Cl.of2 {l : Ld} {c : Int} (h : okL l = true) (hc : inC l c) : Cl l c := Cl.of h (by unfold inC at hc; omega)
theorem isCell_ok (l : Ld) (c : Int) (hl : l.hs.length ≤ 10000000) : ACalls Tryz.prog 80 [.agg (lC l), I c] [] (fun r o => r = B (decide (inC l c)) ∧ o = []) := by
  refine ACalls.of_vc Tryz.func80 rfl (by decide) 11 rfl [.tmp 4] rfl (by simp) ?_
  unfold lC
  (repeat (first | simp (maxSteps := 2000000) (disch := omega) only [go_sem, ↓reduceIte] | with_reducible refine vIf_t ?_ | with_reducible refine vIf_f ?_))
  (refine vCallX_of ?_; (repeat (first | simp (maxSteps := 2000000) (disch := omega) only [go_sem, ↓reduceIte] | with_reducible refine vIf_t ?_ | with_reducible refine vIf_f ?_)); refine vCall_eq (size_ok (ints l.hs) l.hs.length) (by simp (disch := omega) only [go_sem]) rfl (by first | exact Or.inl rfl | exact Or.inr ⟨rfl, rfl⟩ | (apply Or.inr; simp only [go_sem])) ?_; (repeat (first | simp (maxSteps := 2000000) (disch := omega) only [go_sem, ↓reduceIte] | with_reducible refine vIf_t ?_ | with_reducible refine vIf_f ?_)))
  (refine vCallX_of ?_; (repeat (first | simp (maxSteps := 2000000) (disch := omega) only [go_sem, ↓reduceIte] | with_reducible refine vIf_t ?_ | with_reducible refine vIf_f ?_)); refine vCall_eq (in_ok c 0 ((l.hs.length : Int) - 1)) (by simp (disch := omega) only [go_sem]) rfl (by first | exact Or.inl rfl | exact Or.inr ⟨rfl, rfl⟩ | (apply Or.inr; simp only [go_sem])) ?_; (repeat (first | simp (maxSteps := 2000000) (disch := omega) only [go_sem, ↓reduceIte] | with_reducible refine vIf_t ?_ | with_reducible refine vIf_f ?_)))
  (refine retK_of ?_; (repeat (first | simp (maxSteps := 2000000) (disch := omega) only [go_sem, ↓reduceIte] | with_reducible refine vIf_t ?_ | with_reducible refine vIf_f ?_)))
  rfl
theorem cellCode_ok (l : Ld) (c : Int) (hl : l.hs.length ≤ 10000000) : ACalls Tryz.prog 46 [.agg (lC l), I c] [] (fun r o => r = I (ccC l c) ∧ o = []) := by
  refine ACalls.of_vc Tryz.func46 rfl (by decide) 14 rfl [.tmp 4] rfl (by simp) ?_
  have hv := validL_ok l hl
  have hi := isCell_ok l c hl
  unfold lC at hv hi ⊢
  (repeat (first | simp (maxSteps := 2000000) (disch := omega) only [go_sem, ↓reduceIte] | with_reducible refine vIf_t ?_ | with_reducible refine vIf_f ?_))
  (refine vCallX_of ?_; (repeat (first | simp (maxSteps := 2000000) (disch := omega) only [go_sem, ↓reduceIte] | with_reducible refine vIf_t ?_ | with_reducible refine vIf_f ?_)); refine vCall_eq (hv) (by simp (disch := omega) only [go_sem]) rfl (by first | exact Or.inl rfl | exact Or.inr ⟨rfl, rfl⟩ | (apply Or.inr; simp only [go_sem])) ?_; (repeat (first | simp (maxSteps := 2000000) (disch := omega) only [go_sem, ↓reduceIte] | with_reducible refine vIf_t ?_ | with_reducible refine vIf_f ?_)))
  refine vIf_not (fun h1 => ?_) (fun h1 => ?_)
  · (repeat (first | simp (maxSteps := 2000000) (disch := omega) only [go_sem, ↓reduceIte] | with_reducible refine vIf_t ?_ | with_reducible refine vIf_f ?_))
    (refine retK_of ?_; (repeat (first | simp (maxSteps := 2000000) (disch := omega) only [go_sem, ↓reduceIte] | with_reducible refine vIf_t ?_ | with_reducible refine vIf_f ?_)))
    simp [ccC, h1]
  (repeat (first | simp (maxSteps := 2000000) (disch := omega) only [go_sem, ↓reduceIte] | with_reducible refine vIf_t ?_ | with_reducible refine vIf_f ?_))
  (refine vCallX_of ?_; (repeat (first | simp (maxSteps := 2000000) (disch := omega) only [go_sem, ↓reduceIte] | with_reducible refine vIf_t ?_ | with_reducible refine vIf_f ?_)); refine vCall_eq (hi) (by simp (disch := omega) only [go_sem]) rfl (by first | exact Or.inl rfl | exact Or.inr ⟨rfl, rfl⟩ | (apply Or.inr; simp only [go_sem])) ?_; (repeat (first | simp (maxSteps := 2000000) (disch := omega) only [go_sem, ↓reduceIte] | with_reducible refine vIf_t ?_ | with_reducible refine vIf_f ?_)))
  refine vIf_not (fun h2 => ?_) (fun h2 => ?_)
  · have h2 : ¬ inC l c := of_decide_eq_false h2
    (repeat (first | simp (maxSteps := 2000000) (disch := omega) only [go_sem, ↓reduceIte] | with_reducible refine vIf_t ?_ | with_reducible refine vIf_f ?_))
    (refine retK_of ?_; (repeat (first | simp (maxSteps := 2000000) (disch := omega) only [go_sem, ↓reduceIte] | with_reducible refine vIf_t ?_ | with_reducible refine vIf_f ?_)))
    simp only [ccC, h1, if_true]; rw [if_neg h2]
  · have h2 : inC l c := of_decide_eq_true h2
    (repeat (first | simp (maxSteps := 2000000) (disch := omega) only [go_sem, ↓reduceIte] | with_reducible refine vIf_t ?_ | with_reducible refine vIf_f ?_))
    (refine retK_of ?_; (repeat (first | simp (maxSteps := 2000000) (disch := omega) only [go_sem, ↓reduceIte] | with_reducible refine vIf_t ?_ | with_reducible refine vIf_f ?_)))
    simp only [ccC, h1, if_true]; rw [if_pos h2]
end Go.Proofs.YtpjjjonplikilaaGreat
namespace Go.Proofs.YtpjjjonplikilaaGreat
open Go.AG

theorem ngh_in {l : Ld} {c : Int} (g : Cl l c) (k : Nat) : ∀ x ∈ ngh l c k, inC l x := by
  have h1 := g.frm
  have h2 := g.fcm
  have h3 := g.feq
  have h4 := g.fn
  have h5 := g.fc
  have h6 := g.fk
  have h7 := g.fr
  intro x hx
  unfold ngh at hx
  unfold inC
  split at hx
  · split at hx
    · simp only [List.mem_singleton] at hx
      rename_i h
      have : 1 * l.cols ≤ c / l.cols * l.cols := Int.mul_le_mul_of_nonneg_right (by omega) (by omega)
      omega
    · simp at hx
  · split at hx
    · simp only [List.mem_singleton] at hx
      rename_i h
      have : 0 ≤ c / l.cols * l.cols := Int.mul_nonneg h1.1 (by omega)
      omega
    · simp at hx
  · split at hx
    · simp only [List.mem_singleton] at hx
      rename_i h
      have e : (c / l.cols + 1) * l.cols ≤ l.rows * l.cols := Int.mul_le_mul_of_nonneg_right (by omega) (by omega)
      rw [Int.add_mul, Int.one_mul] at e
      omega
    · simp at hx
  · split at hx
    · simp only [List.mem_singleton] at hx
      rename_i h
      have e : (c / l.cols + 1 + 1) * l.cols ≤ l.rows * l.cols := Int.mul_le_mul_of_nonneg_right (by omega) (by omega)
      rw [Int.add_mul, Int.add_mul, Int.one_mul] at e
      omega
    · simp at hx
  · simp at hx
theorem near_in (l : Ld) (hok : okL l = true) (c : Int) (hc : inC l c) : ∀ x ∈ near l c, inC l x := by
  have g := Cl.of2 hok hc
  intro x hx
  unfold near at hx
  simp only [nearK, List.nil_append, List.mem_append] at hx
  rcases hx with ((hx | hx) | hx) | hx
  · exact ngh_in g 0 x hx
  · exact ngh_in g 1 x hx
  · exact ngh_in g 2 x hx
  · exact ngh_in g 3 x hx
/-- how many marks are not set -/
def cF (s : List Bool) : Nat := (s.filter (! ·)).length
theorem cF_set (s : List Bool) (i : Nat) (h : i < s.length) (hf : gb s i = false) : cF (s.set i true) + 1 = cF s := by
  induction s generalizing i with
  | nil => simp at h
  | cons b s ih => cases i with
    | zero =>
      simp only [gb, List.getD_cons_zero] at hf
      subst hf
      simp [cF]
    | succ i =>
      have := ih i (by simpa using h) (by simpa [gb] using hf)
      simp only [cF, List.set_cons_succ, List.filter_cons] at this ⊢
      cases b <;> simp_all <;> omega
end Go.Proofs.YtpjjjonplikilaaGreat
namespace Go.Proofs.YtpjjjonplikilaaGreat
open Go.AG

abbrev off (l : Ld) : List Bool := List.replicate l.hs.length false
end Go.Proofs.YtpjjjonplikilaaGreat
namespace Go.Proofs.YtpjjjonplikilaaGreat
open Go.AG

/-- which cells are used -/
def usd (n : Nat) (L : List Int) : List Bool := (List.range n).map fun (i : Nat) => decide ((i : Int) ∈ L)
theorem usd_len (n : Nat) (L : List Int) : (usd n L).length = n := by simp [usd]
theorem usd_get (n : Nat) (L : List Int) (i : Nat) (h : i < n) : gb (usd n L) i = decide ((i : Int) ∈ L) := by
  rw [gb_lt _ _ (by rw [usd_len]; exact h)]; simp [usd]
theorem usd_nil (n : Nat) : usd n [] = List.replicate n false := by
  apply List.ext_getElem (by simp [usd])
  intro i h1 h2
  simp [usd]
theorem usd_set (n : Nat) (L : List Int) (x : Int) (h : 0 ≤ x ∧ x < n) : (usd n L).set x.toNat true = usd n (L ++ [x]) := by
  apply List.ext_getElem (by simp [usd])
  intro i h1 h2
  rw [List.getElem_set]
  by_cases e : x.toNat = i
  · rw [if_pos e]
    have : (i : Int) = x := by omega
    simp [usd, this]
  · rw [if_neg e]
    have : ¬ (i : Int) = x := by omega
    simp [usd, this]

end Go.Proofs.YtpjjjonplikilaaGreat
namespace Go.Proofs.YtpjjjonplikilaaGreat
open Go.AG

theorem gb_usd (n : Nat) (L : List Int) (x : Int) (h : 0 ≤ x ∧ x < n) : gb (usd n L) x.toNat = decide (x ∈ L) := by
  rw [usd_get n L x.toNat (by omega), show ((x.toNat : Nat) : Int) = x by omega]
theorem usd_ext (n : Nat) (A B : List Int) (h : ∀ x : Int, 0 ≤ x → x < n → (x ∈ A ↔ x ∈ B)) : usd n A = usd n B := by
  unfold usd
  apply List.map_congr_left
  intro i hi
  rw [List.mem_range] at hi
  have := h i (by omega) (by omega)
  simp only [this]
theorem cF_usd (n : Nat) (A : List Int) (hA : ∀ x ∈ A, 0 ≤ x ∧ x < (n : Int)) (hn : A.Nodup) : cF (usd n A) + A.length = n := by
  have key : ∀ (m : Nat) (A : List Int), A.length = m → (∀ x ∈ A, 0 ≤ x ∧ x < (n : Int)) → A.Nodup → cF (usd n A) + A.length = n := by
    intro m
    induction m with
    | zero =>
      intro A hl _ _
      have e : A = [] := List.eq_nil_of_length_eq_zero hl
      subst e
      rw [usd_nil]
      simp [cF]
    | succ m ih =>
      intro A hl hA hn
      have hne : A ≠ [] := by intro e; subst e; simp at hl
      obtain ⟨B, x, rfl⟩ : ∃ B x, A = B ++ [x] := ⟨A.dropLast, A.getLast hne, (List.dropLast_concat_getLast hne).symm⟩
      have hx := hA x (by simp)
      have hlB : B.length = m := by simpa using hl
      rw [List.nodup_append] at hn
      have h1 := ih B hlB (fun y hy => hA y (by simp [hy])) hn.1
      have hxB : ¬ x ∈ B := fun e => hn.2.2 x e x (by simp) rfl
      have h2 := cF_set (usd n B) x.toNat (by rw [usd_len]; omega) (by rw [gb_usd n B x hx]; exact decide_eq_false hxB)
      rw [usd_set n B x hx] at h2
      simp only [List.length_append, List.length_singleton]
      omega
  exact key _ A rfl hA hn
theorem usd_same (n : Nat) (A B : List Int) (hA : ∀ x ∈ A, 0 ≤ x ∧ x < (n : Int)) (hB : ∀ x ∈ B, 0 ≤ x ∧ x < (n : Int)) (nA : A.Nodup) (nB : B.Nodup) (h : ∀ x : Int, x ∈ A ↔ x ∈ B) : A.length = B.length := by
  have h1 := cF_usd n A hA nA
  have h2 := cF_usd n B hB nB
  rw [usd_ext n A B (fun x _ _ => h x)] at h1
  omega
theorem nodup_snoc {A : List Int} {x : Int} (h : A.Nodup) (hx : ¬ x ∈ A) : (A ++ [x]).Nodup := by
  rw [List.nodup_append]
  refine ⟨h, by simp, fun a ha b hb e => hx ?_⟩
  rw [List.mem_singleton] at hb
  rw [← hb, ← e]; exact ha
theorem ixs_mem (n : Nat) (q : Nat → Bool) (x : Int) : x ∈ ixs n q ↔ ∃ i : Nat, i < n ∧ q i = true ∧ x = i := by
  simp only [ixs, List.mem_map, List.mem_filter, List.mem_range]
  constructor
  · rintro ⟨i, ⟨h1, h2⟩, rfl⟩; exact ⟨i, h1, h2, rfl⟩
  · rintro ⟨i, h1, h2, rfl⟩; exact ⟨i, ⟨h1, h2⟩, rfl⟩
theorem ixs_nodup (n : Nat) (q : Nat → Bool) : (ixs n q).Nodup := by
  induction n with
  | zero => simp [ixs]
  | succ n ih =>
    cases h : q n with
    | true =>
      rw [ixs_yes h]
      refine nodup_snoc ih fun e => ?_
      obtain ⟨i, h1, _, h3⟩ := (ixs_mem n q n).1 e
      omega
    | false => rw [ixs_no h]; exact ih
end Go.Proofs.YtpjjjonplikilaaGreat
namespace Go.Proofs.YtpjjjonplikilaaGreat
open Go.AG

def mxI (a b : Int) : Int := if a < b then b else a
theorem mxI_ge (a b : Int) : a ≤ mxI a b ∧ b ≤ mxI a b ∧ (mxI a b = a ∨ mxI a b = b) := by unfold mxI; split <;> omega
theorem mxI_mono {a b c : Int} (h : a ≤ b) : mxI a c ≤ mxI b c := by unfold mxI; split <;> split <;> omega
structure Sp where
  out : List Int
  op : List Int
  od : List Int
/-- the number of a cell's surface -/
abbrev ga (xs : List Int) (x : Int) : Int := gi xs x.toNat
theorem ga_set_same {xs : List Int} {x n : Int} (h : 0 ≤ x ∧ x < xs.length) : ga (xs.set x.toNat n) x = n := gi_set_same _ _ _ (by omega)
theorem ga_set_ne {xs : List Int} {x y n : Int} (h : 0 ≤ x) (hy : 0 ≤ y) (hn : y ≠ x) : ga (xs.set x.toNat n) y = ga xs y := gi_set_ne _ _ _ _ (by omega)
def bsK (out op : List Int) : Nat → Int
  | 0 => -1
  | i + 1 => if (i : Int) ∈ op ∧ (bsK out op i < 0 ∨ gi out i < ga out (bsK out op i)) then i else bsK out op i
theorem bsK_ok (out op : List Int) : ∀ n, (bsK out op n = -1 ∧ ∀ i : Nat, i < n → ¬ (i : Int) ∈ op) ∨ (∃ b : Nat, bsK out op n = b ∧ b < n ∧ (b : Int) ∈ op ∧ ∀ i : Nat, i < n → (i : Int) ∈ op → gi out b ≤ gi out i)
  | 0 => .inl ⟨rfl, fun i h => by omega⟩
  | n + 1 => by
    simp only [bsK]
    rcases bsK_ok out op n with ⟨h1, h2⟩ | ⟨b, h1, h2, h3, h4⟩
    · by_cases g : (n : Int) ∈ op
      · refine .inr ⟨n, if_pos ⟨g, .inl (by omega)⟩, by omega, g, fun i hi hm => ?_⟩
        by_cases e : i = n
        · subst e; omega
        · exact absurd hm (h2 i (by omega))
      · refine .inl ⟨by rw [if_neg (fun e => g e.1)]; exact h1, fun i hi => ?_⟩
        by_cases e : i = n
        · subst e; exact g
        · exact h2 i (by omega)
    · by_cases g : (n : Int) ∈ op ∧ (bsK out op n < 0 ∨ gi out n < ga out (bsK out op n))
      · refine .inr ⟨n, if_pos g, by omega, g.1, fun i hi hm => ?_⟩
        by_cases e : i = n
        · subst e; omega
        · have := h4 i (by omega) hm
          have g2 := g.2
          rw [h1] at g2
          simp only [ga, Int.toNat_natCast] at g2
          omega
      · refine .inr ⟨b, by rw [if_neg g]; exact h1, by omega, h3, fun i hi hm => ?_⟩
        by_cases e : i = n
        · subst e
          rw [h1] at g
          simp only [ga, Int.toNat_natCast, hm, true_and, not_or] at g
          omega
        · exact h4 i (by omega) hm
theorem bsK_bd (out op : List Int) (n : Nat) : -1 ≤ bsK out op n ∧ bsK out op n < n := by
  rcases bsK_ok out op n with ⟨h, _⟩ | ⟨b, h, h2, _⟩ <;> omega
def spS (l : Ld) (b : Int) (a : Sp) (x : Int) : Sp :=
  if ¬ x ∈ a.od ∧ (¬ x ∈ a.op ∨ mxI (ga a.out b) (ga l.hs x) < ga a.out x) then
    ⟨a.out.set x.toNat (mxI (ga a.out b) (ga l.hs x)), if x ∈ a.op then a.op else a.op ++ [x], a.od⟩ else a
def spT (a : Sp) (b : Int) : Sp := ⟨a.out, a.op.erase b, a.od ++ [b]⟩
def spR (l : Ld) (b : Int) (a : Sp) (xs : List Int) : Sp := xs.foldl (spS l b) a
theorem spR_succ (l : Ld) (b : Int) (a : Sp) (xs : List Int) (k : Nat) (h : k < xs.length) : spR l b a (xs.take (k + 1)) = spS l b (spR l b a (xs.take k)) (gi xs k) := by
  rw [take_succ_gi xs k h, spR, List.foldl_append]; rfl
def spB (l : Ld) (a : Sp) : Int := bsK a.out a.op l.hs.length
def spN (l : Ld) (a : Sp) : Sp := spR l (spB l a) (spT a (spB l a)) (near l (spB l a))
def spP (l : Ld) (a : Sp) (c : Int) : Sp := ⟨a.out.set c.toNat (ga l.hs c), if c ∈ a.op then a.op else a.op ++ [c], []⟩
def spI (l : Ld) (fr : List Int) : Sp := fr.foldl (spP l) ⟨List.replicate l.hs.length 0, [], []⟩
theorem spI_succ (l : Ld) (fr : List Int) (k : Nat) (h : k < fr.length) : spI l (fr.take (k + 1)) = spP l (spI l (fr.take k)) (gi fr k) := by
  rw [take_succ_gi fr k h, spI, List.foldl_append]; rfl
def spK (l : Ld) (fr : List Int) : Nat → Sp
  | 0 => spI l fr
  | k + 1 => if (spK l fr k).op = [] then spK l fr k else spN l (spK l fr k)
def spE (l : Ld) (fr : List Int) : Sp := spK l fr l.hs.length

structure SpOk (l : Ld) (fr : List Int) (Q : Int → Int → Prop) (a : Sp) : Prop where
  len : a.out.length = l.hs.length
  cel : ∀ x ∈ a.op ++ a.od, inC l x
  nd : (a.op ++ a.od).Nodup
  dn : ∀ d ∈ a.od, ∀ o ∈ a.op, ga a.out d ≤ ga a.out o
  up : ∀ x ∈ a.op ++ a.od, ga l.hs x ≤ ga a.out x
  hi : ∀ x ∈ a.op ++ a.od, ga a.out x ≤ 2000
  fo : ∀ o ∈ fr, o ∈ a.op ++ a.od ∧ ga a.out o ≤ ga l.hs o
  rx : ∀ d ∈ a.od, ∀ y ∈ near l d, Q d y → y ∈ a.op ++ a.od ∧ ga a.out y ≤ mxI (ga a.out d) (ga l.hs y)
  on : ∀ x ∈ a.op ++ a.od, x ∈ fr ∨ ∃ b ∈ a.od, x ∈ near l b ∧ ga a.out b ≤ ga a.out x
  mn : ∀ T : Int → Int, (∀ o ∈ fr, T o ≤ ga l.hs o) → (∀ x y, inC l x → y ∈ near l x → T y ≤ mxI (T x) (ga l.hs y)) → ∀ x ∈ a.op ++ a.od, T x ≤ ga a.out x
  so : ∀ i, i + 1 < a.od.length → ga a.out (gi a.od i) ≤ ga a.out (gi a.od (i + 1))
theorem spS_ok {l : Ld} {fr : List Int} {Q : Int → Int → Prop} {a : Sp} (hok : okL l = true) (h : SpOk l fr Q a) (b x : Int) (hb : b ∈ a.od) (hbd : ∀ d ∈ a.od, ga a.out d ≤ ga a.out b) (hx : x ∈ near l b) :
    SpOk l fr (fun d y => Q d y ∨ (d = b ∧ y = x)) (spS l b a x) ∧ (spS l b a x).od = a.od ∧ ∀ d ∈ a.od, ga (spS l b a x).out d = ga a.out d := by
  have hbc : inC l b := h.cel b (List.mem_append.2 (.inr hb))
  have hxc : inC l x := near_in l hok b hbc x hx
  have hxb : 0 ≤ x ∧ x ≤ (l.hs.length : Int) - 1 := hxc
  have hm := mxI_ge (ga a.out b) (ga l.hs x)
  have hhx := okL_h hok x.toNat (by omega)
  unfold spS
  split
  · rename_i g
    obtain ⟨g1, g2⟩ := g
    generalize hmd : mxI (ga a.out b) (ga l.hs x) = m at *
    have hsame : ga (a.out.set x.toNat m) x = m := ga_set_same (by rw [h.len]; omega)
    have hne : ∀ y, inC l y → y ≠ x → ga (a.out.set x.toNat m) y = ga a.out y := fun y hy e => by
      have : 0 ≤ y ∧ y ≤ (l.hs.length : Int) - 1 := hy
      exact ga_set_ne hxb.1 this.1 e
    have hod : ∀ d ∈ a.od, d ≠ x := fun d hd e => g1 (e ▸ hd)
    have hodv : ∀ d ∈ a.od, ga (a.out.set x.toNat m) d = ga a.out d := fun d hd => hne d (h.cel d (List.mem_append.2 (.inr hd))) (hod d hd)
    have hmem : ∀ y, y ∈ (if x ∈ a.op then a.op else a.op ++ [x]) ++ a.od ↔ y ∈ a.op ++ a.od ∨ y = x := fun y => by
      split
      · rename_i e
        constructor
        · exact .inl
        · rintro (h | rfl)
          · exact h
          · exact List.mem_append.2 (.inl e)
      · simp only [List.mem_append, List.mem_singleton]
        constructor
        · rintro ((h | h) | h)
          · exact .inl (.inl h)
          · exact .inr h
          · exact .inl (.inr h)
        · rintro ((h | h) | h)
          · exact .inl (.inl h)
          · exact .inr h
          · exact .inl (.inr h)
    have hmop : ∀ y, y ∈ (if x ∈ a.op then a.op else a.op ++ [x]) → y ∈ a.op ∨ y = x := fun y => by
      split
      · exact .inl
      · simp only [List.mem_append, List.mem_singleton]; exact id
    have hold : x ∈ a.op ++ a.od → m < ga a.out x := fun e => by
      rcases List.mem_append.1 e with e | e
      · rcases g2 with g2 | g2
        · exact absurd e g2
        · exact g2
      · exact absurd e g1
    have hbv := hodv b hb
    refine ⟨⟨by simp [h.len], ?_, ?_, ?_, ?_, ?_, ?_, ?_, ?_, ?_, ?_⟩, rfl, hodv⟩
    · intro y hy
      rcases (hmem y).1 hy with hy | rfl
      · exact h.cel y hy
      · exact hxc
    · show ((if x ∈ a.op then a.op else a.op ++ [x]) ++ a.od).Nodup
      split
      · exact h.nd
      · rename_i e
        rw [List.append_assoc]
        have hp : (a.op ++ ([x] ++ a.od)).Perm ((a.op ++ a.od) ++ [x]) := by
          rw [List.append_assoc]
          exact List.Perm.append_left _ List.perm_append_comm
        rw [hp.nodup_iff]
        exact nodup_snoc h.nd (fun e2 => by rcases List.mem_append.1 e2 with e2 | e2; exact e e2; exact g1 e2)
    · intro d hd o ho
      show ga (a.out.set x.toNat m) d ≤ ga (a.out.set x.toNat m) o
      rw [hodv d hd]
      by_cases e : o = x
      · subst e
        rw [hsame]
        have := hbd d hd
        omega
      · rcases hmop o ho with ho | ho
        · rw [hne o (h.cel o (List.mem_append.2 (.inl ho))) e]
          exact h.dn d hd o ho
        · exact absurd ho e
    · intro y hy
      show ga l.hs y ≤ ga (a.out.set x.toNat m) y
      by_cases e : y = x
      · subst e; rw [hsame]; omega
      · have hy := ((hmem y).1 hy).resolve_right e
        rw [hne y (h.cel y hy) e]; exact h.up y hy
    · intro y hy
      show ga (a.out.set x.toNat m) y ≤ 2000
      by_cases e : y = x
      · subst e
        rw [hsame]
        have := h.hi b (List.mem_append.2 (.inr hb))
        rcases hm.2.2 with e2 | e2
        · omega
        · rw [e2]; exact hhx.2
      · have hy := ((hmem y).1 hy).resolve_right e
        rw [hne y (h.cel y hy) e]; exact h.hi y hy
    · intro o ho
      obtain ⟨h1, h2⟩ := h.fo o ho
      refine ⟨(hmem o).2 (.inl h1), ?_⟩
      show ga (a.out.set x.toNat m) o ≤ ga l.hs o
      by_cases e : o = x
      · subst e
        rw [hsame]
        have := hold h1
        omega
      · rw [hne o (h.cel o h1) e]; exact h2
    · intro d hd y hy hq
      show y ∈ (if x ∈ a.op then a.op else a.op ++ [x]) ++ a.od ∧ ga (a.out.set x.toNat m) y ≤ mxI (ga (a.out.set x.toNat m) d) (ga l.hs y)
      rw [hodv d hd]
      by_cases e : y = x
      · subst e
        refine ⟨(hmem y).2 (.inr rfl), ?_⟩
        rw [hsame]
        rcases hq with hq | ⟨rfl, _⟩
        · obtain ⟨h1, h2⟩ := h.rx d hd y hy hq
          have := hold h1
          omega
        · omega
      · have hq := hq.resolve_right (fun e2 => e e2.2)
        obtain ⟨h1, h2⟩ := h.rx d hd y hy hq
        refine ⟨(hmem y).2 (.inl h1), ?_⟩
        rw [hne y (h.cel y h1) e]; exact h2
    · intro y hy
      by_cases e : y = x
      · subst e
        refine .inr ⟨b, hb, hx, ?_⟩
        show ga (a.out.set y.toNat m) b ≤ ga (a.out.set y.toNat m) y
        rw [hsame, hbv]; omega
      · have hy := ((hmem y).1 hy).resolve_right e
        rcases h.on y hy with h1 | ⟨c, hc, h1, h2⟩
        · exact .inl h1
        · refine .inr ⟨c, hc, h1, ?_⟩
          show ga (a.out.set x.toNat m) c ≤ ga (a.out.set x.toNat m) y
          rw [hodv c hc, hne y (h.cel y hy) e]; exact h2
    · intro T h1 h2 y hy
      show T y ≤ ga (a.out.set x.toNat m) y
      by_cases e : y = x
      · subst e
        have h3 := h2 b y hbc hx
        have h4 := h.mn T h1 h2 b (List.mem_append.2 (.inr hb))
        have h5 := mxI_mono (c := ga l.hs y) h4
        rw [hsame]; omega
      · have hy := ((hmem y).1 hy).resolve_right e
        rw [hne y (h.cel y hy) e]; exact h.mn T h1 h2 y hy
    · intro i hi
      show ga (a.out.set x.toNat m) (gi a.od i) ≤ ga (a.out.set x.toNat m) (gi a.od (i + 1))
      have hi' : i + 1 < a.od.length := hi
      rw [hodv _ (gi_mem _ _ (by omega)), hodv _ (gi_mem _ _ hi')]
      exact h.so i hi'
  · rename_i g
    refine ⟨⟨h.len, h.cel, h.nd, h.dn, h.up, h.hi, h.fo, ?_, h.on, h.mn, h.so⟩, rfl, fun d _ => rfl⟩
    intro d hd y hy hq
    rcases hq with hq | ⟨rfl, rfl⟩
    · exact h.rx d hd y hy hq
    · by_cases e : y ∈ a.od
      · refine ⟨List.mem_append.2 (.inr e), ?_⟩
        have := hbd y e
        omega
      · have e2 : y ∈ a.op ∧ ga a.out y ≤ mxI (ga a.out d) (ga l.hs y) := by
          simp only [e, not_false_eq_true, true_and, not_or, Classical.not_not] at g
          exact ⟨g.1, by omega⟩
        exact ⟨List.mem_append.2 (.inl e2.1), e2.2⟩
theorem spR_ok {l : Ld} {fr : List Int} (hok : okL l = true) (b : Int) : ∀ (xs : List Int) {Q : Int → Int → Prop} {a : Sp}, SpOk l fr Q a → b ∈ a.od → (∀ d ∈ a.od, ga a.out d ≤ ga a.out b) → (∀ x ∈ xs, x ∈ near l b) →
    SpOk l fr (fun d y => Q d y ∨ (d = b ∧ y ∈ xs)) (spR l b a xs) ∧ (spR l b a xs).od = a.od ∧ (∀ d ∈ a.od, ga (spR l b a xs).out d = ga a.out d)
  | [], Q, a, h, hb, hbd, hx => by
    refine ⟨⟨h.len, h.cel, h.nd, h.dn, h.up, h.hi, h.fo, fun d hd y hy hq => ?_, h.on, h.mn, h.so⟩, rfl, fun d _ => rfl⟩
    exact h.rx d hd y hy (hq.resolve_right (fun e => by simp at e))
  | x :: xs, Q, a, h, hb, hbd, hx => by
    obtain ⟨h1, h2, h3⟩ := spS_ok hok h b x hb hbd (hx x (by simp))
    obtain ⟨g1, g2, g3⟩ := spR_ok hok b xs h1 (by rw [h2]; exact hb) (fun d hd => by rw [h2] at hd; rw [h3 d hd, h3 b hb]; exact hbd d hd) (fun y hy => hx y (by simp [hy]))
    refine ⟨⟨g1.len, g1.cel, g1.nd, g1.dn, g1.up, g1.hi, g1.fo, fun d hd y hy hq => ?_, g1.on, g1.mn, g1.so⟩, by rw [← h2]; exact g2, fun d hd => ?_⟩
    · refine g1.rx d hd y hy ?_
      rcases hq with hq | ⟨e, hq⟩
      · exact .inl (.inl hq)
      · rcases List.mem_cons.1 hq with hq | hq
        · exact .inl (.inr ⟨e, hq⟩)
        · exact .inr ⟨e, hq⟩
    · show ga (spR l b (spS l b a x) xs).out d = _
      rw [g3 d (by rw [h2]; exact hd), h3 d hd]
/-- the best open cell -/
theorem spB_ok {l : Ld} {fr : List Int} {Q : Int → Int → Prop} {a : Sp} (h : SpOk l fr Q a) (hne : a.op ≠ []) : spB l a ∈ a.op ∧ ∀ o ∈ a.op, ga a.out (spB l a) ≤ ga a.out o := by
  unfold spB
  have hop : ∀ o ∈ a.op, 0 ≤ o ∧ o ≤ (l.hs.length : Int) - 1 := fun o ho => h.cel o (List.mem_append.2 (.inl ho))
  rcases bsK_ok a.out a.op l.hs.length with ⟨h1, h2⟩ | ⟨b, h1, h2, h3, h4⟩
  · exfalso
    obtain ⟨o, ho⟩ := List.exists_mem_of_ne_nil _ hne
    have := hop o ho
    refine h2 o.toNat (by omega) ?_
    rw [show ((o.toNat : Nat) : Int) = o by omega]; exact ho
  · rw [h1]
    refine ⟨h3, fun o ho => ?_⟩
    have := hop o ho
    have h5 := h4 o.toNat (by omega) (by rw [show ((o.toNat : Nat) : Int) = o by omega]; exact ho)
    simpa [ga] using h5
theorem spT_ok {l : Ld} {fr : List Int} {a : Sp} (h : SpOk l fr (fun _ _ => True) a) (b : Int) (hb : b ∈ a.op) (hmin : ∀ o ∈ a.op, ga a.out b ≤ ga a.out o) :
    SpOk l fr (fun d _ => d ≠ b) (spT a b) ∧ b ∈ (spT a b).od ∧ ∀ d ∈ (spT a b).od, ga (spT a b).out d ≤ ga (spT a b).out b := by
  have hp : (a.op.erase b ++ (a.od ++ [b])).Perm (a.op ++ a.od) := by
    have h1 : a.op.Perm (b :: a.op.erase b) := List.perm_cons_erase hb
    have h2 : (a.op ++ a.od).Perm ((b :: a.op.erase b) ++ a.od) := h1.append_right _
    have h3 : (a.op.erase b ++ (a.od ++ [b])).Perm (b :: (a.op.erase b ++ a.od)) := by
      rw [← List.append_assoc]; exact List.perm_append_singleton ..
    exact h3.trans h2.symm
  have hmem : ∀ x, x ∈ a.op.erase b ++ (a.od ++ [b]) ↔ x ∈ a.op ++ a.od := fun x => hp.mem_iff
  have hsub : ∀ o ∈ a.op.erase b, o ∈ a.op := fun o ho => List.mem_of_mem_erase ho
  have hod : ∀ d ∈ a.od ++ [b], ga a.out d ≤ ga a.out b := fun d hd => by
    rcases List.mem_append.1 hd with hd | hd
    · exact h.dn d hd b hb
    · rw [List.mem_singleton.1 hd]; exact Int.le_refl _
  refine ⟨⟨h.len, fun x hx => h.cel x ((hmem x).1 hx), hp.nodup_iff.2 h.nd, ?_, fun x hx => h.up x ((hmem x).1 hx), fun x hx => h.hi x ((hmem x).1 hx), fun o ho => ⟨(hmem o).2 (h.fo o ho).1, (h.fo o ho).2⟩, ?_, ?_, fun T h1 h2 x hx => h.mn T h1 h2 x ((hmem x).1 hx), ?_⟩, List.mem_append.2 (.inr (by simp)), hod⟩
  · intro d hd o ho
    have h1 := hod d hd
    have h2 := hmin o (hsub o ho)
    show ga a.out d ≤ ga a.out o
    omega
  · intro d hd y hy hq
    have hd2 : d ∈ a.od := by
      rcases List.mem_append.1 (show d ∈ a.od ++ [b] from hd) with hd | hd
      · exact hd
      · exact absurd (List.mem_singleton.1 hd) hq
    have := h.rx d hd2 y hy trivial
    exact ⟨(hmem y).2 this.1, this.2⟩
  · intro x hx
    rcases h.on x ((hmem x).1 hx) with h1 | ⟨c, hc, h1, h2⟩
    · exact .inl h1
    · exact .inr ⟨c, List.mem_append.2 (.inl hc), h1, h2⟩
  · intro i hi
    have hi : i + 1 < a.od.length + 1 := by simpa [spT] using hi
    show ga a.out (gi (a.od ++ [b]) i) ≤ ga a.out (gi (a.od ++ [b]) (i + 1))
    rw [gi_append_left _ _ _ (by omega)]
    by_cases e : i + 1 < a.od.length
    · rw [gi_append_left _ _ _ e]; exact h.so i e
    · rw [gi_append_right _ _ _ (by omega), show i + 1 - a.od.length = 0 by omega]
      exact h.dn _ (gi_mem _ _ (by omega)) b hb
theorem spN_ok {l : Ld} {fr : List Int} {a : Sp} (hok : okL l = true) (h : SpOk l fr (fun _ _ => True) a) (hne : a.op ≠ []) : SpOk l fr (fun _ _ => True) (spN l a) ∧ (spN l a).od = a.od ++ [spB l a] := by
  obtain ⟨h1, h2⟩ := spB_ok h hne
  obtain ⟨g1, g2, g3⟩ := spT_ok h _ h1 h2
  obtain ⟨k1, k2, k3⟩ := spR_ok hok (spB l a) (near l (spB l a)) g1 g2 g3 (fun x hx => hx)
  unfold spN
  refine ⟨⟨k1.len, k1.cel, k1.nd, k1.dn, k1.up, k1.hi, k1.fo, fun d hd y hy _ => k1.rx d hd y hy ?_, k1.on, k1.mn, k1.so⟩, k2⟩
  by_cases e : d = spB l a
  · exact .inr ⟨e, e ▸ hy⟩
  · exact .inl e
theorem spI_ok {l : Ld} (hok : okL l = true) (fr : List Int) (hfr : ∀ o ∈ fr, inC l o) : SpOk l fr (fun _ _ => True) (spI l fr) ∧ (spI l fr).od = [] := by
  have key : ∀ k, k ≤ fr.length → (spI l (fr.take k)).out.length = l.hs.length ∧ (spI l (fr.take k)).od = [] ∧ (spI l (fr.take k)).op.Nodup ∧ (∀ x, x ∈ (spI l (fr.take k)).op ↔ x ∈ fr.take k) ∧ ∀ x ∈ (spI l (fr.take k)).op, ga (spI l (fr.take k)).out x = ga l.hs x := by
    intro k
    induction k with
    | zero => intro _; simp [spI]
    | succ k ih =>
      intro hk
      obtain ⟨h1, h2, h3, h4, h5⟩ := ih (by omega)
      have hc : inC l (gi fr k) := hfr _ (gi_mem _ _ (by omega))
      have hcb : 0 ≤ gi fr k ∧ gi fr k ≤ (l.hs.length : Int) - 1 := hc
      rw [spI_succ l fr k (by omega), take_succ_gi fr k (by omega)]
      generalize spI l (fr.take k) = a at *
      generalize gi fr k = c at *
      unfold spP
      refine ⟨by simp [h1], rfl, ?_, fun x => ?_, fun x hx => ?_⟩
      · show (if c ∈ a.op then a.op else a.op ++ [c]).Nodup
        split
        · exact h3
        · exact nodup_snoc h3 (by assumption)
      · show x ∈ (if c ∈ a.op then a.op else a.op ++ [c]) ↔ _
        rw [List.mem_append, List.mem_singleton, ← h4 x]
        split
        · rename_i e
          constructor
          · exact .inl
          · rintro (h | rfl)
            · exact h
            · exact e
        · rw [List.mem_append, List.mem_singleton]
      · show ga (a.out.set c.toNat (ga l.hs c)) x = ga l.hs x
        by_cases e : x = c
        · subst e; exact ga_set_same (by omega)
        · have hx2 : x ∈ a.op := by
            have hx : x ∈ (if c ∈ a.op then a.op else a.op ++ [c]) := hx
            split at hx
            · exact hx
            · rw [List.mem_append, List.mem_singleton] at hx
              exact hx.resolve_right e
          have hxc : inC l x := hfr x (List.mem_of_mem_take ((h4 x).1 hx2))
          have hxb : 0 ≤ x ∧ x ≤ (l.hs.length : Int) - 1 := hxc
          rw [ga_set_ne hcb.1 hxb.1 e]; exact h5 x hx2
  obtain ⟨h1, h2, h3, h4, h5⟩ := key fr.length (Nat.le_refl _)
  rw [List.take_length] at h1 h2 h3 h4 h5
  have hm : ∀ x, x ∈ (spI l fr).op ++ (spI l fr).od ↔ x ∈ fr := fun x => by rw [h2, List.append_nil]; exact h4 x
  have hv : ∀ x ∈ fr, ga (spI l fr).out x = ga l.hs x := fun x hx => h5 x ((h4 x).2 hx)
  refine ⟨⟨h1, fun x hx => hfr x ((hm x).1 hx), by rw [h2, List.append_nil]; exact h3, by rw [h2]; simp, fun x hx => by rw [hv x ((hm x).1 hx)]; exact Int.le_refl _, fun x hx => ?_, fun o ho => ⟨(hm o).2 ho, by rw [hv o ho]; exact Int.le_refl _⟩, by rw [h2]; simp, fun x hx => .inl ((hm x).1 hx), fun T g1 g2 x hx => ?_, fun i hi => by rw [h2] at hi; simp at hi⟩, h2⟩
  · have hx := (hm x).1 hx
    have hxb : 0 ≤ x ∧ x ≤ (l.hs.length : Int) - 1 := hfr x hx
    rw [hv x hx]; exact (okL_h hok x.toNat (by omega)).2
  · have hx := (hm x).1 hx
    rw [hv x hx]; exact g1 x hx
theorem spK_ok {l : Ld} (hok : okL l = true) (fr : List Int) (hfr : ∀ o ∈ fr, inC l o) : ∀ k, SpOk l fr (fun _ _ => True) (spK l fr k) ∧ ((spK l fr k).op ≠ [] → (spK l fr k).od.length = k) ∧ (spK l fr k).od.length ≤ k
  | 0 => by
    obtain ⟨h1, h2⟩ := spI_ok hok fr hfr
    exact ⟨h1, fun _ => by show (spI l fr).od.length = 0; rw [h2]; rfl, by show (spI l fr).od.length ≤ 0; rw [h2]; exact Nat.le_refl _⟩
  | k + 1 => by
    obtain ⟨h1, h2, h3⟩ := spK_ok hok fr hfr k
    simp only [spK]
    split
    · rename_i e
      exact ⟨h1, fun h => absurd e h, by omega⟩
    · rename_i e
      obtain ⟨g1, g2⟩ := spN_ok hok h1 e
      refine ⟨g1, fun _ => ?_, ?_⟩
      · rw [g2, List.length_append, h2 e]; rfl
      · rw [g2, List.length_append, h2 e]; simp
theorem spK_len {l : Ld} {fr : List Int} {Q : Int → Int → Prop} {a : Sp} (h : SpOk l fr Q a) : a.op.length + a.od.length ≤ l.hs.length := by
  have := cF_usd l.hs.length (a.op ++ a.od) (fun x hx => by have : 0 ≤ x ∧ x ≤ (l.hs.length : Int) - 1 := h.cel x hx; omega) h.nd
  rw [List.length_append] at this
  omega
theorem spK_end {l : Ld} {fr : List Int} {i : Nat} (h : (spK l fr i).op = []) : ∀ j, i ≤ j → spK l fr j = spK l fr i
  | 0, hj => by obtain rfl : i = 0 := by omega
                rfl
  | j + 1, hj => by
    by_cases e : i = j + 1
    · subst e; rfl
    · have ih := spK_end h j (by omega)
      show (if (spK l fr j).op = [] then _ else _) = _
      rw [ih, if_pos h]
theorem spE_nil {l : Ld} (hok : okL l = true) (fr : List Int) (hfr : ∀ o ∈ fr, inC l o) : (spE l fr).op = [] := by
  obtain ⟨h1, h2, h3⟩ := spK_ok hok fr hfr l.hs.length
  by_cases e : (spK l fr l.hs.length).op = []
  · exact e
  · exfalso
    have h4 := h2 e
    have h5 := spK_len h1
    have h6 := List.length_pos_iff.2 e
    omega
theorem spE_eq {l : Ld} {fr : List Int} {k : Nat} (hk : k ≤ l.hs.length) (h : (spK l fr k).op = []) : spE l fr = spK l fr k := spK_end h _ hk
end Go.Proofs.YtpjjjonplikilaaGreat
namespace Go.Proofs.YtpjjjonplikilaaGreat
open Go.AG

theorem mem_ifl {p : Prop} [Decidable p] {x y : Int} : x ∈ (if p then [y] else []) ↔ p ∧ x = y := by
  split <;> simp_all
theorem near_mem (l : Ld) (c x : Int) : x ∈ near l c ↔ (0 < c / l.cols ∧ x = c - l.cols) ∨ (0 < c % l.cols ∧ x = c - 1) ∨ (c % l.cols < l.cols - 1 ∧ x = c + 1) ∨ (c / l.cols < l.rows - 1 ∧ x = c + l.cols) := by
  simp only [near, nearK, List.nil_append, List.mem_append, ngh, mem_ifl]
  constructor
  · rintro (((h | h) | h) | h)
    · exact .inl h
    · exact .inr (.inl h)
    · exact .inr (.inr (.inl h))
    · exact .inr (.inr (.inr h))
  · rintro (h | h | h | h)
    · exact .inl (.inl (.inl h))
    · exact .inl (.inl (.inr h))
    · exact .inl (.inr h)
    · exact .inr h
theorem dm_of {c q r k : Int} (hk : 0 < k) (hr : 0 ≤ r ∧ r < k) (h : c = q * k + r) : c / k = q ∧ c % k = r := by
  refine (Int.ediv_emod_unique hk).2 ⟨?_, hr.1, hr.2⟩
  rw [h, Int.mul_comm]; omega
theorem near_sym {l : Ld} (hok : okL l = true) {b x : Int} (hb : inC l b) (h : x ∈ near l b) : b ∈ near l x := by
  have g := Cl.of2 hok hb
  have hk : 0 < l.cols := by have := g.fk; omega
  have h1 := g.frm
  have h2 := g.fcm
  have h3 := g.feq
  rw [near_mem] at h ⊢
  rcases h with ⟨h, e⟩ | ⟨h, e⟩ | ⟨h, e⟩ | ⟨h, e⟩
  · obtain ⟨e1, e2⟩ := dm_of (c := x) (q := b / l.cols - 1) (r := b % l.cols) hk h2 (by rw [Int.sub_mul, Int.one_mul]; omega)
    exact .inr (.inr (.inr ⟨by omega, by omega⟩))
  · obtain ⟨e1, e2⟩ := dm_of (c := x) (q := b / l.cols) (r := b % l.cols - 1) hk (by omega) (by omega)
    exact .inr (.inr (.inl ⟨by omega, by omega⟩))
  · obtain ⟨e1, e2⟩ := dm_of (c := x) (q := b / l.cols) (r := b % l.cols + 1) hk (by omega) (by omega)
    exact .inr (.inl ⟨by omega, by omega⟩)
  · obtain ⟨e1, e2⟩ := dm_of (c := x) (q := b / l.cols + 1) (r := b % l.cols) hk h2 (by rw [Int.add_mul, Int.one_mul]; omega)
    exact .inl ⟨by omega, by omega⟩
/-- a set of cells that holds the neighbours of its cells holds all -/
theorem all_cells {l : Ld} (hok : okL l = true) (S : Int → Prop) (hS : ∀ x, inC l x → S x → ∀ y ∈ near l x, S y) (c : Int) (hc : inC l c) (hSc : S c) : ∀ x, inC l x → S x := by
  have gc := Cl.of2 hok hc
  have hk := gc.fk
  have hr := gc.fr
  have hn := gc.fn
  have ce : ∀ q r : Nat, (q : Int) < l.rows → (r : Int) < l.cols → inC l ((q : Int) * l.cols + r) ∧ ((q : Int) * l.cols + r) / l.cols = q ∧ ((q : Int) * l.cols + r) % l.cols = r := by
    intro q r h1 h2
    obtain ⟨e1, e2⟩ := dm_of (c := (q : Int) * l.cols + r) (q := q) (r := r) (k := l.cols) (by omega) (by omega) rfl
    refine ⟨?_, e1, e2⟩
    have h3 : 0 ≤ (q : Int) * l.cols := Int.mul_nonneg (by omega) (by omega)
    have h4 : ((q : Int) + 1) * l.cols ≤ l.rows * l.cols := Int.mul_le_mul_of_nonneg_right (by omega) (by omega)
    rw [Int.add_mul, Int.one_mul] at h4
    unfold inC
    omega
  have left : ∀ (q r : Nat), (q : Int) < l.rows → (r : Int) < l.cols → S ((q : Int) * l.cols + r) → S ((q : Int) * l.cols + (0 : Nat)) := by
    intro q r
    induction r with
    | zero => intro _ _ h; exact h
    | succ r ih =>
      intro h1 h2 h
      obtain ⟨g1, g2, g3⟩ := ce q (r + 1) h1 h2
      refine ih h1 (by omega) (hS _ g1 h _ ((near_mem _ _ _).2 (.inr (.inl ⟨by omega, by push_cast; omega⟩))))
  have right : ∀ (q r : Nat), (q : Int) < l.rows → (r : Int) < l.cols → S ((q : Int) * l.cols + (0 : Nat)) → S ((q : Int) * l.cols + r) := by
    intro q r
    induction r with
    | zero => intro _ _ h; exact h
    | succ r ih =>
      intro h1 h2 h
      have h3 := ih h1 (by omega) h
      obtain ⟨g1, g2, g3⟩ := ce q r h1 (by omega)
      exact hS _ g1 h3 _ ((near_mem _ _ _).2 (.inr (.inr (.inl ⟨by omega, by push_cast; omega⟩))))
  have up : ∀ (q : Nat), (q : Int) < l.rows → S ((q : Int) * l.cols + (0 : Nat)) → S (((0 : Nat) : Int) * l.cols + (0 : Nat)) := by
    intro q
    induction q with
    | zero => intro _ h; exact h
    | succ q ih =>
      intro h1 h
      obtain ⟨g1, g2, g3⟩ := ce (q + 1) 0 h1 (by omega)
      refine ih (by omega) (hS _ g1 h _ ((near_mem _ _ _).2 (.inl ⟨by omega, ?_⟩)))
      push_cast
      rw [Int.add_mul]; omega
  have down : ∀ (q : Nat), (q : Int) < l.rows → S (((0 : Nat) : Int) * l.cols + (0 : Nat)) → S ((q : Int) * l.cols + (0 : Nat)) := by
    intro q
    induction q with
    | zero => intro _ h; exact h
    | succ q ih =>
      intro h1 h
      have h3 := ih (by omega) h
      obtain ⟨g1, g2, g3⟩ := ce q 0 (by omega) (by omega)
      refine hS _ g1 h3 _ ((near_mem _ _ _).2 (.inr (.inr (.inr ⟨by omega, ?_⟩))))
      push_cast
      rw [Int.add_mul]; omega
  have pos : ∀ x, inC l x → ∃ q r : Nat, (q : Int) < l.rows ∧ (r : Int) < l.cols ∧ x = (q : Int) * l.cols + r := by
    intro x hx
    have g := Cl.of2 hok hx
    have h1 := g.frm
    have h2 := g.fcm
    have h3 := g.feq
    refine ⟨(x / l.cols).toNat, (x % l.cols).toNat, by omega, by omega, ?_⟩
    rw [Int.toNat_of_nonneg h1.1, Int.toNat_of_nonneg h2.1]
    omega
  obtain ⟨q0, r0, a1, a2, a3⟩ := pos c hc
  rw [a3] at hSc
  have h00 := up q0 a1 (left q0 r0 a1 a2 hSc)
  intro x hx
  obtain ⟨q, r, b1, b2, b3⟩ := pos x hx
  rw [b3]
  exact right q r b1 b2 (down q b1 h00)
structure SpF (l : Ld) (fr out od : List Int) : Prop where
  len : out.length = l.hs.length
  odl : od.length = l.hs.length
  cel : ∀ x ∈ od, inC l x
  up : ∀ x, inC l x → ga l.hs x ≤ ga out x
  hi : ∀ x, inC l x → ga out x ≤ 2000
  fo : ∀ o ∈ fr, ga out o = ga l.hs o
  rx : ∀ x, inC l x → ∀ y ∈ near l x, ga out y ≤ mxI (ga out x) (ga l.hs y)
  on : ∀ x, inC l x → x ∈ fr ∨ ∃ b ∈ near l x, ga out b ≤ ga out x
  mn : ∀ T : Int → Int, (∀ o ∈ fr, T o ≤ ga l.hs o) → (∀ x y, inC l x → y ∈ near l x → T y ≤ mxI (T x) (ga l.hs y)) → ∀ x, inC l x → T x ≤ ga out x
  so : ∀ i, i + 1 < od.length → ga out (gi od i) ≤ ga out (gi od (i + 1))
theorem spE_F {l : Ld} (hok : okL l = true) {fr : List Int} (hfr : ∀ o ∈ fr, inC l o) (hne : fr ≠ []) : SpF l fr (spE l fr).out (spE l fr).od := by
  obtain ⟨h, _, _⟩ := spK_ok hok fr hfr l.hs.length
  have hop := spE_nil hok fr hfr
  change SpOk l fr (fun _ _ => True) (spE l fr) at h
  generalize spE l fr = a at *
  have hm : ∀ x, x ∈ a.op ++ a.od ↔ x ∈ a.od := fun x => by rw [hop, List.nil_append]
  obtain ⟨c, hc⟩ := List.exists_mem_of_ne_nil _ hne
  have hcl : ∀ x, inC l x → x ∈ a.od → ∀ y ∈ near l x, y ∈ a.od := fun x _ hx y hy => (hm y).1 (h.rx x hx y hy trivial).1
  have hall : ∀ x, inC l x → x ∈ a.od := all_cells hok _ hcl c (hfr c hc) ((hm c).1 (h.fo c hc).1)
  have hall' : ∀ x, inC l x → x ∈ a.op ++ a.od := fun x hx => (hm x).2 (hall x hx)
  have hodc : ∀ x ∈ a.od, inC l x := fun x hx => h.cel x ((hm x).2 hx)
  refine ⟨h.len, ?_, hodc, fun x hx => h.up x (hall' x hx), fun x hx => h.hi x (hall' x hx), fun o ho => ?_, fun x hx y hy => (h.rx x (hall x hx) y hy trivial).2, fun x hx => ?_, fun T h1 h2 x hx => h.mn T h1 h2 x (hall' x hx), h.so⟩
  · have hnd := h.nd
    rw [hop, List.nil_append] at hnd
    have e := usd_same l.hs.length a.od ((List.range l.hs.length).map fun (i : Nat) => (i : Int)) (fun x hx => by have : 0 ≤ x ∧ x ≤ (l.hs.length : Int) - 1 := hodc x hx; omega) (fun x hx => by
      simp only [List.mem_map, List.mem_range] at hx
      obtain ⟨i, hi, rfl⟩ := hx; omega) hnd (by
      have : (ixs l.hs.length fun _ => true) = (List.range l.hs.length).map fun (i : Nat) => (i : Int) := by
        unfold ixs
        congr 1
        exact List.filter_eq_self.2 fun _ _ => rfl
      rw [← this]
      exact ixs_nodup _ _) (fun x => by
      simp only [List.mem_map, List.mem_range]
      constructor
      · intro hx
        have : 0 ≤ x ∧ x ≤ (l.hs.length : Int) - 1 := hodc x hx
        exact ⟨x.toNat, by omega, by omega⟩
      · rintro ⟨i, hi, rfl⟩
        exact hall _ ⟨by omega, by omega⟩)
    simpa using e
  · have h1 := (h.fo o ho).2
    have h2 := h.up o (hall' o (hfr o ho))
    omega
  · rcases h.on x (hall' x hx) with h1 | ⟨b, hb, h1, h2⟩
    · exact .inl h1
    · exact .inr ⟨b, near_sym hok (hodc b hb) h1, h2⟩
/-- more outlets, no higher surfaces -/
theorem SpF.mono {l : Ld} {fr fr' out out' od od' : List Int} (h : SpF l fr out od) (h' : SpF l fr' out' od') (hs : ∀ o ∈ fr, o ∈ fr') (x : Int) (hx : inC l x) : ga out' x ≤ ga out x :=
  h.mn (ga out') (fun o ho => by rw [h'.fo o (hs o ho)]; exact Int.le_refl _) (fun x y hx hy => h'.rx x hx y hy) x hx
theorem SpF.sums {l : Ld} {fr fr' out out' od od' : List Int} (h : SpF l fr out od) (h' : SpF l fr' out' od') (hs : ∀ o ∈ fr, o ∈ fr') : sumI out' ≤ sumI out := by
  have key : ∀ k, k ≤ l.hs.length → sumI (out'.take k) ≤ sumI (out.take k) := by
    intro k
    induction k with
    | zero => intro _; simp [sumI_nil]
    | succ k ih =>
      intro hk
      rw [take_succ_gi out' k (by rw [h'.len]; omega), take_succ_gi out k (by rw [h.len]; omega), sumI_append, sumI_append, sumI_cons, sumI_nil, sumI_cons, sumI_nil]
      have h1 := ih (by omega)
      have h2 := h.mono h' hs (k : Int) ⟨by omega, by omega⟩
      simp only [ga, Int.toNat_natCast] at h2
      omega
  have := key l.hs.length (Nat.le_refl _)
  rwa [List.take_of_length_le (by rw [h'.len]; omega), List.take_of_length_le (by rw [h.len]; omega)] at this
theorem SpF.wsum {l : Ld} {fr out od : List Int} (hok : okL l = true) (hl : l.hs.length ≤ 144) (h : SpF l fr out od) : wsum out = sumI out ∧ wsum l.hs = sumI l.hs ∧ sumI l.hs ≤ sumI out ∧ (-288000 ≤ sumI out ∧ sumI out ≤ 288000) ∧ (-288000 ≤ sumI l.hs ∧ sumI l.hs ≤ 288000) := by
  have hb : ∀ x ∈ out, -2000 ≤ x ∧ x ≤ 2000 := fun x hx => by
    obtain ⟨i, hi, e⟩ := List.mem_iff_getElem.1 hx
    have h1 := h.up i ⟨by omega, by rw [h.len] at hi; omega⟩
    have h2 := h.hi i ⟨by omega, by rw [h.len] at hi; omega⟩
    have h3 := okL_h hok i (by rw [h.len] at hi; omega)
    simp only [ga, Int.toNat_natCast] at h1 h2
    rw [← e, ← gi_lt _ _ hi]
    omega
  have hh : ∀ x ∈ l.hs, -2000 ≤ x ∧ x ≤ 2000 := fun x hx => by
    obtain ⟨i, hi, e⟩ := List.mem_iff_getElem.1 hx
    have h3 := okL_h hok i hi
    rw [← e, ← gi_lt _ _ hi]
    omega
  have w1 := wsum_eq out 2000 (by omega) hb (by rw [h.len]; omega)
  have w2 := wsum_eq l.hs 2000 (by omega) hh (by omega)
  have hlen := h.len
  refine ⟨w1.1, w2.1, ?_, by omega, by omega⟩
  have key : ∀ k, k ≤ l.hs.length → sumI (l.hs.take k) ≤ sumI (out.take k) := by
    intro k
    induction k with
    | zero => intro _; simp [sumI_nil]
    | succ k ih =>
      intro hk
      rw [take_succ_gi l.hs k (by omega), take_succ_gi out k (by omega), sumI_append, sumI_append, sumI_cons, sumI_nil, sumI_cons, sumI_nil]
      have h1 := ih (by omega)
      have h2 := h.up (k : Int) ⟨by omega, by omega⟩
      simp only [ga, Int.toNat_natCast] at h2
      omega
  have := key l.hs.length (Nat.le_refl _)
  rwa [List.take_of_length_le (by omega), List.take_of_length_le (by omega)] at this
end Go.Proofs.YtpjjjonplikilaaGreat
namespace Go.Proofs.YtpjjjonplikilaaGreat
open Go.AG

attribute [local go_sem] beq_self_eq_true bne_self_eq_false Bool.not_true Bool.not_false
theorem spS_1 {l : Ld} {b x : Int} {a : Sp} (h : x ∈ a.od) : spS l b a x = a := if_neg fun g => g.1 h
theorem spS_2 {l : Ld} {b x : Int} {a : Sp} (h : x ∈ a.op) (hm : ¬ mxI (ga a.out b) (ga l.hs x) < ga a.out x) : spS l b a x = a := if_neg fun g => g.2.elim (fun e => e h) hm
theorem spS_3 {l : Ld} {b x : Int} {a : Sp} (h1 : ¬ x ∈ a.od) (h : x ∈ a.op) (hm : mxI (ga a.out b) (ga l.hs x) < ga a.out x) : spS l b a x = ⟨a.out.set x.toNat (mxI (ga a.out b) (ga l.hs x)), a.op, a.od⟩ := by
  unfold spS
  rw [if_pos ⟨h1, .inr hm⟩, if_pos h]
theorem spS_4 {l : Ld} {b x : Int} {a : Sp} (h1 : ¬ x ∈ a.od) (h : ¬ x ∈ a.op) : spS l b a x = ⟨a.out.set x.toNat (mxI (ga a.out b) (ga l.hs x)), a.op ++ [x], a.od⟩ := by
  unfold spS
  rw [if_pos ⟨h1, .inl h⟩, if_neg h]
theorem spE_len {l : Ld} (hok : okL l = true) {fr : List Int} (hfr : ∀ o ∈ fr, inC l o) : (spE l fr).out.length = l.hs.length ∧ (spE l fr).od.length ≤ l.hs.length :=
  ⟨(spK_ok hok fr hfr _).1.len, by have := spK_len (spK_ok hok fr hfr l.hs.length).1; unfold spE; omega⟩
set_option maxRecDepth 100000 in
set_option maxHeartbeats 16000000 in
theorem spread_ok (l : Ld) (fr : List Int) (hok : okL l = true) (hfr : ∀ o ∈ fr, inC l o) (hfl : fr.length ≤ 1000) : ACalls Tryz.prog 45 [.agg (lC l), .sl fr.length (ints fr)] [] (fun r o => r = .tup [.ref 0 0 l.hs.length, .ref 1 0 (spE l fr).od.length] ∧ o = [oI (spE l fr).out, oI (spE l fr).od]) := by
  refine ACalls.of_vc Tryz.func45 rfl (by decide) 124 rfl [.tmp 4, .tmp 5] rfl (by simp) ?_
  have hn : l.hs.length ≤ 144 := by
    simp only [okL, Bool.and_eq_true, decide_eq_true_eq] at hok
    obtain ⟨⟨⟨q1, q2⟩, q3⟩, q4⟩ := hok
    have := mul12 q1 q2
    omega
  unfold lC
  (repeat (first | simp (maxSteps := 2000000) (disch := omega) only [go_sem, ↓reduceIte] | with_reducible refine vIf_t ?_ | with_reducible refine vIf_f ?_))
  refine vcLoop_invF (fun k : Nat => k ≤ fr.length) (fun k => ⟨124, 0, [(26, I k), (2, .ptr 0 0), (6, .ref 1 0 l.hs.length), (7, .mp 2), (8, .mp 3), (24, .sl fr.length (ints fr)), (25, I fr.length)], [some ⟨3, lC l⟩, oI (spI l (fr.take k)).out, some ⟨4294967291, mpI (mpB [])⟩, some ⟨4294967291, mpI (mpB (spI l (fr.take k)).op)⟩]⟩) (fun k => fr.length - k) 0 (by omega) (by rw [show spI l (fr.take 0) = ⟨List.replicate l.hs.length 0, [], []⟩ from rfl]; unfold lC; (first | (refine leF_s ?_; ((repeat (first | simp (maxSteps := 2000000) (disch := omega) only [go_sem, ↓reduceIte] | with_reducible refine vIf_t ?_ | with_reducible refine vIf_f ?_)); all_goals (try simp); all_goals (try omega)); done) | (refine leF_p ?_; ((repeat (first | simp (maxSteps := 2000000) (disch := omega) only [go_sem, ↓reduceIte] | with_reducible refine vIf_t ?_ | with_reducible refine vIf_f ?_)); all_goals (try simp); all_goals (try omega)); done))) ?_
  intro k hk
  have hI := (spI_ok hok (fr.take k) (fun o ho => hfr o (List.mem_of_mem_take ho))).1
  have hlen := hI.len
  have hsu := spI_succ l fr k
  generalize hA : spI l (fr.take k) = a at *
  unfold lC oI
  (repeat (first | simp (maxSteps := 2000000) (disch := omega) only [go_sem, ↓reduceIte] | with_reducible refine vIf_t ?_ | with_reducible refine vIf_f ?_))
  refine vIf_dec (fun h => ?_) (fun h => ?_)
  · have hkl : k < fr.length := by omega
    have hsu := hsu hkl
    have hc : inC l (gi fr k) := hfr _ (gi_mem _ _ hkl)
    have hcb : 0 ≤ gi fr k ∧ gi fr k ≤ (l.hs.length : Int) - 1 := hc
    generalize hce : gi fr k = c at *
    (repeat (first | simp (maxSteps := 2000000) (disch := omega) only [go_sem, ↓reduceIte, hce, hlen] | with_reducible refine vIf_t ?_ | with_reducible refine vIf_f ?_))
    refine againF (k + 1) (by omega) (by omega) ?_
    rw [hsu]
    unfold spP
    dsimp only
    try unfold lC
    (first | (refine leF_s ?_; ((repeat (first | simp (maxSteps := 2000000) (disch := omega) only [go_sem, ↓reduceIte] | with_reducible refine vIf_t ?_ | with_reducible refine vIf_f ?_)); all_goals (try simp); all_goals (try omega)); done) | (refine leF_p ?_; ((repeat (first | simp (maxSteps := 2000000) (disch := omega) only [go_sem, ↓reduceIte] | with_reducible refine vIf_t ?_ | with_reducible refine vIf_f ?_)); all_goals (try simp); all_goals (try omega)); done))
  have ek : k = fr.length := by omega
  subst ek
  rw [List.take_length] at hA
  subst hA
  clear hsu hI hk
  have hod0 := (spI_ok hok fr hfr).2
  (repeat (first | simp (maxSteps := 2000000) (disch := omega) only [go_sem, ↓reduceIte] | with_reducible refine vIf_t ?_ | with_reducible refine vIf_f ?_))
  refine vcLoop_invF (fun k : Nat => k ≤ l.hs.length) (fun k => ⟨124, 0, [(2, .ptr 0 0), (6, .ref 1 0 l.hs.length), (7, .mp 2), (8, .mp 3), (11, .ref 4 0 (spK l fr k).od.length)], [some ⟨3, lC l⟩, oI (spK l fr k).out, some ⟨4294967291, mpI (mpB (spK l fr k).od)⟩, some ⟨4294967291, mpI (mpB (spK l fr k).op)⟩, oI (spK l fr k).od]⟩) (fun k => l.hs.length - k) 0 (by omega) (by rw [show spK l fr 0 = spI l fr from rfl, hod0]; unfold lC; (first | (refine leF_s ?_; ((repeat (first | simp (maxSteps := 2000000) (disch := omega) only [go_sem, ↓reduceIte] | with_reducible refine vIf_t ?_ | with_reducible refine vIf_f ?_)); all_goals (try simp); all_goals (try omega)); done) | (refine leF_p ?_; ((repeat (first | simp (maxSteps := 2000000) (disch := omega) only [go_sem, ↓reduceIte] | with_reducible refine vIf_t ?_ | with_reducible refine vIf_f ?_)); all_goals (try simp); all_goals (try omega)); done))) ?_
  intro k hk
  obtain ⟨hK1, hK2, hK3⟩ := spK_ok hok fr hfr k
  have hlen := hK1.len
  have hle := spK_len hK1
  have hKs : spK l fr (k + 1) = if (spK l fr k).op = [] then spK l fr k else spN l (spK l fr k) := rfl
  have hEe := spE_eq (l := l) (fr := fr) hk
  generalize hA : spK l fr k = a at *
  unfold lC oI
  (repeat (first | simp (maxSteps := 2000000) (disch := omega) only [go_sem, ↓reduceIte] | with_reducible refine vIf_t ?_ | with_reducible refine vIf_f ?_))
  refine vIf_dec (fun h => ?_) (fun h => ?_)
  · have hne : a.op ≠ [] := by intro e; rw [e] at h; simp at h
    have hpos := List.length_pos_iff.2 hne
    have hk2 := hK2 hne
    obtain ⟨hb1, hb2⟩ := spB_ok hK1 hne
    obtain ⟨hT1, hT2, hT3⟩ := spT_ok hK1 _ hb1 hb2
    have hbc : inC l (spB l a) := hK1.cel _ (List.mem_append.2 (.inl hb1))
    have hbb : 0 ≤ spB l a ∧ spB l a ≤ (l.hs.length : Int) - 1 := hbc
    have hbn : ¬ spB l a ∈ a.od := fun e => by
      have := hK1.nd
      rw [List.nodup_append] at this
      exact this.2.2 _ hb1 _ e rfl
    rw [if_neg hne] at hKs
    have hNd : spN l a = spR l (spB l a) (spT a (spB l a)) (near l (spB l a)) := rfl
    have hBd : spB l a = bsK a.out a.op l.hs.length := rfl
    generalize spB l a = b at *
    (repeat (first | simp (maxSteps := 2000000) (disch := omega) only [go_sem, ↓reduceIte, hlen] | with_reducible refine vIf_t ?_ | with_reducible refine vIf_f ?_))
    refine vcLoop_invF (fun i : Nat => i ≤ l.hs.length) (fun i => ⟨124, 0, [(47, I i), (12, I (bsK a.out a.op i)), (2, .ptr 0 0), (6, .ref 1 0 l.hs.length), (7, .mp 2), (8, .mp 3), (11, .ref 4 0 a.od.length), (46, I l.hs.length)], [some ⟨3, lC l⟩, oI a.out, some ⟨4294967291, mpI (mpB a.od)⟩, some ⟨4294967291, mpI (mpB a.op)⟩, oI a.od]⟩) (fun i => l.hs.length - i) 0 (by omega) (by rw [show bsK a.out a.op 0 = -1 from rfl]; unfold lC; (first | (refine leF_s ?_; ((repeat (first | simp (maxSteps := 2000000) (disch := omega) only [go_sem, ↓reduceIte] | with_reducible refine vIf_t ?_ | with_reducible refine vIf_f ?_)); all_goals (try simp); all_goals (try omega)); done) | (refine leF_p ?_; ((repeat (first | simp (maxSteps := 2000000) (disch := omega) only [go_sem, ↓reduceIte] | with_reducible refine vIf_t ?_ | with_reducible refine vIf_f ?_)); all_goals (try simp); all_goals (try omega)); done))) ?_
    intro i hi
    have hqb := bsK_bd a.out a.op i
    have hqs : bsK a.out a.op (i + 1) = if (i : Int) ∈ a.op ∧ (bsK a.out a.op i < 0 ∨ gi a.out i < ga a.out (bsK a.out a.op i)) then (i : Int) else bsK a.out a.op i := rfl
    generalize hqe : bsK a.out a.op i = q at *
    unfold lC oI
    (repeat (first | simp (maxSteps := 2000000) (disch := omega) only [go_sem, ↓reduceIte] | with_reducible refine vIf_t ?_ | with_reducible refine vIf_f ?_))
    refine vIf_dec (fun h5 => ?_) (fun h5 => ?_)
    · have hil : i < l.hs.length := by omega
      (repeat (first | simp (maxSteps := 2000000) (disch := omega) only [go_sem, ↓reduceIte] | with_reducible refine vIf_t ?_ | with_reducible refine vIf_f ?_))
      (refine vDraw_sch 15 [(0, false), (1, false), (2, false), (3, false), (4, false), (5, false), (6, false), (7, false), (8, false), (9, false), (10, false), (11, false), (12, false), (13, false), (14, false)] mixed (by kernel_rfl) ?_; simp only [List.cons_append, List.nil_append, List.map_cons, List.map_nil, nthO_zero, nthO_succ, List.drop_succ_cons, List.drop_zero, List.drop_nil]; (repeat (first | simp (maxSteps := 2000000) (disch := omega) only [go_sem, ↓reduceIte] | with_reducible refine vIf_t ?_ | with_reducible refine vIf_f ?_)))
      by_cases z1 : (i : Int) ∈ a.op
      · by_cases z2 : q < 0
        · have d2 : decide (q < 0) = true := decide_eq_true z2
          rw [if_pos ⟨z1, .inl z2⟩] at hqs
          (try (repeat (first | simp (maxSteps := 2000000) (disch := omega) only [go_sem, ↓reduceIte, z1, d2, hlen] | with_reducible refine vIf_t ?_ | with_reducible refine vIf_f ?_)))
          refine againF (i + 1) (by omega) (by omega) ?_
          rw [hqs]
          try unfold lC
          (first | (refine leF_s ?_; ((repeat (first | simp (maxSteps := 2000000) (disch := omega) only [go_sem, ↓reduceIte] | with_reducible refine vIf_t ?_ | with_reducible refine vIf_f ?_)); all_goals (try simp); all_goals (try omega)); done) | (refine leF_p ?_; ((repeat (first | simp (maxSteps := 2000000) (disch := omega) only [go_sem, ↓reduceIte] | with_reducible refine vIf_t ?_ | with_reducible refine vIf_f ?_)); all_goals (try simp); all_goals (try omega)); done))
        · have d2 : decide (q < 0) = false := decide_eq_false z2
          have z2b : q.toNat < l.hs.length := by omega
          (try (repeat (first | simp (maxSteps := 2000000) (disch := omega) only [go_sem, ↓reduceIte, z1, d2, hlen] | with_reducible refine vIf_t ?_ | with_reducible refine vIf_f ?_)))
          by_cases z3 : gi a.out i < gi a.out q.toNat
          · have d3 : decide (gi a.out i < gi a.out q.toNat) = true := decide_eq_true z3
            rw [if_pos ⟨z1, .inr z3⟩] at hqs
            (try (repeat (first | simp (maxSteps := 2000000) (disch := omega) only [go_sem, ↓reduceIte, d3, hlen] | with_reducible refine vIf_t ?_ | with_reducible refine vIf_f ?_)))
            refine againF (i + 1) (by omega) (by omega) ?_
            rw [hqs]
            try unfold lC
            (first | (refine leF_s ?_; ((repeat (first | simp (maxSteps := 2000000) (disch := omega) only [go_sem, ↓reduceIte] | with_reducible refine vIf_t ?_ | with_reducible refine vIf_f ?_)); all_goals (try simp); all_goals (try omega)); done) | (refine leF_p ?_; ((repeat (first | simp (maxSteps := 2000000) (disch := omega) only [go_sem, ↓reduceIte] | with_reducible refine vIf_t ?_ | with_reducible refine vIf_f ?_)); all_goals (try simp); all_goals (try omega)); done))
          · have d3 : decide (gi a.out i < gi a.out q.toNat) = false := decide_eq_false z3
            rw [if_neg (fun e => e.2.elim z2 z3)] at hqs
            (try (repeat (first | simp (maxSteps := 2000000) (disch := omega) only [go_sem, ↓reduceIte, d3, hlen] | with_reducible refine vIf_t ?_ | with_reducible refine vIf_f ?_)))
            refine againF (i + 1) (by omega) (by omega) ?_
            rw [hqs]
            try unfold lC
            (first | (refine leF_s ?_; ((repeat (first | simp (maxSteps := 2000000) (disch := omega) only [go_sem, ↓reduceIte] | with_reducible refine vIf_t ?_ | with_reducible refine vIf_f ?_)); all_goals (try simp); all_goals (try omega)); done) | (refine leF_p ?_; ((repeat (first | simp (maxSteps := 2000000) (disch := omega) only [go_sem, ↓reduceIte] | with_reducible refine vIf_t ?_ | with_reducible refine vIf_f ?_)); all_goals (try simp); all_goals (try omega)); done))
      · rw [if_neg (fun e => z1 e.1)] at hqs
        (try (repeat (first | simp (maxSteps := 2000000) (disch := omega) only [go_sem, ↓reduceIte, z1] | with_reducible refine vIf_t ?_ | with_reducible refine vIf_f ?_)))
        refine againF (i + 1) (by omega) (by omega) ?_
        rw [hqs]
        try unfold lC
        (first | (refine leF_s ?_; ((repeat (first | simp (maxSteps := 2000000) (disch := omega) only [go_sem, ↓reduceIte] | with_reducible refine vIf_t ?_ | with_reducible refine vIf_f ?_)); all_goals (try simp); all_goals (try omega)); done) | (refine leF_p ?_; ((repeat (first | simp (maxSteps := 2000000) (disch := omega) only [go_sem, ↓reduceIte] | with_reducible refine vIf_t ?_ | with_reducible refine vIf_f ?_)); all_goals (try simp); all_goals (try omega)); done))
    have ei : i = l.hs.length := by omega
    subst ei
    rw [← hBd] at hqe
    subst hqe
    clear hqs hqb
    have hnx := (next_ok l b (Cl.of2 hok hbc)).fzI
    have hnl := nearK_len l b 4
    have hnin := near_in l hok b hbc
    have hR := fun j => spR_ok hok b ((near l b).take j) hT1 hT2 hT3 (fun x hx => List.mem_of_mem_take hx)
    have hRlen := fun j => spK_len (hR j).1
    have hTod : (spT a b).od = a.od ++ [b] := rfl
    have hTout : (spT a b).out = a.out := rfl
    have hTop : (spT a b).op = a.op.erase b := rfl
    have hRs := fun j => spR_succ l b (spT a b) (near l b) j
    change (near l b).length ≤ 4 at hnl
    unfold lC at hnx
    generalize near l b = xs at *
    generalize hTe : spT a b = t at *
    (repeat (first | simp (maxSteps := 2000000) (disch := omega) only [go_sem, ↓reduceIte, hbn] | with_reducible refine vIf_t ?_ | with_reducible refine vIf_f ?_))
    (refine vCallX_of ?_; (repeat (first | simp (maxSteps := 2000000) (disch := omega) only [go_sem, ↓reduceIte] | with_reducible refine vIf_t ?_ | with_reducible refine vIf_f ?_)); refine vCall_eq (hnx) (by simp (disch := omega) only [go_sem]) rfl (by first | exact Or.inl rfl | exact Or.inr ⟨rfl, rfl⟩ | (apply Or.inr; simp only [go_sem])) ?_; (repeat (first | simp (maxSteps := 2000000) (disch := omega) only [go_sem, ↓reduceIte] | with_reducible refine vIf_t ?_ | with_reducible refine vIf_f ?_)))
    refine vcLoop_invF (fun j : Nat => j ≤ xs.length) (fun j => ⟨124, 0, [(83, I j), (2, .ptr 0 0), (6, .ref 1 0 l.hs.length), (7, .mp 2), (8, .mp 3), (11, .ref 4 0 (a.od.length + 1)), (12, I b), (81, .sl xs.length (ints xs)), (82, I xs.length)], [some ⟨3, lC l⟩, oI (spR l b t (xs.take j)).out, some ⟨4294967291, mpI (mpB (a.od ++ [b]))⟩, some ⟨4294967291, mpI (mpB (spR l b t (xs.take j)).op)⟩, oI (a.od ++ [b])]⟩) (fun j => xs.length - j) 0 (by omega) (by rw [show spR l b t (xs.take 0) = t from by simp [spR], hTout, hTop]; unfold lC; (first | (refine leF_s ?_; ((repeat (first | simp (maxSteps := 2000000) (disch := omega) only [go_sem, ↓reduceIte] | with_reducible refine vIf_t ?_ | with_reducible refine vIf_f ?_)); all_goals (try simp); all_goals (try omega)); done) | (refine leF_p ?_; ((repeat (first | simp (maxSteps := 2000000) (disch := omega) only [go_sem, ↓reduceIte] | with_reducible refine vIf_t ?_ | with_reducible refine vIf_f ?_)); all_goals (try simp); all_goals (try omega)); done))) ?_
    intro j hj
    obtain ⟨hR1, hR2, hR3⟩ := hR j
    have hRl := hR1.len
    have hRs := hRs j
    rw [hTod] at hR2
    generalize hC : spR l b t (xs.take j) = c at *
    unfold lC oI
    (repeat (first | simp (maxSteps := 2000000) (disch := omega) only [go_sem, ↓reduceIte] | with_reducible refine vIf_t ?_ | with_reducible refine vIf_f ?_))
    refine vIf_dec (fun h6 => ?_) (fun h6 => ?_)
    · have hjl : j < xs.length := by omega
      have hRs := hRs hjl
      have hxc : inC l (gi xs j) := hnin _ (gi_mem _ _ hjl)
      have hxb : 0 ≤ gi xs j ∧ gi xs j ≤ (l.hs.length : Int) - 1 := hxc
      generalize hxe : gi xs j = x at *
      (repeat (first | simp (maxSteps := 2000000) (disch := omega) only [go_sem, ↓reduceIte, hxe] | with_reducible refine vIf_t ?_ | with_reducible refine vIf_f ?_))
      (refine vDraw_sch 9 [(0, false), (1, false), (2, false), (4, false), (6, false), (3, false), (5, true), (7, false), (8, true)] mixed (by kernel_rfl) ?_; simp only [List.cons_append, List.nil_append, List.map_cons, List.map_nil, nthO_zero, nthO_succ, List.drop_succ_cons, List.drop_zero, List.drop_nil]; (repeat (first | simp (maxSteps := 2000000) (disch := omega) only [go_sem, ↓reduceIte] | with_reducible refine vIf_t ?_ | with_reducible refine vIf_f ?_)))
      have emx : (if gi c.out b.toNat < gi l.hs x.toNat then gi l.hs x.toNat else gi c.out b.toNat) = mxI (ga c.out b) (ga l.hs x) := rfl
      have s1 := fun q => spS_1 (l := l) (b := b) (x := x) (a := c) q
      have s2 := fun q p => spS_2 (l := l) (b := b) (x := x) (a := c) q p
      have s3 := fun q p r => spS_3 (l := l) (b := b) (x := x) (a := c) q p r
      have s4 := fun q p => spS_4 (l := l) (b := b) (x := x) (a := c) q p
      generalize hme : mxI (ga c.out b) (ga l.hs x) = m at *
      (try (repeat (first | simp (maxSteps := 2000000) (disch := omega) only [go_sem, ↓reduceIte, hRl, emx] | with_reducible refine vIf_t ?_ | with_reducible refine vIf_f ?_)))
      by_cases z1 : x ∈ a.od ++ [b]
      · rw [s1 (by rw [hR2]; exact z1)] at hRs
        (try (repeat (first | simp (maxSteps := 2000000) (disch := omega) only [go_sem, ↓reduceIte, z1] | with_reducible refine vIf_t ?_ | with_reducible refine vIf_f ?_)))
        refine againF (j + 1) (by omega) (by omega) ?_
        rw [hRs]
        try unfold lC
        (first | (refine leF_s ?_; ((repeat (first | simp (maxSteps := 2000000) (disch := omega) only [go_sem, ↓reduceIte] | with_reducible refine vIf_t ?_ | with_reducible refine vIf_f ?_)); all_goals (try simp); all_goals (try omega)); done) | (refine leF_p ?_; ((repeat (first | simp (maxSteps := 2000000) (disch := omega) only [go_sem, ↓reduceIte] | with_reducible refine vIf_t ?_ | with_reducible refine vIf_f ?_)); all_goals (try simp); all_goals (try omega)); done))
      · by_cases z2 : x ∈ c.op
        · by_cases z3 : m < gi c.out x.toNat
          · have d3 : decide (m < gi c.out x.toNat) = true := decide_eq_true z3
            rw [s3 (by rw [hR2]; exact z1) z2 z3] at hRs
            (try (repeat (first | simp (maxSteps := 2000000) (disch := omega) only [go_sem, ↓reduceIte, z1, z2, hRl] | with_reducible refine vIf_t ?_ | with_reducible refine vIf_f ?_)))
            (try (repeat (first | simp (maxSteps := 2000000) (disch := omega) only [go_sem, ↓reduceIte, z1, z2, d3, hRl] | with_reducible refine vIf_t ?_ | with_reducible refine vIf_f ?_)))
            refine againF (j + 1) (by omega) (by omega) ?_
            rw [hRs]
            dsimp only
            try unfold lC
            (first | (refine leF_s ?_; ((repeat (first | simp (maxSteps := 2000000) (disch := omega) only [go_sem, ↓reduceIte] | with_reducible refine vIf_t ?_ | with_reducible refine vIf_f ?_)); all_goals (try simp); all_goals (try omega)); done) | (refine leF_p ?_; ((repeat (first | simp (maxSteps := 2000000) (disch := omega) only [go_sem, ↓reduceIte] | with_reducible refine vIf_t ?_ | with_reducible refine vIf_f ?_)); all_goals (try simp); all_goals (try omega)); done))
          · have d3 : decide (m < gi c.out x.toNat) = false := decide_eq_false z3
            rw [s2 z2 z3] at hRs
            (try (repeat (first | simp (maxSteps := 2000000) (disch := omega) only [go_sem, ↓reduceIte, z1, z2, hRl] | with_reducible refine vIf_t ?_ | with_reducible refine vIf_f ?_)))
            (try (repeat (first | simp (maxSteps := 2000000) (disch := omega) only [go_sem, ↓reduceIte, z1, z2, d3, hRl] | with_reducible refine vIf_t ?_ | with_reducible refine vIf_f ?_)))
            refine againF (j + 1) (by omega) (by omega) ?_
            rw [hRs]
            try unfold lC
            (first | (refine leF_s ?_; ((repeat (first | simp (maxSteps := 2000000) (disch := omega) only [go_sem, ↓reduceIte] | with_reducible refine vIf_t ?_ | with_reducible refine vIf_f ?_)); all_goals (try simp); all_goals (try omega)); done) | (refine leF_p ?_; ((repeat (first | simp (maxSteps := 2000000) (disch := omega) only [go_sem, ↓reduceIte] | with_reducible refine vIf_t ?_ | with_reducible refine vIf_f ?_)); all_goals (try simp); all_goals (try omega)); done))
        · rw [s4 (by rw [hR2]; exact z1) z2] at hRs
          (try (repeat (first | simp (maxSteps := 2000000) (disch := omega) only [go_sem, ↓reduceIte, z1, z2, hRl] | with_reducible refine vIf_t ?_ | with_reducible refine vIf_f ?_)))
          refine againF (j + 1) (by omega) (by omega) ?_
          rw [hRs]
          dsimp only
          try unfold lC
          (first | (refine leF_s ?_; ((repeat (first | simp (maxSteps := 2000000) (disch := omega) only [go_sem, ↓reduceIte] | with_reducible refine vIf_t ?_ | with_reducible refine vIf_f ?_)); all_goals (try simp); all_goals (try omega)); done) | (refine leF_p ?_; ((repeat (first | simp (maxSteps := 2000000) (disch := omega) only [go_sem, ↓reduceIte] | with_reducible refine vIf_t ?_ | with_reducible refine vIf_f ?_)); all_goals (try simp); all_goals (try omega)); done))
    · have ej : j = xs.length := by omega
      subst ej
      rw [List.take_length] at hC
      rw [hC] at hNd
      rw [hNd] at hKs
      (repeat (first | simp (maxSteps := 2000000) (disch := omega) only [go_sem, ↓reduceIte] | with_reducible refine vIf_t ?_ | with_reducible refine vIf_f ?_))
      refine againF (k + 1) (by omega) (by omega) ?_
      rw [hKs, hR2]
      try unfold lC
      (first | (refine leF_s ?_; ((repeat (first | simp (maxSteps := 2000000) (disch := omega) only [go_sem, ↓reduceIte] | with_reducible refine vIf_t ?_ | with_reducible refine vIf_f ?_)); all_goals (try simp); all_goals (try omega)); done) | (refine leF_p ?_; ((repeat (first | simp (maxSteps := 2000000) (disch := omega) only [go_sem, ↓reduceIte] | with_reducible refine vIf_t ?_ | with_reducible refine vIf_f ?_)); all_goals (try simp); all_goals (try omega)); done))
  · have hop : a.op = [] := by
      cases hq : a.op with
      | nil => rfl
      | cons x r => rw [hq] at h; simp at h
    have hE := hEe hop
    (repeat (first | simp (maxSteps := 2000000) (disch := omega) only [go_sem, ↓reduceIte] | with_reducible refine vIf_t ?_ | with_reducible refine vIf_f ?_))
    (refine retK_of ?_; (repeat (first | simp (maxSteps := 2000000) (disch := omega) only [go_sem, ↓reduceIte] | with_reducible refine vIf_t ?_ | with_reducible refine vIf_f ?_)))
    rw [hE]
    exact ⟨rfl, rfl⟩
end Go.Proofs.YtpjjjonplikilaaGreat
namespace Go.Proofs.YtpjjjonplikilaaGreat
open Go.AG

theorem ccC_0 {l : Ld} {c : Int} (h : ccC l c = 0) : okL l = true ∧ inC l c := by
  unfold ccC at h
  split at h
  · split at h
    · exact ⟨by assumption, by assumption⟩
    · omega
  · omega
end Go.Proofs.YtpjjjonplikilaaGreat
namespace Go.Proofs.YtpjjjonplikilaaGreat
open Go.AG

attribute [local go_sem] beq_self_eq_true bne_self_eq_false Bool.not_true Bool.not_false
def flV (l : Ld) (c : Int) : List Int := if ccC l c = 0 then (spE l [c]).out else []
theorem flV_0 {l : Ld} {c : Int} (h : ccC l c = 0) : flV l c = (spE l [c]).out := if_pos h
theorem flV_n {l : Ld} {c : Int} (h : ccC l c ≠ 0) : flV l c = [] := if_neg h
theorem one_in {l : Ld} {c : Int} (hc : inC l c) : ∀ o ∈ [c], inC l o := fun o ho => by rw [List.mem_singleton.1 ho]; exact hc
set_option maxHeartbeats 4000000 in
theorem levelsF_ok (l : Ld) (c : Int) (hl : l.hs.length ≤ 10000000) : ACalls Tryz.prog 15 [.agg (lC l), I c] [] (RowR (flV l c) (ccC l c)) := by
  refine ACalls.of_vc Tryz.func15 rfl (by decide) 24 rfl [.tmp 4, .tmp 5] rfl (by simp) ?_
  have h1 := cellCode_ok l c hl
  by_cases h0 : ccC l c = 0
  · obtain ⟨q1, q2⟩ := ccC_0 h0
    have h2 := spread_ok l [c] q1 (one_in q2) (by simp)
    have hE := spE_len q1 (one_in q2)
    have hV := flV_0 h0
    rw [h0] at h1 ⊢
    generalize spE l [c] = E at *
    unfold lC at h1 h2 ⊢
    simp only [List.length_singleton] at h2
    (repeat (first | simp (maxSteps := 2000000) (disch := omega) only [go_sem, ↓reduceIte] | with_reducible refine vIf_t ?_ | with_reducible refine vIf_f ?_))
    (refine vCallX_of ?_; (repeat (first | simp (maxSteps := 2000000) (disch := omega) only [go_sem, ↓reduceIte] | with_reducible refine vIf_t ?_ | with_reducible refine vIf_f ?_)); refine vCall_eq (h1) (by simp (disch := omega) only [go_sem]) rfl (by first | exact Or.inl rfl | exact Or.inr ⟨rfl, rfl⟩ | (apply Or.inr; simp only [go_sem])) ?_; (repeat (first | simp (maxSteps := 2000000) (disch := omega) only [go_sem, ↓reduceIte] | with_reducible refine vIf_t ?_ | with_reducible refine vIf_f ?_)))
    (refine vCallX_fz 1 _ rfl (by (repeat (first | simp (maxSteps := 2000000) (disch := omega) only [go_sem, ↓reduceIte] | with_reducible refine vIf_t ?_ | with_reducible refine vIf_f ?_))) ?_; (repeat (first | simp (maxSteps := 2000000) (disch := omega) only [go_sem, ↓reduceIte] | with_reducible refine vIf_t ?_ | with_reducible refine vIf_f ?_)))
    (refine vCallX_of ?_; (repeat (first | simp (maxSteps := 2000000) (disch := omega) only [go_sem, ↓reduceIte] | with_reducible refine vIf_t ?_ | with_reducible refine vIf_f ?_)); refine vCall_eq (h2) (by simp (disch := omega) only [go_sem]) rfl (by first | exact Or.inl rfl | exact Or.inr ⟨rfl, rfl⟩ | (apply Or.inr; simp only [go_sem])) ?_; (repeat (first | simp (maxSteps := 2000000) (disch := omega) only [go_sem, ↓reduceIte] | with_reducible refine vIf_t ?_ | with_reducible refine vIf_f ?_)))
    (refine retK_of ?_; (repeat (first | simp (maxSteps := 2000000) (disch := omega) only [go_sem, ↓reduceIte] | with_reducible refine vIf_t ?_ | with_reducible refine vIf_f ?_)))
    rw [hV]
    exact .inl ⟨by rw [hE.1], rfl⟩
  · have d0 : (ccC l c != 0) = true := by simpa using h0
    unfold lC at h1 ⊢
    (repeat (first | simp (maxSteps := 2000000) (disch := omega) only [go_sem, ↓reduceIte] | with_reducible refine vIf_t ?_ | with_reducible refine vIf_f ?_))
    (refine vCallX_of ?_; (repeat (first | simp (maxSteps := 2000000) (disch := omega) only [go_sem, ↓reduceIte] | with_reducible refine vIf_t ?_ | with_reducible refine vIf_f ?_)); refine vCall_eq (h1) (by simp (disch := omega) only [go_sem]) rfl (by first | exact Or.inl rfl | exact Or.inr ⟨rfl, rfl⟩ | (apply Or.inr; simp only [go_sem])) ?_; (repeat (first | simp (maxSteps := 2000000) (disch := omega) only [go_sem, ↓reduceIte] | with_reducible refine vIf_t ?_ | with_reducible refine vIf_f ?_)))
    (try (repeat (first | simp (maxSteps := 2000000) (disch := omega) only [go_sem, ↓reduceIte, d0] | with_reducible refine vIf_t ?_ | with_reducible refine vIf_f ?_)))
    (refine retK_of ?_; (repeat (first | simp (maxSteps := 2000000) (disch := omega) only [go_sem, ↓reduceIte] | with_reducible refine vIf_t ?_ | with_reducible refine vIf_f ?_)))
    exact .inl ⟨by rw [flV_n h0]; rfl, by rw [flV_n h0]; rfl⟩
end Go.Proofs.YtpjjjonplikilaaGreat
namespace Go.Proofs.YtpjjjonplikilaaGreat
open Go.AG

attribute [local go_sem] beq_self_eq_true bne_self_eq_false Bool.not_true Bool.not_false
def outB (l : Ld) (fr : List Int) : Bool := decide (0 < (fr.length : Int)) && risesB fr 0 ((l.hs.length : Int) - 1)
def ouC (l : Ld) (fr : List Int) : Int := if okL l = true then if outB l fr = true then 0 else 2 else 1
structure OuF (l : Ld) (fr : List Int) : Prop where
  ok : okL l = true
  ne : fr ≠ []
  c : ∀ o ∈ fr, inC l o
  r : risesB fr 0 ((l.hs.length : Int) - 1) = true
theorem ouC_0 {l : Ld} {fr : List Int} (h : ouC l fr = 0) : OuF l fr := by
  unfold ouC at h
  split at h
  · rename_i h1
    split at h
    · rename_i h2
      unfold outB at h2
      rw [Bool.and_eq_true, decide_eq_true_eq] at h2
      refine ⟨h1, fun e => by rw [e] at h2; simp at h2, fun o ho => ?_, h2.2⟩
      obtain ⟨i, hi, e⟩ := List.mem_iff_getElem.1 ho
      have hk := h2.2
      unfold risesB at hk
      have := of_decide_eq_true hk i hi
      unfold rok at this
      rw [Bool.and_eq_true, decide_eq_true_eq] at this
      rw [← e, ← gi_lt _ _ hi]
      exact this.1
    · omega
  · omega
theorem ouC_cases (l : Ld) (fr : List Int) : (okL l = false ∧ ouC l fr = 1) ∨ (okL l = true ∧ outB l fr = false ∧ ouC l fr = 2) ∨ (okL l = true ∧ outB l fr = true ∧ ouC l fr = 0) := by
  unfold ouC
  cases okL l <;> cases outB l fr <;> simp
theorem outletsC_ok (l : Ld) (fr : List Int) (hl : l.hs.length ≤ 10000000) (hf : fr.length ≤ 10000000) : ACalls Tryz.prog 44 [.agg (lC l), .sl fr.length (ints fr)] [] (fun r o => r = I (ouC l fr) ∧ o = []) := by
  refine ACalls.of_vc Tryz.func44 rfl (by decide) 22 rfl [.tmp 4] rfl (by simp) ?_
  have h1 := validL_ok l hl
  have h2 := size_ok (ints l.hs) l.hs.length
  have h3 := rise_ok fr 0 ((l.hs.length : Int) - 1) hf
  unfold iS at h3
  rcases ouC_cases l fr with ⟨e1, e⟩ | ⟨e1, e2, e⟩ | ⟨e1, e2, e⟩
  · rw [e1] at h1
    rw [e]
    unfold lC at h1 ⊢
    (repeat (first | simp (maxSteps := 2000000) (disch := omega) only [go_sem, ↓reduceIte] | with_reducible refine vIf_t ?_ | with_reducible refine vIf_f ?_))
    (refine vCallX_of ?_; (repeat (first | simp (maxSteps := 2000000) (disch := omega) only [go_sem, ↓reduceIte] | with_reducible refine vIf_t ?_ | with_reducible refine vIf_f ?_)); refine vCall_eq (h1) (by simp (disch := omega) only [go_sem]) rfl (by first | exact Or.inl rfl | exact Or.inr ⟨rfl, rfl⟩ | (apply Or.inr; simp only [go_sem])) ?_; (repeat (first | simp (maxSteps := 2000000) (disch := omega) only [go_sem, ↓reduceIte] | with_reducible refine vIf_t ?_ | with_reducible refine vIf_f ?_)))
    (refine retK_of ?_; (repeat (first | simp (maxSteps := 2000000) (disch := omega) only [go_sem, ↓reduceIte] | with_reducible refine vIf_t ?_ | with_reducible refine vIf_f ?_)))
  · rw [e1] at h1
    rw [e]
    unfold outB at e2
    unfold lC at h1 ⊢
    by_cases h0 : fr.length = 0
    · have d0 : ((fr.length : Int) == 0) = true := by simp [h0]
      (repeat (first | simp (maxSteps := 2000000) (disch := omega) only [go_sem, ↓reduceIte] | with_reducible refine vIf_t ?_ | with_reducible refine vIf_f ?_))
      (refine vCallX_of ?_; (repeat (first | simp (maxSteps := 2000000) (disch := omega) only [go_sem, ↓reduceIte] | with_reducible refine vIf_t ?_ | with_reducible refine vIf_f ?_)); refine vCall_eq (h1) (by simp (disch := omega) only [go_sem]) rfl (by first | exact Or.inl rfl | exact Or.inr ⟨rfl, rfl⟩ | (apply Or.inr; simp only [go_sem])) ?_; (repeat (first | simp (maxSteps := 2000000) (disch := omega) only [go_sem, ↓reduceIte] | with_reducible refine vIf_t ?_ | with_reducible refine vIf_f ?_)))
      (try (repeat (first | simp (maxSteps := 2000000) (disch := omega) only [go_sem, ↓reduceIte, d0] | with_reducible refine vIf_t ?_ | with_reducible refine vIf_f ?_)))
      (refine retK_of ?_; (repeat (first | simp (maxSteps := 2000000) (disch := omega) only [go_sem, ↓reduceIte] | with_reducible refine vIf_t ?_ | with_reducible refine vIf_f ?_)))
    · have d0 : ((fr.length : Int) == 0) = false := by rw [beq_eq_false_iff_ne]; omega
      rw [decide_eq_true (by omega), Bool.true_and] at e2
      rw [e2] at h3
      (repeat (first | simp (maxSteps := 2000000) (disch := omega) only [go_sem, ↓reduceIte] | with_reducible refine vIf_t ?_ | with_reducible refine vIf_f ?_))
      (refine vCallX_of ?_; (repeat (first | simp (maxSteps := 2000000) (disch := omega) only [go_sem, ↓reduceIte] | with_reducible refine vIf_t ?_ | with_reducible refine vIf_f ?_)); refine vCall_eq (h1) (by simp (disch := omega) only [go_sem]) rfl (by first | exact Or.inl rfl | exact Or.inr ⟨rfl, rfl⟩ | (apply Or.inr; simp only [go_sem])) ?_; (repeat (first | simp (maxSteps := 2000000) (disch := omega) only [go_sem, ↓reduceIte] | with_reducible refine vIf_t ?_ | with_reducible refine vIf_f ?_)))
      (try (repeat (first | simp (maxSteps := 2000000) (disch := omega) only [go_sem, ↓reduceIte, d0] | with_reducible refine vIf_t ?_ | with_reducible refine vIf_f ?_)))
      (refine vCallX_of ?_; (repeat (first | simp (maxSteps := 2000000) (disch := omega) only [go_sem, ↓reduceIte] | with_reducible refine vIf_t ?_ | with_reducible refine vIf_f ?_)); refine vCall_eq (h2) (by simp (disch := omega) only [go_sem]) rfl (by first | exact Or.inl rfl | exact Or.inr ⟨rfl, rfl⟩ | (apply Or.inr; simp only [go_sem])) ?_; (repeat (first | simp (maxSteps := 2000000) (disch := omega) only [go_sem, ↓reduceIte] | with_reducible refine vIf_t ?_ | with_reducible refine vIf_f ?_)))
      (try (repeat (first | simp (maxSteps := 2000000) (disch := omega) only [go_sem, ↓reduceIte, d0] | with_reducible refine vIf_t ?_ | with_reducible refine vIf_f ?_)))
      (refine vCallX_of ?_; (repeat (first | simp (maxSteps := 2000000) (disch := omega) only [go_sem, ↓reduceIte] | with_reducible refine vIf_t ?_ | with_reducible refine vIf_f ?_)); refine vCall_eq (h3) (by simp (disch := omega) only [go_sem]) rfl (by first | exact Or.inl rfl | exact Or.inr ⟨rfl, rfl⟩ | (apply Or.inr; simp only [go_sem])) ?_; (repeat (first | simp (maxSteps := 2000000) (disch := omega) only [go_sem, ↓reduceIte] | with_reducible refine vIf_t ?_ | with_reducible refine vIf_f ?_)))
      (try (repeat (first | simp (maxSteps := 2000000) (disch := omega) only [go_sem, ↓reduceIte, d0] | with_reducible refine vIf_t ?_ | with_reducible refine vIf_f ?_)))
      (refine retK_of ?_; (repeat (first | simp (maxSteps := 2000000) (disch := omega) only [go_sem, ↓reduceIte] | with_reducible refine vIf_t ?_ | with_reducible refine vIf_f ?_)))
  · rw [e1] at h1
    rw [e]
    unfold outB at e2
    rw [Bool.and_eq_true, decide_eq_true_eq] at e2
    unfold lC at h1 ⊢
    have d0 : ((fr.length : Int) == 0) = false := by rw [beq_eq_false_iff_ne]; omega
    rw [e2.2] at h3
    (repeat (first | simp (maxSteps := 2000000) (disch := omega) only [go_sem, ↓reduceIte] | with_reducible refine vIf_t ?_ | with_reducible refine vIf_f ?_))
    (refine vCallX_of ?_; (repeat (first | simp (maxSteps := 2000000) (disch := omega) only [go_sem, ↓reduceIte] | with_reducible refine vIf_t ?_ | with_reducible refine vIf_f ?_)); refine vCall_eq (h1) (by simp (disch := omega) only [go_sem]) rfl (by first | exact Or.inl rfl | exact Or.inr ⟨rfl, rfl⟩ | (apply Or.inr; simp only [go_sem])) ?_; (repeat (first | simp (maxSteps := 2000000) (disch := omega) only [go_sem, ↓reduceIte] | with_reducible refine vIf_t ?_ | with_reducible refine vIf_f ?_)))
    (try (repeat (first | simp (maxSteps := 2000000) (disch := omega) only [go_sem, ↓reduceIte, d0] | with_reducible refine vIf_t ?_ | with_reducible refine vIf_f ?_)))
    (refine vCallX_of ?_; (repeat (first | simp (maxSteps := 2000000) (disch := omega) only [go_sem, ↓reduceIte] | with_reducible refine vIf_t ?_ | with_reducible refine vIf_f ?_)); refine vCall_eq (h2) (by simp (disch := omega) only [go_sem]) rfl (by first | exact Or.inl rfl | exact Or.inr ⟨rfl, rfl⟩ | (apply Or.inr; simp only [go_sem])) ?_; (repeat (first | simp (maxSteps := 2000000) (disch := omega) only [go_sem, ↓reduceIte] | with_reducible refine vIf_t ?_ | with_reducible refine vIf_f ?_)))
    (try (repeat (first | simp (maxSteps := 2000000) (disch := omega) only [go_sem, ↓reduceIte, d0] | with_reducible refine vIf_t ?_ | with_reducible refine vIf_f ?_)))
    (refine vCallX_of ?_; (repeat (first | simp (maxSteps := 2000000) (disch := omega) only [go_sem, ↓reduceIte] | with_reducible refine vIf_t ?_ | with_reducible refine vIf_f ?_)); refine vCall_eq (h3) (by simp (disch := omega) only [go_sem]) rfl (by first | exact Or.inl rfl | exact Or.inr ⟨rfl, rfl⟩ | (apply Or.inr; simp only [go_sem])) ?_; (repeat (first | simp (maxSteps := 2000000) (disch := omega) only [go_sem, ↓reduceIte] | with_reducible refine vIf_t ?_ | with_reducible refine vIf_f ?_)))
    (try (repeat (first | simp (maxSteps := 2000000) (disch := omega) only [go_sem, ↓reduceIte, d0] | with_reducible refine vIf_t ?_ | with_reducible refine vIf_f ?_)))
    (refine retK_of ?_; (repeat (first | simp (maxSteps := 2000000) (disch := omega) only [go_sem, ↓reduceIte] | with_reducible refine vIf_t ?_ | with_reducible refine vIf_f ?_)))
def suV (l : Ld) (fr : List Int) : List Int := if ouC l fr = 0 then (spE l fr).out else []
theorem suV_0 {l : Ld} {fr : List Int} (h : ouC l fr = 0) : suV l fr = (spE l fr).out := if_pos h
theorem suV_n {l : Ld} {fr : List Int} (h : ouC l fr ≠ 0) : suV l fr = [] := if_neg h
set_option maxHeartbeats 4000000 in
theorem surfI_ok (l : Ld) (fr : List Int) (hl : l.hs.length ≤ 10000000) (hf : fr.length ≤ 1000) : ACalls Tryz.prog 14 [.agg (lC l), .sl fr.length (ints fr)] [] (RowR (suV l fr) (ouC l fr)) := by
  refine ACalls.of_vc Tryz.func14 rfl (by decide) 23 rfl [.tmp 4, .tmp 5] rfl (by simp) ?_
  have h1 := outletsC_ok l fr hl (by omega)
  by_cases h0 : ouC l fr = 0
  · have O := ouC_0 h0
    have h2 := spread_ok l fr O.ok O.c hf
    have hE := spE_len O.ok O.c
    have hV := suV_0 h0
    rw [h0] at h1 ⊢
    generalize spE l fr = E at *
    unfold lC at h1 h2 ⊢
    (repeat (first | simp (maxSteps := 2000000) (disch := omega) only [go_sem, ↓reduceIte] | with_reducible refine vIf_t ?_ | with_reducible refine vIf_f ?_))
    (refine vCallX_of ?_; (repeat (first | simp (maxSteps := 2000000) (disch := omega) only [go_sem, ↓reduceIte] | with_reducible refine vIf_t ?_ | with_reducible refine vIf_f ?_)); refine vCall_eq (h1) (by simp (disch := omega) only [go_sem]) rfl (by first | exact Or.inl rfl | exact Or.inr ⟨rfl, rfl⟩ | (apply Or.inr; simp only [go_sem])) ?_; (repeat (first | simp (maxSteps := 2000000) (disch := omega) only [go_sem, ↓reduceIte] | with_reducible refine vIf_t ?_ | with_reducible refine vIf_f ?_)))
    (refine vCallX_of ?_; (repeat (first | simp (maxSteps := 2000000) (disch := omega) only [go_sem, ↓reduceIte] | with_reducible refine vIf_t ?_ | with_reducible refine vIf_f ?_)); refine vCall_eq (h2) (by simp (disch := omega) only [go_sem]) rfl (by first | exact Or.inl rfl | exact Or.inr ⟨rfl, rfl⟩ | (apply Or.inr; simp only [go_sem])) ?_; (repeat (first | simp (maxSteps := 2000000) (disch := omega) only [go_sem, ↓reduceIte] | with_reducible refine vIf_t ?_ | with_reducible refine vIf_f ?_)))
    (refine retK_of ?_; (repeat (first | simp (maxSteps := 2000000) (disch := omega) only [go_sem, ↓reduceIte] | with_reducible refine vIf_t ?_ | with_reducible refine vIf_f ?_)))
    rw [hV]
    exact .inl ⟨by rw [hE.1], rfl⟩
  · have d0 : (ouC l fr != 0) = true := by simpa using h0
    unfold lC at h1 ⊢
    (repeat (first | simp (maxSteps := 2000000) (disch := omega) only [go_sem, ↓reduceIte] | with_reducible refine vIf_t ?_ | with_reducible refine vIf_f ?_))
    (refine vCallX_of ?_; (repeat (first | simp (maxSteps := 2000000) (disch := omega) only [go_sem, ↓reduceIte] | with_reducible refine vIf_t ?_ | with_reducible refine vIf_f ?_)); refine vCall_eq (h1) (by simp (disch := omega) only [go_sem]) rfl (by first | exact Or.inl rfl | exact Or.inr ⟨rfl, rfl⟩ | (apply Or.inr; simp only [go_sem])) ?_; (repeat (first | simp (maxSteps := 2000000) (disch := omega) only [go_sem, ↓reduceIte] | with_reducible refine vIf_t ?_ | with_reducible refine vIf_f ?_)))
    (try (repeat (first | simp (maxSteps := 2000000) (disch := omega) only [go_sem, ↓reduceIte, d0] | with_reducible refine vIf_t ?_ | with_reducible refine vIf_f ?_)))
    (refine retK_of ?_; (repeat (first | simp (maxSteps := 2000000) (disch := omega) only [go_sem, ↓reduceIte] | with_reducible refine vIf_t ?_ | with_reducible refine vIf_f ?_)))
    exact .inl ⟨by rw [suV_n h0]; rfl, by rw [suV_n h0]; rfl⟩
end Go.Proofs.YtpjjjonplikilaaGreat
namespace Go.Proofs.YtpjjjonplikilaaGreat
open Go.AG

attribute [local go_sem] beq_self_eq_true bne_self_eq_false Bool.not_true Bool.not_false
set_option maxRecDepth 20000 in
set_option maxHeartbeats 4000000 in
theorem l11Out_e {code : List Int} (g : SrOk code) : ACalls Tryz.prog 43 [bS code] [] (fun r o => ∃ (l : Ld) (fr : List Int), r = .tup [.agg (lC l), .sl fr.length (ints fr)] ∧ o = [] ∧ l.hs.length ≤ 145 ∧ fr.length ≤ 10) := by
  refine ACalls.of_vc Tryz.func43 rfl (by decide) 48 rfl [.cell 2 45, .tmp 3] rfl (by simp) ?_
  have hf := from_e g
  unfold bS at hf ⊢
  (repeat (first | simp (maxSteps := 2000000) (disch := omega) only [go_sem, ↓reduceIte] | with_reducible refine vIf_t ?_ | with_reducible refine vIf_f ?_))
  (refine vCallX_of ?_; (repeat (first | simp (maxSteps := 2000000) (disch := omega) only [go_sem, ↓reduceIte] | with_reducible refine vIf_t ?_ | with_reducible refine vIf_f ?_)); refine vCall_eq (hf) (by simp (disch := omega) only [go_sem]) rfl (by first | exact Or.inl rfl | exact Or.inr ⟨rfl, rfl⟩ | (apply Or.inr; simp only [go_sem])) ?_; (repeat (first | simp (maxSteps := 2000000) (disch := omega) only [go_sem, ↓reduceIte] | with_reducible refine vIf_t ?_ | with_reducible refine vIf_f ?_)))
  (refine vCallX_io [1] ?_; (repeat (first | simp (maxSteps := 2000000) (disch := omega) only [go_sem, ↓reduceIte] | with_reducible refine vIf_t ?_ | with_reducible refine vIf_f ?_)); refine vCallIO_ex (l03Bent_e g ⟨0, 0⟩ (by simp)) (by simp (disch := omega) only [go_sem]) (by simp (disch := omega) only [go_sem]) (by first | rfl | (simp (disch := omega) only [go_sem])) (by first | rfl | (simp (disch := omega) only [go_sem])) (by first | rfl | (simp (disch := omega) only [go_sem])) ?_); rintro _ _ ⟨a, b, hs, σ1, rfl, rfl, n1, n2⟩; (refine ⟨by first | (simp (disch := omega) only [go_sem]) | trivial, ?_⟩; (repeat (first | simp (maxSteps := 2000000) (disch := omega) only [go_sem, ↓reduceIte] | with_reducible refine vIf_t ?_ | with_reducible refine vIf_f ?_)))
  simp only at n2
  (refine vCallX_fz 2 _ rfl (by (repeat (first | simp (maxSteps := 2000000) (disch := omega) only [go_sem, ↓reduceIte] | with_reducible refine vIf_t ?_ | with_reducible refine vIf_f ?_))) ?_; (repeat (first | simp (maxSteps := 2000000) (disch := omega) only [go_sem, ↓reduceIte] | with_reducible refine vIf_t ?_ | with_reducible refine vIf_f ?_)))
  (refine vCallX_io [1] ?_; (repeat (first | simp (maxSteps := 2000000) (disch := omega) only [go_sem, ↓reduceIte] | with_reducible refine vIf_t ?_ | with_reducible refine vIf_f ?_)); refine vCallIO_ex (pick_e g 3 σ1 (by omega)) (by simp (disch := omega) only [go_sem]) (by simp (disch := omega) only [go_sem]) (by first | rfl | (simp (disch := omega) only [go_sem])) (by first | rfl | (simp (disch := omega) only [go_sem])) (by first | rfl | (simp (disch := omega) only [go_sem])) ?_); rintro _ _ ⟨v1, σ2, rfl, rfl, h1, h2, h3⟩; (refine ⟨by first | (simp (disch := omega) only [go_sem]) | trivial, ?_⟩; (repeat (first | simp (maxSteps := 2000000) (disch := omega) only [go_sem, ↓reduceIte] | with_reducible refine vIf_t ?_ | with_reducible refine vIf_f ?_)))
  refine vcLoop_invF (fun x : Int × List Int × Sr => 0 ≤ x.1 ∧ (x.2.1.length : Int) + x.1 ≤ 3 ∧ x.2.2.pos + 2 * x.1.toNat ≤ 700) (fun x => ⟨48, 0, [(8, I x.1), (6, I hs.length), (2, .ptr 0 0), (4, .ptr 1 0), (5, .ptr 2 0), (7, .ref 3 0 x.2.1.length)], [some ⟨3, [I 0, I 0, nilS]⟩, srO code x.2.2, some ⟨3, [I a, I b, .sl hs.length (ints hs)]⟩, oI x.2.1]⟩) (fun x => x.1.toNat) (1 + v1, [], σ2) ⟨by simp only; omega, by simp; omega, by simp only; omega⟩ (by (first | (refine leF_s ?_; ((repeat (first | simp (maxSteps := 2000000) (disch := omega) only [go_sem, ↓reduceIte] | with_reducible refine vIf_t ?_ | with_reducible refine vIf_f ?_)); all_goals (try simp); all_goals (try omega)); done) | (refine leF_p ?_; ((repeat (first | simp (maxSteps := 2000000) (disch := omega) only [go_sem, ↓reduceIte] | with_reducible refine vIf_t ?_ | with_reducible refine vIf_f ?_)); all_goals (try simp); all_goals (try omega)); done))) ?_
  rintro ⟨k, out, σ3⟩ ⟨g1, g2, g3⟩
  simp only at g1 g2 g3
  (repeat (first | simp (maxSteps := 2000000) (disch := omega) only [go_sem, ↓reduceIte] | with_reducible refine vIf_t ?_ | with_reducible refine vIf_f ?_))
  refine vIf_dec (fun h => ?_) (fun h => ?_)
  · (repeat (first | simp (maxSteps := 2000000) (disch := omega) only [go_sem, ↓reduceIte] | with_reducible refine vIf_t ?_ | with_reducible refine vIf_f ?_))
    (refine vCallX_io [1] ?_; (repeat (first | simp (maxSteps := 2000000) (disch := omega) only [go_sem, ↓reduceIte] | with_reducible refine vIf_t ?_ | with_reducible refine vIf_f ?_)); refine vCallIO_ex (pick_e g hs.length σ3 (by omega)) (by simp (disch := omega) only [go_sem]) (by simp (disch := omega) only [go_sem]) (by first | rfl | (simp (disch := omega) only [go_sem])) (by first | rfl | (simp (disch := omega) only [go_sem])) (by first | rfl | (simp (disch := omega) only [go_sem])) ?_); rintro _ _ ⟨v, σ4, rfl, rfl, h4, h5, h6⟩; (refine ⟨by first | (simp (disch := omega) only [go_sem]) | trivial, ?_⟩; (repeat (first | simp (maxSteps := 2000000) (disch := omega) only [go_sem, ↓reduceIte] | with_reducible refine vIf_t ?_ | with_reducible refine vIf_f ?_)))
    have hp := put_ok out v (by omega)
    have hpl := putI_len v out
    (refine vCallX_of ?_; (repeat (first | simp (maxSteps := 2000000) (disch := omega) only [go_sem, ↓reduceIte] | with_reducible refine vIf_t ?_ | with_reducible refine vIf_f ?_)); refine vCall_eq (hp) (by simp (disch := omega) only [go_sem]) rfl (by first | exact Or.inl rfl | exact Or.inr ⟨rfl, rfl⟩ | (apply Or.inr; simp only [go_sem])) ?_; (repeat (first | simp (maxSteps := 2000000) (disch := omega) only [go_sem, ↓reduceIte] | with_reducible refine vIf_t ?_ | with_reducible refine vIf_f ?_)))
    refine againF ((k - 1, putI v out, σ4)) ?_ ?_ (by (first | (refine leF_s ?_; ((repeat (first | simp (maxSteps := 2000000) (disch := omega) only [go_sem, ↓reduceIte] | with_reducible refine vIf_t ?_ | with_reducible refine vIf_f ?_)); all_goals (try simp); all_goals (try omega)); done) | (refine leF_p ?_; ((repeat (first | simp (maxSteps := 2000000) (disch := omega) only [go_sem, ↓reduceIte] | with_reducible refine vIf_t ?_ | with_reducible refine vIf_f ?_)); all_goals (try simp); all_goals (try omega)); done)))
    · exact ⟨by simp only; omega, by simp only; omega, by simp only; omega⟩
    · simp only; omega
  · (repeat (first | simp (maxSteps := 2000000) (disch := omega) only [go_sem, ↓reduceIte] | with_reducible refine vIf_t ?_ | with_reducible refine vIf_f ?_))
    (refine vCallX_io [1] ?_; (repeat (first | simp (maxSteps := 2000000) (disch := omega) only [go_sem, ↓reduceIte] | with_reducible refine vIf_t ?_ | with_reducible refine vIf_f ?_)); refine vCallIO_ex (pick_e g 16 σ3 (by omega)) (by simp (disch := omega) only [go_sem]) (by simp (disch := omega) only [go_sem]) (by first | rfl | (simp (disch := omega) only [go_sem])) (by first | rfl | (simp (disch := omega) only [go_sem])) (by first | rfl | (simp (disch := omega) only [go_sem])) ?_); rintro _ _ ⟨u, σ4, rfl, rfl, h4, h5, h6⟩; (refine ⟨by first | (simp (disch := omega) only [go_sem]) | trivial, ?_⟩; (repeat (first | simp (maxSteps := 2000000) (disch := omega) only [go_sem, ↓reduceIte] | with_reducible refine vIf_t ?_ | with_reducible refine vIf_f ?_)))
    refine vIf_beq (fun h7 => ?_) (fun h7 => ?_)
    · (repeat (first | simp (maxSteps := 2000000) (disch := omega) only [go_sem, ↓reduceIte] | with_reducible refine vIf_t ?_ | with_reducible refine vIf_f ?_))
      refine retK_fz 4 ⟨1, ints []⟩ rfl (by (repeat (first | simp (maxSteps := 2000000) (disch := omega) only [go_sem, ↓reduceIte] | with_reducible refine vIf_t ?_ | with_reducible refine vIf_f ?_))) ?_
      (repeat (first | simp (maxSteps := 2000000) (disch := omega) only [go_sem, ↓reduceIte] | with_reducible refine vIf_t ?_ | with_reducible refine vIf_f ?_))
      (refine retK_of ?_; (repeat (first | simp (maxSteps := 2000000) (disch := omega) only [go_sem, ↓reduceIte] | with_reducible refine vIf_t ?_ | with_reducible refine vIf_f ?_)))
      exact ⟨⟨a, b, hs⟩, [], rfl, n1.2, by simp⟩
    · (repeat (first | simp (maxSteps := 2000000) (disch := omega) only [go_sem, ↓reduceIte] | with_reducible refine vIf_t ?_ | with_reducible refine vIf_f ?_))
      refine vIf_beq (fun h8 => ?_) (fun h8 => ?_)
      · (repeat (first | simp (maxSteps := 2000000) (disch := omega) only [go_sem, ↓reduceIte] | with_reducible refine vIf_t ?_ | with_reducible refine vIf_f ?_))
        (refine vCallX_io [1, 4] ?_; (repeat (first | simp (maxSteps := 2000000) (disch := omega) only [go_sem, ↓reduceIte] | with_reducible refine vIf_t ?_ | with_reducible refine vIf_f ?_)); refine vCallIO_ex (among_l g [-1, 0, (hs.length : Int), (hs.length : Int) - 1] σ4 (by omega) (by simp) _ rfl _ rfl) (by simp (disch := omega) only [go_sem]) (by simp (disch := omega) only [go_sem]) (by first | rfl | (simp (disch := omega) only [go_sem])) (by first | rfl | (simp (disch := omega) only [go_sem])) (by first | rfl | (simp (disch := omega) only [go_sem])) ?_); rintro _ _ ⟨v, σ5, rfl, rfl, h9, h10⟩; (refine ⟨by first | (simp (disch := omega) only [go_sem]) | trivial, ?_⟩; (repeat (first | simp (maxSteps := 2000000) (disch := omega) only [go_sem, ↓reduceIte] | with_reducible refine vIf_t ?_ | with_reducible refine vIf_f ?_)))
        have et : (out ++ [v]).take (out.length + 1) = out ++ [v] := List.take_of_length_le (by simp)
        refine retK_fz 3 ⟨1, ints (out ++ [v])⟩ rfl (by (repeat (first | simp (maxSteps := 2000000) (disch := omega) only [go_sem, ↓reduceIte] | with_reducible refine vIf_t ?_ | with_reducible refine vIf_f ?_))) ?_
        (repeat (first | simp (maxSteps := 2000000) (disch := omega) only [go_sem, ↓reduceIte, et] | with_reducible refine vIf_t ?_ | with_reducible refine vIf_f ?_))
        (refine retK_of ?_; (repeat (first | simp (maxSteps := 2000000) (disch := omega) only [go_sem, ↓reduceIte] | with_reducible refine vIf_t ?_ | with_reducible refine vIf_f ?_)))
        exact ⟨⟨a, b, hs⟩, out ++ [v], by simp [lC], n1.2, by simp; omega⟩
      · (repeat (first | simp (maxSteps := 2000000) (disch := omega) only [go_sem, ↓reduceIte] | with_reducible refine vIf_t ?_ | with_reducible refine vIf_f ?_))
        refine retK_fz 3 ⟨1, ints out⟩ rfl (by (repeat (first | simp (maxSteps := 2000000) (disch := omega) only [go_sem, ↓reduceIte] | with_reducible refine vIf_t ?_ | with_reducible refine vIf_f ?_))) ?_
        (repeat (first | simp (maxSteps := 2000000) (disch := omega) only [go_sem, ↓reduceIte] | with_reducible refine vIf_t ?_ | with_reducible refine vIf_f ?_))
        (refine retK_of ?_; (repeat (first | simp (maxSteps := 2000000) (disch := omega) only [go_sem, ↓reduceIte] | with_reducible refine vIf_t ?_ | with_reducible refine vIf_f ?_)))
        exact ⟨⟨a, b, hs⟩, out, rfl, n1.2, by omega⟩
theorem drawSO_e {code : List Int} (g : SrOk code) : ACalls Tryz.prog 13 [bS code] [] (fun r o => ∃ (l : Ld) (fr : List Int), r = .tup [.agg (lC l), .sl fr.length (ints fr)] ∧ o = [] ∧ l.hs.length ≤ 145 ∧ fr.length ≤ 10) := by
  refine ACalls.of_vc Tryz.func13 rfl (by decide) 8 rfl [.cell 2 45, .tmp 3] rfl (by simp) ?_
  have hf := l11Out_e g
  unfold bS at hf ⊢
  (repeat (first | simp (maxSteps := 2000000) (disch := omega) only [go_sem, ↓reduceIte] | with_reducible refine vIf_t ?_ | with_reducible refine vIf_f ?_))
  (refine vCallX_of ?_; (repeat (first | simp (maxSteps := 2000000) (disch := omega) only [go_sem, ↓reduceIte] | with_reducible refine vIf_t ?_ | with_reducible refine vIf_f ?_)); refine vCall_ex (hf) (by simp (disch := omega) only [go_sem]) rfl ?_); rintro _ _ ⟨l, fr, rfl, rfl, h1, h2⟩; (refine ⟨(by first | exact Or.inl rfl | exact Or.inr ⟨rfl, rfl⟩ | (apply Or.inr; simp only [go_sem])), ?_⟩; (repeat (first | simp (maxSteps := 2000000) (disch := omega) only [go_sem, ↓reduceIte] | with_reducible refine vIf_t ?_ | with_reducible refine vIf_f ?_)))
  unfold lC
  (repeat (first | simp (maxSteps := 2000000) (disch := omega) only [go_sem, ↓reduceIte] | with_reducible refine vIf_t ?_ | with_reducible refine vIf_f ?_))
  (refine retK_of ?_; (repeat (first | simp (maxSteps := 2000000) (disch := omega) only [go_sem, ↓reduceIte] | with_reducible refine vIf_t ?_ | with_reducible refine vIf_f ?_)))
  exact ⟨l, fr, rfl, h1, h2⟩
theorem suV_len (l : Ld) (fr : List Int) : (suV l fr).length ≤ l.hs.length := by
  by_cases h : ouC l fr = 0
  · have O := ouC_0 h
    rw [suV_0 h, (spE_len O.ok O.c).1]; omega
  · rw [suV_n h]; simp
theorem flV_len (l : Ld) (c : Int) : (flV l c).length ≤ l.hs.length := by
  by_cases h : ccC l c = 0
  · obtain ⟨q1, q2⟩ := ccC_0 h
    rw [flV_0 h, (spE_len q1 (one_in q2)).1]; omega
  · rw [flV_n h]; simp
end Go.Proofs.YtpjjjonplikilaaGreat
namespace Go.Proofs.YtpjjjonplikilaaGreat
open Go.AG Go.Lib

def DuR (xs : List Du) (c : Int) (r : V) (o : Objs) : Prop := (r = .tup [.ref 0 0 xs.length, I c] ∧ o = [some ⟨3, cDu xs⟩]) ∨ (xs = [] ∧ r = .tup [.sc (.slice none 0 0), I c] ∧ o = [])
theorem DuR.fz {P : Program} {f : FuncId} {args : List V} {xs : List Du} {c : Int} (h : ACalls P f args [] (DuR xs c)) : ACalls P f args [] (fun r o => r = .tup [.sl xs.length (cDu xs), I c] ∧ o = []) := by
  have h1 : ACalls P f args [] (fun r o => (r = .tup [.sl xs.length (cDu xs), I c] ∧ o = []) ∨ (xs = [] ∧ r = .tup [.sc (.slice none 0 0), I c] ∧ o = [])) := by
    refine h.fz ?_
    rintro r o (⟨rfl, rfl⟩ | ⟨h1, rfl, rfl⟩)
    · refine ⟨.tup [.sl xs.length (cDu xs), I c], .step 0 ⟨3, cDu xs⟩ rfl (by (repeat (first | simp (maxSteps := 2000000) (disch := omega) only [go_sem, ↓reduceIte] | with_reducible refine vIf_t ?_ | with_reducible refine vIf_f ?_))) ?_, .inl ⟨rfl, rfl⟩⟩
      (repeat (first | simp (maxSteps := 2000000) (disch := omega) only [go_sem, ↓reduceIte] | with_reducible refine vIf_t ?_ | with_reducible refine vIf_f ?_))
      exact .done rfl
    · exact ⟨_, .done rfl, .inr ⟨h1, rfl, rfl⟩⟩
  refine h1.leD ?_
  rintro r o (⟨rfl, rfl⟩ | ⟨h1, rfl, rfl⟩)
  · exact ⟨_, .le (V.le_refl _), rfl, rfl⟩
  · subst h1
    exact ⟨_, LeD.tup' (leD_nilS (leD_same _ leD_nil)), rfl, rfl⟩
/-! the divided dike, as a row -/
def ddL (ps : List Pc) (L : Int) : List Du := if ddC ps L = 0 then dvL (shD ps L) 40 else []
theorem divideF_ok (ps : List Pc) (L : Int) (hl : ps.length ≤ 10000000) : ACalls Tryz.prog 21 [.sl ps.length (cPc ps), I L] [] (fun r o => r = .tup [.sl (ddL ps L).length (cDu (ddL ps L)), I (ddC ps L)] ∧ o = []) := by
  refine DuR.fz ((divideD_ok ps L hl).mono fun r o h => ?_)
  unfold ddL
  split at h
  · rename_i h0
    rw [if_pos h0, h0]
    exact .inl h
  · rename_i h0
    rw [if_neg h0]
    exact .inl h
end Go.Proofs.YtpjjjonplikilaaGreat

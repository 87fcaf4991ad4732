/- lands: neighbours -/
import Derived.Test.YtfhckmlmfigfjaaGreatDoorLand
set_option linter.unusedVariables false
set_option linter.unusedSimpArgs false
namespace Go.Proofs.YtfhckmlmfigfjaaGreatDoor
open Go.AG

/-- the k-th neighbour, if there is one -/
def ngh (l : Ld) (c : Int) : Nat → List Int
  | 0 => if 0 < c / l.cols then [c - l.cols] else []
  | 1 => if 0 < c % l.cols then [c - 1] else []
  | 2 => if c % l.cols < l.cols - 1 then [c + 1] else []
  | 3 => if c / l.cols < l.rows - 1 then [c + l.cols] else []
  | _ => []
def nearK (l : Ld) (c : Int) : Nat → List Int
  | 0 => []
  | k + 1 => nearK l c k ++ ngh l c k
def near (l : Ld) (c : Int) : List Int := nearK l c 4
theorem ngh_len (l : Ld) (c : Int) (k : Nat) : (ngh l c k).length ≤ 1 := by
  unfold ngh; split <;> (try split) <;> simp
theorem nearK_len (l : Ld) (c : Int) (k : Nat) : (nearK l c k).length ≤ k := by
  induction k with
  | zero => simp [nearK]
  | succ k ih => simp only [nearK, List.length_append]; have := ngh_len l c k; omega
/-- the cell of a land: its row and its column -/
structure Cl (l : Ld) (c : Int) : Prop where
  fr : 1 ≤ l.rows ∧ l.rows ≤ 12
  fk : 1 ≤ l.cols ∧ l.cols ≤ 12
  fn : (l.hs.length : Int) = l.rows * l.cols
  fc : 0 ≤ c ∧ c < l.hs.length
  frm : 0 ≤ c / l.cols ∧ c / l.cols < l.rows
  fcm : 0 ≤ c % l.cols ∧ c % l.cols < l.cols
  feq : c / l.cols * l.cols + c % l.cols = c
  fs : (l.hs.length : Int) ≤ 144
theorem Cl.of {l : Ld} {c : Int} (h : okL l = true) (hc : 0 ≤ c ∧ c < l.hs.length) : Cl l c := by
  simp only [okL, Bool.and_eq_true, decide_eq_true_eq] at h
  obtain ⟨⟨⟨h1, h2⟩, h3⟩, h4⟩ := h
  have hm := mul12 h1 h2
  refine ⟨h1, h2, h3, hc, ⟨Int.ediv_nonneg hc.1 (by omega), ?_⟩, ⟨Int.emod_nonneg _ (by omega), Int.emod_lt_of_pos _ (by omega)⟩, by rw [Int.mul_comm]; exact Int.mul_ediv_add_emod c l.cols, by omega⟩
  rw [Int.ediv_lt_iff_lt_mul (by omega)]
  omega
theorem okL_h {l : Ld} (h : okL l = true) (i : Nat) (hi : i < l.hs.length) : -2000 ≤ gi l.hs i ∧ gi l.hs i ≤ 2000 := by
  simp only [okL, Bool.and_eq_true, List.all_eq_true, decide_eq_true_eq] at h
  exact h.2 _ (gi_mem _ _ hi)

theorem cell_ok (l : Ld) (r q : Int) : ACalls Tryz.prog 127 [.agg (lC l), I r, I q] []
    (fun x o => x = .tup [I (IntKind.wrap .i64 (IntKind.wrap .i64 (r * l.cols) + q)), B (decide (0 ≤ r ∧ r ≤ IntKind.wrap .i64 (l.rows - 1)) && decide (0 ≤ q ∧ q ≤ IntKind.wrap .i64 (l.cols - 1)))] ∧ o = []) := by
  refine ACalls.of_vc Tryz.func127 rfl (by decide) 26 rfl [.tmp 6, .tmp 7] rfl (by simp) ?_
  unfold lC
  (repeat (first | simp (maxSteps := 2000000) (disch := omega) only [go_sem, ↓reduceIte] | with_reducible refine vIf_t ?_ | with_reducible refine vIf_f ?_))
  (refine vDraw_of mixed (by kernel_rfl) ?_; (repeat (first | simp (maxSteps := 2000000) (disch := omega) only [go_sem, ↓reduceIte] | with_reducible refine vIf_t ?_ | with_reducible refine vIf_f ?_)))
  (refine vqCall_eq (in_ok r 0 (IntKind.wrap .i64 (l.rows - 1))) (by simp (disch := omega) only [go_sem]) rfl ?_; (repeat (first | simp (maxSteps := 2000000) (disch := omega) only [go_sem, ↓reduceIte] | with_reducible refine vIf_t ?_ | with_reducible refine vIf_f ?_)))
  refine vqGuard_any (fun g1 => ?_) (fun g1 => ?_)
  · (repeat (first | simp (maxSteps := 2000000) (disch := omega) only [go_sem, ↓reduceIte, g1] | with_reducible refine vIf_t ?_ | with_reducible refine vIf_f ?_))
    (refine vqCall_eq (in_ok q 0 (IntKind.wrap .i64 (l.cols - 1))) (by simp (disch := omega) only [go_sem]) rfl ?_; (repeat (first | simp (maxSteps := 2000000) (disch := omega) only [go_sem, ↓reduceIte] | with_reducible refine vIf_t ?_ | with_reducible refine vIf_f ?_)))
    (try (repeat (first | simp (maxSteps := 2000000) (disch := omega) only [go_sem, ↓reduceIte, g1] | with_reducible refine vIf_t ?_ | with_reducible refine vIf_f ?_)))
    (refine retK_of ?_; (repeat (first | simp (maxSteps := 2000000) (disch := omega) only [go_sem, ↓reduceIte] | with_reducible refine vIf_t ?_ | with_reducible refine vIf_f ?_)))
  · have g1 : decide (0 ≤ r ∧ r ≤ IntKind.wrap .i64 (l.rows - 1)) = false := by simpa using g1
    (repeat (first | simp (maxSteps := 2000000) (disch := omega) only [go_sem, ↓reduceIte, g1] | with_reducible refine vIf_t ?_ | with_reducible refine vIf_f ?_))
    (refine retK_of ?_; (repeat (first | simp (maxSteps := 2000000) (disch := omega) only [go_sem, ↓reduceIte] | with_reducible refine vIf_t ?_ | with_reducible refine vIf_f ?_)))
/-- the steps to the neighbours -/
def stp : List Int := [-1, 0, 0, -1, 0, 1, 1, 0]
end Go.Proofs.YtfhckmlmfigfjaaGreatDoor

/- shares: the specification's way, and the codes -/
import Derived.Test.YthnphcinjchloaaDivP
import Derived.Test.YthnphcinjchloaaShr3
import Derived.Test.YthnphcinjchloaaBilV
import Derived.Test.YthnphcinjchloaaX2
set_option linter.unusedVariables false
set_option linter.unusedSimpArgs false
namespace Go.Proofs.Ythnphcinjchloaa
open Go.AG Go.Lib

theorem rI_take (T : Int) (ws : List Int) (k : Nat) (h : k < ws.length) : (rI T ws).take (k + 1) = (rI T ws).take k ++ [T * gi ws k % sumI ws] := by
  rw [take_succ_gi _ _ (by rw [rI_len]; exact h), rI, gi_map _ _ _ h]
theorem mrk_take (b L : List Int) (k : Nat) (h : k < L.length) : mrk b (L.take (k + 1)) = (mrk b (L.take k)).set (gi L k).toNat (-1) := by
  rw [take_succ_gi _ _ h, mrk_snoc]
@[local go_sem] theorem sub_sum0 (T : Int) : T - sumI [] = T := by simp [sumI_nil]
@[local go_sem] theorem mrk_nil (b : List Int) : mrk b [] = b := rfl
@[local go_sem] theorem incr_nil4 (b : List Int) : incr b [] = b := rfl
set_option maxHeartbeats 4000000 in
theorem l02Share_ok (T : Int) (ws : List Int) (h : ShOk T ws) (hl : 1 ≤ ws.length ∧ ws.length ≤ 60) : ACalls Try.prog 106 [I T, iS ws, I (sumI ws)] [] (fun r o => r = .ref 0 0 ws.length ∧ o = [oI (shV T ws)]) := by
  have hSp := h.s
  have hbase : ∀ k, k ≤ ws.length → 0 ≤ sumI ((bI T ws).take k) ∧ sumI ((bI T ws).take k) ≤ 60 * 1000000000 := fun k hk => by
    have hm : ∀ x ∈ (bI T ws).take k, 0 ≤ x ∧ x ≤ 1000000000 := fun x hx => by
      obtain ⟨y, hy, rfl⟩ := List.mem_map.1 (List.mem_of_mem_take hx)
      have hb := mul_bd T y h.t (h.w y hy)
      have h1 := Int.ediv_nonneg hb.1 (show 0 ≤ sumI ws by omega)
      have h2 := base_le h y hy
      have := h.t
      omega
    have hlt : ((bI T ws).take k).length ≤ 60 := by rw [List.length_take, bI_len]; omega
    have h2 := (wsum_eq ((bI T ws).take k) 1000000000 (by omega) (fun x hx => by have := hm x hx; omega) (by omega)).2.2
    have h3 := (mem_le_sum _ (fun x hx => (hm x hx).1)).1
    omega
  refine ACalls.of_vc Try.func106 rfl (by decide) 76 rfl [.tmp 6] rfl (by simp) ?_
  unfold iS
  (repeat (first | simp (maxSteps := 2000000) (disch := omega) only [go_sem, ↓reduceIte, Nat.reduceEqDiff, Nat.reduceAdd, Nat.reduceMul, Nat.reduceSub, Int.reduceToNat, Int.reduceAdd, Int.reduceSub, Int.reduceMul, Int.reduceNeg] | with_reducible refine vIf_t ?_ | with_reducible refine vIf_f ?_))
  refine vcLoop_invF (fun k : Nat => k ≤ ws.length) (fun k => ⟨76, 0, [(10, I k), (2, I (sumI ws)), (9, I (T - sumI ((bI T ws).take k))), (8, .ref 0 0 k), (7, .ref 1 0 k), (1, .sl ws.length (ints ws)), (0, I T)], [oI ((rI T ws).take k), oI ((bI T ws).take k)]⟩) (fun k => ws.length - k) 0 (by omega) (by (first | (refine leF_s ?_; ((repeat (first | simp (maxSteps := 2000000) (disch := omega) only [go_sem, ↓reduceIte, Nat.reduceEqDiff, Nat.reduceAdd, Nat.reduceMul, Nat.reduceSub, Int.reduceToNat, Int.reduceAdd, Int.reduceSub, Int.reduceMul, Int.reduceNeg] | with_reducible refine vIf_t ?_ | with_reducible refine vIf_f ?_)); all_goals (try simp); all_goals (try omega)); done) | (refine leF_p ?_; ((repeat (first | simp (maxSteps := 2000000) (disch := omega) only [go_sem, ↓reduceIte, Nat.reduceEqDiff, Nat.reduceAdd, Nat.reduceMul, Nat.reduceSub, Int.reduceToNat, Int.reduceAdd, Int.reduceSub, Int.reduceMul, Int.reduceNeg] | with_reducible refine vIf_t ?_ | with_reducible refine vIf_f ?_)); all_goals (try simp); all_goals (try omega)); done))) ?_
  intro k hk
  have l1 : ((rI T ws).take k).length = k := by rw [List.length_take, rI_len]; omega
  have l2 : ((bI T ws).take k).length = k := by rw [List.length_take, bI_len]; omega
  (repeat (first | simp (maxSteps := 2000000) (disch := omega) only [go_sem, ↓reduceIte, Nat.reduceEqDiff, Nat.reduceAdd, Nat.reduceMul, Nat.reduceSub, Int.reduceToNat, Int.reduceAdd, Int.reduceSub, Int.reduceMul, Int.reduceNeg] | with_reducible refine vIf_t ?_ | with_reducible refine vIf_f ?_))
  refine vIf_dec (fun hh => ?_) (fun hh => ?_)
  · have hb := mul_bd T _ h.t (h.wi k)
    have e1 : (IntKind.wrap .i64 (T * gi ws k)) = T * gi ws k := (wrap_small _ hb).1
    have e2 := Int.tdiv_eq_ediv_of_nonneg (a := T * gi ws k) (b := sumI ws) hb.1
    have e2m := Int.tmod_eq_emod_of_nonneg (a := T * gi ws k) (b := sumI ws) hb.1
    have e0 : sumI ws ≠ 0 := by omega
    have e3 : IntKind.wrap .i64 (T * gi ws k / sumI ws) = T * gi ws k / sumI ws := (wrap_small _ ⟨Int.ediv_nonneg hb.1 (by omega), by have := Int.ediv_le_self (sumI ws) hb.1; omega⟩).1
    have l3 := bI_take T ws k (by omega)
    have l4 := rI_take T ws k (by omega)
    have hk1 := hbase k hk
    have hk2 := hbase (k + 1) (by omega)
    have hd : T - sumI ((bI T ws).take k) - T * gi ws k / sumI ws = T - sumI ((bI T ws).take (k + 1)) := by rw [l3, sumI_append, sumI_cons, sumI_nil]; omega
    have e5 : IntKind.wrap .i64 (T - sumI ((bI T ws).take k) - T * gi ws k / sumI ws) = T - sumI ((bI T ws).take (k + 1)) := by
      rw [hd]
      have := h.t
      simp [IntKind.wrap, IntKind.bits, IntKind.signed]; omega
    (repeat (first | simp (maxSteps := 2000000) (disch := omega) only [go_sem, ↓reduceIte, Nat.reduceEqDiff, Nat.reduceAdd, Nat.reduceMul, Nat.reduceSub, Int.reduceToNat, Int.reduceAdd, Int.reduceSub, Int.reduceMul, Int.reduceNeg, e1, e2, e2m, e3, e5, l1, l2] | with_reducible refine vIf_t ?_ | with_reducible refine vIf_f ?_))
    rw [← l3, ← l4]
    refine againF (k + 1) ?_ ?_ (by (first | (refine leF_s ?_; ((repeat (first | simp (maxSteps := 2000000) (disch := omega) only [go_sem, ↓reduceIte, Nat.reduceEqDiff, Nat.reduceAdd, Nat.reduceMul, Nat.reduceSub, Int.reduceToNat, Int.reduceAdd, Int.reduceSub, Int.reduceMul, Int.reduceNeg] | with_reducible refine vIf_t ?_ | with_reducible refine vIf_f ?_)); all_goals (try simp); all_goals (try omega)); done) | (refine leF_p ?_; ((repeat (first | simp (maxSteps := 2000000) (disch := omega) only [go_sem, ↓reduceIte, Nat.reduceEqDiff, Nat.reduceAdd, Nat.reduceMul, Nat.reduceSub, Int.reduceToNat, Int.reduceAdd, Int.reduceSub, Int.reduceMul, Int.reduceNeg] | with_reducible refine vIf_t ?_ | with_reducible refine vIf_f ?_)); all_goals (try simp); all_goals (try omega)); done)))
    · omega
    · omega
  · have hke : k = ws.length := by omega
    subst hke
    have e5 : (bI T ws).take ws.length = bI T ws := List.take_of_length_le (by rw [bI_len]; omega)
    have e6 : (rI T ws).take ws.length = rI T ws := List.take_of_length_le (by rw [rI_len]; omega)
    have hd := rest_bd h
    have ol := ordV_len T (sumI ws) ws
    have e7 : T - sumI (bI T ws) = dI T ws := rfl
    rw [e5, e6, e7]
    (repeat (first | simp (maxSteps := 2000000) (disch := omega) only [go_sem, ↓reduceIte, Nat.reduceEqDiff, Nat.reduceAdd, Nat.reduceMul, Nat.reduceSub, Int.reduceToNat, Int.reduceAdd, Int.reduceSub, Int.reduceMul, Int.reduceNeg] | with_reducible refine vIf_t ?_ | with_reducible refine vIf_f ?_))
    refine vcLoop_invF (fun j : Nat => j ≤ (dI T ws).toNat) (fun j => ⟨76, 0, [(8, .ref 0 0 ws.length), (9, I (dI T ws - j)), (7, .ref 1 0 ws.length)], [oI (mrk (rI T ws) ((ordV T (sumI ws) ws).take j)), oI (incr (bI T ws) ((ordV T (sumI ws) ws).take j))]⟩) (fun j => (dI T ws).toNat - j) 0 (by omega) (by (first | (refine leF_s ?_; ((repeat (first | simp (maxSteps := 2000000) (disch := omega) only [go_sem, ↓reduceIte, Nat.reduceEqDiff, Nat.reduceAdd, Nat.reduceMul, Nat.reduceSub, Int.reduceToNat, Int.reduceAdd, Int.reduceSub, Int.reduceMul, Int.reduceNeg] | with_reducible refine vIf_t ?_ | with_reducible refine vIf_f ?_)); all_goals (try simp); all_goals (try omega)); done) | (refine leF_p ?_; ((repeat (first | simp (maxSteps := 2000000) (disch := omega) only [go_sem, ↓reduceIte, Nat.reduceEqDiff, Nat.reduceAdd, Nat.reduceMul, Nat.reduceSub, Int.reduceToNat, Int.reduceAdd, Int.reduceSub, Int.reduceMul, Int.reduceNeg] | with_reducible refine vIf_t ?_ | with_reducible refine vIf_f ?_)); all_goals (try simp); all_goals (try omega)); done))) ?_
    intro j hj
    have rl : (mrk (rI T ws) ((ordV T (sumI ws) ws).take j)).length = ws.length := by rw [mrk_len, rI_len]
    have hil : (incr (bI T ws) ((ordV T (sumI ws) ws).take j)).length = ws.length := by rw [incr_len, bI_len]
    (repeat (first | simp (maxSteps := 2000000) (disch := omega) only [go_sem, ↓reduceIte, Nat.reduceEqDiff, Nat.reduceAdd, Nat.reduceMul, Nat.reduceSub, Int.reduceToNat, Int.reduceAdd, Int.reduceSub, Int.reduceMul, Int.reduceNeg] | with_reducible refine vIf_t ?_ | with_reducible refine vIf_f ?_))
    refine vIf_dec (fun hh => ?_) (fun hh => ?_)
    · (repeat (first | simp (maxSteps := 2000000) (disch := omega) only [go_sem, ↓reduceIte, Nat.reduceEqDiff, Nat.reduceAdd, Nat.reduceMul, Nat.reduceSub, Int.reduceToNat, Int.reduceAdd, Int.reduceSub, Int.reduceMul, Int.reduceNeg] | with_reducible refine vIf_t ?_ | with_reducible refine vIf_f ?_))
      have hjl : j < ws.length := by omega
      have hm := amx_ord h j hjl
      have oa := ord_at (T := T) (S := sumI ws) (ws := ws) j hjl
      refine vcLoop_invF (fun i : Nat => 1 ≤ i ∧ i ≤ ws.length) (fun i => ⟨76, 0, [(13, I i), (12, I (amx (mrk (rI T ws) ((ordV T (sumI ws) ws).take j)) i)), (8, .ref 0 0 ws.length), (7, .ref 1 0 ws.length), (9, I (dI T ws - j))], [oI (mrk (rI T ws) ((ordV T (sumI ws) ws).take j)), oI (incr (bI T ws) ((ordV T (sumI ws) ws).take j))]⟩) (fun i => ws.length - i) 1 (by omega) (by rw [amx_one]; (first | (refine leF_s ?_; ((repeat (first | simp (maxSteps := 2000000) (disch := omega) only [go_sem, ↓reduceIte, Nat.reduceEqDiff, Nat.reduceAdd, Nat.reduceMul, Nat.reduceSub, Int.reduceToNat, Int.reduceAdd, Int.reduceSub, Int.reduceMul, Int.reduceNeg] | with_reducible refine vIf_t ?_ | with_reducible refine vIf_f ?_)); all_goals (try simp); all_goals (try omega)); done) | (refine leF_p ?_; ((repeat (first | simp (maxSteps := 2000000) (disch := omega) only [go_sem, ↓reduceIte, Nat.reduceEqDiff, Nat.reduceAdd, Nat.reduceMul, Nat.reduceSub, Int.reduceToNat, Int.reduceAdd, Int.reduceSub, Int.reduceMul, Int.reduceNeg] | with_reducible refine vIf_t ?_ | with_reducible refine vIf_f ?_)); all_goals (try simp); all_goals (try omega)); done))) ?_
      intro i ⟨hi1, hi2⟩
      have hal := amx_lt (mrk (rI T ws) ((ordV T (sumI ws) ws).take j)) i hi1
      (repeat (first | simp (maxSteps := 2000000) (disch := omega) only [go_sem, ↓reduceIte, Nat.reduceEqDiff, Nat.reduceAdd, Nat.reduceMul, Nat.reduceSub, Int.reduceToNat, Int.reduceAdd, Int.reduceSub, Int.reduceMul, Int.reduceNeg] | with_reducible refine vIf_t ?_ | with_reducible refine vIf_f ?_))
      refine vIf_dec (fun h3 => ?_) (fun h3 => ?_)
      · (repeat (first | simp (maxSteps := 2000000) (disch := omega) only [go_sem, ↓reduceIte, Nat.reduceEqDiff, Nat.reduceAdd, Nat.reduceMul, Nat.reduceSub, Int.reduceToNat, Int.reduceAdd, Int.reduceSub, Int.reduceMul, Int.reduceNeg] | with_reducible refine vIf_t ?_ | with_reducible refine vIf_f ?_))
        (refine vDraw_of mixed (by kernel_rfl) ?_; (repeat (first | simp (maxSteps := 2000000) (disch := omega) only [go_sem, ↓reduceIte, Nat.reduceEqDiff, Nat.reduceAdd, Nat.reduceMul, Nat.reduceSub, Int.reduceToNat, Int.reduceAdd, Int.reduceSub, Int.reduceMul, Int.reduceNeg] | with_reducible refine vIf_t ?_ | with_reducible refine vIf_f ?_)))
        (try (repeat (first | simp (maxSteps := 2000000) (disch := omega) only [go_sem, ↓reduceIte, Nat.reduceEqDiff, Nat.reduceAdd, Nat.reduceMul, Nat.reduceSub, Int.reduceToNat, Int.reduceAdd, Int.reduceSub, Int.reduceMul, Int.reduceNeg, rl] | with_reducible refine vIf_t ?_ | with_reducible refine vIf_f ?_)))
        refine vIf_dec (fun h4 => ?_) (fun h4 => ?_)
        · have ea : amx (mrk (rI T ws) ((ordV T (sumI ws) ws).take j)) (i + 1) = i := by rw [amx, if_pos (by omega)]
          (repeat (first | simp (maxSteps := 2000000) (disch := omega) only [go_sem, ↓reduceIte, Nat.reduceEqDiff, Nat.reduceAdd, Nat.reduceMul, Nat.reduceSub, Int.reduceToNat, Int.reduceAdd, Int.reduceSub, Int.reduceMul, Int.reduceNeg] | with_reducible refine vIf_t ?_ | with_reducible refine vIf_f ?_))
          refine againF (i + 1) (by omega) (by omega) ?_
          rw [ea]
          (first | (refine leF_s ?_; ((repeat (first | simp (maxSteps := 2000000) (disch := omega) only [go_sem, ↓reduceIte, Nat.reduceEqDiff, Nat.reduceAdd, Nat.reduceMul, Nat.reduceSub, Int.reduceToNat, Int.reduceAdd, Int.reduceSub, Int.reduceMul, Int.reduceNeg] | with_reducible refine vIf_t ?_ | with_reducible refine vIf_f ?_)); all_goals (try simp); all_goals (try omega)); done) | (refine leF_p ?_; ((repeat (first | simp (maxSteps := 2000000) (disch := omega) only [go_sem, ↓reduceIte, Nat.reduceEqDiff, Nat.reduceAdd, Nat.reduceMul, Nat.reduceSub, Int.reduceToNat, Int.reduceAdd, Int.reduceSub, Int.reduceMul, Int.reduceNeg] | with_reducible refine vIf_t ?_ | with_reducible refine vIf_f ?_)); all_goals (try simp); all_goals (try omega)); done))
        · have ea : amx (mrk (rI T ws) ((ordV T (sumI ws) ws).take j)) (i + 1) = amx (mrk (rI T ws) ((ordV T (sumI ws) ws).take j)) i := by rw [amx, if_neg (by omega)]
          (repeat (first | simp (maxSteps := 2000000) (disch := omega) only [go_sem, ↓reduceIte, Nat.reduceEqDiff, Nat.reduceAdd, Nat.reduceMul, Nat.reduceSub, Int.reduceToNat, Int.reduceAdd, Int.reduceSub, Int.reduceMul, Int.reduceNeg] | with_reducible refine vIf_t ?_ | with_reducible refine vIf_f ?_))
          refine againF (i + 1) (by omega) (by omega) ?_
          rw [ea]
          (first | (refine leF_s ?_; ((repeat (first | simp (maxSteps := 2000000) (disch := omega) only [go_sem, ↓reduceIte, Nat.reduceEqDiff, Nat.reduceAdd, Nat.reduceMul, Nat.reduceSub, Int.reduceToNat, Int.reduceAdd, Int.reduceSub, Int.reduceMul, Int.reduceNeg] | with_reducible refine vIf_t ?_ | with_reducible refine vIf_f ?_)); all_goals (try simp); all_goals (try omega)); done) | (refine leF_p ?_; ((repeat (first | simp (maxSteps := 2000000) (disch := omega) only [go_sem, ↓reduceIte, Nat.reduceEqDiff, Nat.reduceAdd, Nat.reduceMul, Nat.reduceSub, Int.reduceToNat, Int.reduceAdd, Int.reduceSub, Int.reduceMul, Int.reduceNeg] | with_reducible refine vIf_t ?_ | with_reducible refine vIf_f ?_)); all_goals (try simp); all_goals (try omega)); done))
      · have hie : i = ws.length := by omega
        subst hie
        rw [hm]
        have ht := incr_take (bI T ws) (ordV T (sumI ws) ws) j (by omega)
        have ht2 := mrk_take (rI T ws) (ordV T (sumI ws) ws) j (by omega)
        have hw1 : IntKind.wrap .i64 (gi (incr (bI T ws) ((ordV T (sumI ws) ws).take j)) (gi (ordV T (sumI ws) ws) j).toNat + 1) = gi (incr (bI T ws) ((ordV T (sumI ws) ws).take j)) (gi (ordV T (sumI ws) ws) j).toNat + 1 := by
          have hb := incr_bd h j (gi (ordV T (sumI ws) ws) j).toNat (by omega)
          have := h.t
          exact (wrap_small _ ⟨by omega, by omega⟩).1
        (repeat (first | simp (maxSteps := 2000000) (disch := omega) only [go_sem, ↓reduceIte, Nat.reduceEqDiff, Nat.reduceAdd, Nat.reduceMul, Nat.reduceSub, Int.reduceToNat, Int.reduceAdd, Int.reduceSub, Int.reduceMul, Int.reduceNeg, rl, hil, hw1, ← ht, ← ht2] | with_reducible refine vIf_t ?_ | with_reducible refine vIf_f ?_))
        refine againF (j + 1) ?_ ?_ (by (first | (refine leF_s ?_; ((repeat (first | simp (maxSteps := 2000000) (disch := omega) only [go_sem, ↓reduceIte, Nat.reduceEqDiff, Nat.reduceAdd, Nat.reduceMul, Nat.reduceSub, Int.reduceToNat, Int.reduceAdd, Int.reduceSub, Int.reduceMul, Int.reduceNeg] | with_reducible refine vIf_t ?_ | with_reducible refine vIf_f ?_)); all_goals (try simp); all_goals (try omega)); done) | (refine leF_p ?_; ((repeat (first | simp (maxSteps := 2000000) (disch := omega) only [go_sem, ↓reduceIte, Nat.reduceEqDiff, Nat.reduceAdd, Nat.reduceMul, Nat.reduceSub, Int.reduceToNat, Int.reduceAdd, Int.reduceSub, Int.reduceMul, Int.reduceNeg] | with_reducible refine vIf_t ?_ | with_reducible refine vIf_f ?_)); all_goals (try simp); all_goals (try omega)); done)))
        · omega
        · omega
    · (repeat (first | simp (maxSteps := 2000000) (disch := omega) only [go_sem, ↓reduceIte, Nat.reduceEqDiff, Nat.reduceAdd, Nat.reduceMul, Nat.reduceSub, Int.reduceToNat, Int.reduceAdd, Int.reduceSub, Int.reduceMul, Int.reduceNeg] | with_reducible refine vIf_t ?_ | with_reducible refine vIf_f ?_))
      (refine retK_of ?_; (repeat (first | simp (maxSteps := 2000000) (disch := omega) only [go_sem, ↓reduceIte, Nat.reduceEqDiff, Nat.reduceAdd, Nat.reduceMul, Nat.reduceSub, Int.reduceToNat, Int.reduceAdd, Int.reduceSub, Int.reduceMul, Int.reduceNeg] | with_reducible refine vIf_t ?_ | with_reducible refine vIf_f ?_)))
      rw [shV, show j = (dI T ws).toNat by omega]
/-- the code of sharing -/
def soC (T : Int) (ws : List Int) : Int := if (ws.all fun x => decide (0 ≤ x ∧ x ≤ 1000000000)) = true ∧ ws.length ≤ 60 ∧ sumI ws ≤ 1000000000 ∧ 0 ≤ T ∧ T ≤ 1000000000 then (if sumI ws = 0 then 6 else 0) else 2
theorem soC_ok {T : Int} {ws : List Int} (h : soC T ws = 0) : ShOk T ws ∧ 1 ≤ ws.length ∧ ws.length ≤ 60 ∧ sumI ws ≤ 1000000000 := by
  unfold soC at h
  split at h
  case isFalse => omega
  rename_i hc
  obtain ⟨h1, h2, h3, h4⟩ := hc
  split at h
  · omega
  rename_i h5
  have hm : ∀ x ∈ ws, 0 ≤ x ∧ x ≤ 1000000000 := fun x hx => of_decide_eq_true (List.all_eq_true.1 h1 x hx)
  have h6 := (mem_le_sum ws fun x hx => (hm x hx).1).1
  refine ⟨⟨h4, hm, h2, by omega⟩, ?_, h2, h3⟩
  cases ws with
  | nil => exact absurd sumI_nil h5
  | cons x r => simp
theorem soC_cases (T : Int) (ws : List Int) : soC T ws = 0 ∨ soC T ws = 2 ∨ soC T ws = 6 := by
  unfold soC
  split
  · split <;> omega
  · omega
theorem sum_small {ws : List Int} (h1 : (ws.all fun x => decide (0 ≤ x ∧ x ≤ 1000000000)) = true) (h2 : ws.length ≤ 60) : wsum ws = sumI ws ∧ 0 ≤ sumI ws := by
  have hm : ∀ x ∈ ws, 0 ≤ x ∧ x ≤ 1000000000 := fun x hx => of_decide_eq_true (List.all_eq_true.1 h1 x hx)
  exact ⟨(wsum_eq ws 1000000000 (by omega) (fun x hx => by have := hm x hx; omega) (by omega)).1, (mem_le_sum ws fun x hx => (hm x hx).1).1⟩
set_option maxHeartbeats 4000000 in
theorem shareO_ok (T : Int) (ws : List Int) (hl : ws.length ≤ 1000000) : ACalls Try.prog 32 [I T, iS ws] [] (fun r o => if soC T ws = 0 then r = .tup [.ref 0 0 ws.length, I 0] ∧ o = [oI (shV T ws)] else r = .tup [.ref 0 0 0, I (soC T ws)] ∧ o = [oI []]) := by
  have hall := all_ok 103 [] (fun x => decide (0 ≤ x ∧ x ≤ 1000000000)) ws (fun x _ => isShared_ok x) rfl (by omega)
  have hsum := sum_ok ws (by omega)
  have hc0 : soC T ws = 0 → ACalls Try.prog 105 [I T, iS ws] [] (fun r o => r = .ref 0 0 ws.length ∧ o = [oI (shV T ws)]) := fun h => shareOut_ok T ws (soC_ok h).1 ⟨(soC_ok h).2.1, (soC_ok h).2.2.1⟩
  refine ACalls.of_vc Try.func32 rfl (by decide) 35 rfl [.tmp 4, .tmp 5] rfl (by simp) ?_
  unfold iS at hall hsum hc0 ⊢
  (repeat (first | simp (maxSteps := 2000000) (disch := omega) only [go_sem, ↓reduceIte, Nat.reduceEqDiff, Nat.reduceAdd, Nat.reduceMul, Nat.reduceSub, Int.reduceToNat, Int.reduceAdd, Int.reduceSub, Int.reduceMul, Int.reduceNeg] | with_reducible refine vIf_t ?_ | with_reducible refine vIf_f ?_))
  (refine vCallX_of ?_; (repeat (first | simp (maxSteps := 2000000) (disch := omega) only [go_sem, ↓reduceIte, Nat.reduceEqDiff, Nat.reduceAdd, Nat.reduceMul, Nat.reduceSub, Int.reduceToNat, Int.reduceAdd, Int.reduceSub, Int.reduceMul, Int.reduceNeg] | with_reducible refine vIf_t ?_ | with_reducible refine vIf_f ?_)); refine vCall_eq (hall) (by simp (disch := omega) only [go_sem, Nat.reduceAdd]) rfl (by first | exact Or.inl rfl | exact Or.inr ⟨rfl, rfl⟩ | (apply Or.inr; simp only [go_sem])) ?_; (repeat (first | simp (maxSteps := 2000000) (disch := omega) only [go_sem, ↓reduceIte, Nat.reduceEqDiff, Nat.reduceAdd, Nat.reduceMul, Nat.reduceSub, Int.reduceToNat, Int.reduceAdd, Int.reduceSub, Int.reduceMul, Int.reduceNeg] | with_reducible refine vIf_t ?_ | with_reducible refine vIf_f ?_)))
  by_cases h1 : (ws.all fun x => decide (0 ≤ x ∧ x ≤ 1000000000)) = true
  · (repeat (first | simp (maxSteps := 2000000) (disch := omega) only [go_sem, ↓reduceIte, Nat.reduceEqDiff, Nat.reduceAdd, Nat.reduceMul, Nat.reduceSub, Int.reduceToNat, Int.reduceAdd, Int.reduceSub, Int.reduceMul, Int.reduceNeg, h1] | with_reducible refine vIf_t ?_ | with_reducible refine vIf_f ?_))
    by_cases h2 : ws.length ≤ 60
    · obtain ⟨e1, e2⟩ := sum_small h1 h2
      rw [e1] at hsum
      have h2b : decide (60 < (ws.length : Int)) = false := decide_eq_false (by omega)
      (repeat (first | simp (maxSteps := 2000000) (disch := omega) only [go_sem, ↓reduceIte, Nat.reduceEqDiff, Nat.reduceAdd, Nat.reduceMul, Nat.reduceSub, Int.reduceToNat, Int.reduceAdd, Int.reduceSub, Int.reduceMul, Int.reduceNeg, h2b] | with_reducible refine vIf_t ?_ | with_reducible refine vIf_f ?_))
      (refine vCallX_of ?_; (repeat (first | simp (maxSteps := 2000000) (disch := omega) only [go_sem, ↓reduceIte, Nat.reduceEqDiff, Nat.reduceAdd, Nat.reduceMul, Nat.reduceSub, Int.reduceToNat, Int.reduceAdd, Int.reduceSub, Int.reduceMul, Int.reduceNeg] | with_reducible refine vIf_t ?_ | with_reducible refine vIf_f ?_)); refine vCall_eq (hsum) (by simp (disch := omega) only [go_sem, Nat.reduceAdd]) rfl (by first | exact Or.inl rfl | exact Or.inr ⟨rfl, rfl⟩ | (apply Or.inr; simp only [go_sem])) ?_; (repeat (first | simp (maxSteps := 2000000) (disch := omega) only [go_sem, ↓reduceIte, Nat.reduceEqDiff, Nat.reduceAdd, Nat.reduceMul, Nat.reduceSub, Int.reduceToNat, Int.reduceAdd, Int.reduceSub, Int.reduceMul, Int.reduceNeg] | with_reducible refine vIf_t ?_ | with_reducible refine vIf_f ?_)))
      (refine vCallX_of ?_; (repeat (first | simp (maxSteps := 2000000) (disch := omega) only [go_sem, ↓reduceIte, Nat.reduceEqDiff, Nat.reduceAdd, Nat.reduceMul, Nat.reduceSub, Int.reduceToNat, Int.reduceAdd, Int.reduceSub, Int.reduceMul, Int.reduceNeg] | with_reducible refine vIf_t ?_ | with_reducible refine vIf_f ?_)); refine vCall_eq (isShared_ok (sumI ws)) (by simp (disch := omega) only [go_sem, Nat.reduceAdd]) rfl (by first | exact Or.inl rfl | exact Or.inr ⟨rfl, rfl⟩ | (apply Or.inr; simp only [go_sem])) ?_; (repeat (first | simp (maxSteps := 2000000) (disch := omega) only [go_sem, ↓reduceIte, Nat.reduceEqDiff, Nat.reduceAdd, Nat.reduceMul, Nat.reduceSub, Int.reduceToNat, Int.reduceAdd, Int.reduceSub, Int.reduceMul, Int.reduceNeg] | with_reducible refine vIf_t ?_ | with_reducible refine vIf_f ?_)))
      by_cases h3 : sumI ws ≤ 1000000000
      · have h3b : decide (0 ≤ sumI ws ∧ sumI ws ≤ 1000000000) = true := decide_eq_true ⟨e2, h3⟩
        (repeat (first | simp (maxSteps := 2000000) (disch := omega) only [go_sem, ↓reduceIte, Nat.reduceEqDiff, Nat.reduceAdd, Nat.reduceMul, Nat.reduceSub, Int.reduceToNat, Int.reduceAdd, Int.reduceSub, Int.reduceMul, Int.reduceNeg, h3b] | with_reducible refine vIf_t ?_ | with_reducible refine vIf_f ?_))
        (refine vCallX_of ?_; (repeat (first | simp (maxSteps := 2000000) (disch := omega) only [go_sem, ↓reduceIte, Nat.reduceEqDiff, Nat.reduceAdd, Nat.reduceMul, Nat.reduceSub, Int.reduceToNat, Int.reduceAdd, Int.reduceSub, Int.reduceMul, Int.reduceNeg] | with_reducible refine vIf_t ?_ | with_reducible refine vIf_f ?_)); refine vCall_eq (isShared_ok T) (by simp (disch := omega) only [go_sem, Nat.reduceAdd]) rfl (by first | exact Or.inl rfl | exact Or.inr ⟨rfl, rfl⟩ | (apply Or.inr; simp only [go_sem])) ?_; (repeat (first | simp (maxSteps := 2000000) (disch := omega) only [go_sem, ↓reduceIte, Nat.reduceEqDiff, Nat.reduceAdd, Nat.reduceMul, Nat.reduceSub, Int.reduceToNat, Int.reduceAdd, Int.reduceSub, Int.reduceMul, Int.reduceNeg] | with_reducible refine vIf_t ?_ | with_reducible refine vIf_f ?_)))
        by_cases h4 : 0 ≤ T ∧ T ≤ 1000000000
        · have h4b : decide (0 ≤ T ∧ T ≤ 1000000000) = true := decide_eq_true h4
          (repeat (first | simp (maxSteps := 2000000) (disch := omega) only [go_sem, ↓reduceIte, Nat.reduceEqDiff, Nat.reduceAdd, Nat.reduceMul, Nat.reduceSub, Int.reduceToNat, Int.reduceAdd, Int.reduceSub, Int.reduceMul, Int.reduceNeg, h4b] | with_reducible refine vIf_t ?_ | with_reducible refine vIf_f ?_))
          (refine vCallX_of ?_; (repeat (first | simp (maxSteps := 2000000) (disch := omega) only [go_sem, ↓reduceIte, Nat.reduceEqDiff, Nat.reduceAdd, Nat.reduceMul, Nat.reduceSub, Int.reduceToNat, Int.reduceAdd, Int.reduceSub, Int.reduceMul, Int.reduceNeg] | with_reducible refine vIf_t ?_ | with_reducible refine vIf_f ?_)); refine vCall_eq (hsum) (by simp (disch := omega) only [go_sem, Nat.reduceAdd]) rfl (by first | exact Or.inl rfl | exact Or.inr ⟨rfl, rfl⟩ | (apply Or.inr; simp only [go_sem])) ?_; (repeat (first | simp (maxSteps := 2000000) (disch := omega) only [go_sem, ↓reduceIte, Nat.reduceEqDiff, Nat.reduceAdd, Nat.reduceMul, Nat.reduceSub, Int.reduceToNat, Int.reduceAdd, Int.reduceSub, Int.reduceMul, Int.reduceNeg] | with_reducible refine vIf_t ?_ | with_reducible refine vIf_f ?_)))
          refine vIf_beq (fun h5 => ?_) (fun h5 => ?_)
          · have ec : soC T ws = 6 := by rw [soC, if_pos ⟨h1, h2, h3, h4⟩, if_pos h5]
            (repeat (first | simp (maxSteps := 2000000) (disch := omega) only [go_sem, ↓reduceIte, Nat.reduceEqDiff, Nat.reduceAdd, Nat.reduceMul, Nat.reduceSub, Int.reduceToNat, Int.reduceAdd, Int.reduceSub, Int.reduceMul, Int.reduceNeg] | with_reducible refine vIf_t ?_ | with_reducible refine vIf_f ?_))
            (refine retK_of ?_; (repeat (first | simp (maxSteps := 2000000) (disch := omega) only [go_sem, ↓reduceIte, Nat.reduceEqDiff, Nat.reduceAdd, Nat.reduceMul, Nat.reduceSub, Int.reduceToNat, Int.reduceAdd, Int.reduceSub, Int.reduceMul, Int.reduceNeg] | with_reducible refine vIf_t ?_ | with_reducible refine vIf_f ?_)))
            rw [ec]; simp
          · have ec : soC T ws = 0 := by rw [soC, if_pos ⟨h1, h2, h3, h4⟩, if_neg h5]
            have hs := hc0 ec
            (repeat (first | simp (maxSteps := 2000000) (disch := omega) only [go_sem, ↓reduceIte, Nat.reduceEqDiff, Nat.reduceAdd, Nat.reduceMul, Nat.reduceSub, Int.reduceToNat, Int.reduceAdd, Int.reduceSub, Int.reduceMul, Int.reduceNeg] | with_reducible refine vIf_t ?_ | with_reducible refine vIf_f ?_))
            (refine vCallX_of ?_; (repeat (first | simp (maxSteps := 2000000) (disch := omega) only [go_sem, ↓reduceIte, Nat.reduceEqDiff, Nat.reduceAdd, Nat.reduceMul, Nat.reduceSub, Int.reduceToNat, Int.reduceAdd, Int.reduceSub, Int.reduceMul, Int.reduceNeg] | with_reducible refine vIf_t ?_ | with_reducible refine vIf_f ?_)); refine vCall_eq (hs) (by simp (disch := omega) only [go_sem, Nat.reduceAdd]) rfl (by first | exact Or.inl rfl | exact Or.inr ⟨rfl, rfl⟩ | (apply Or.inr; simp only [go_sem])) ?_; (repeat (first | simp (maxSteps := 2000000) (disch := omega) only [go_sem, ↓reduceIte, Nat.reduceEqDiff, Nat.reduceAdd, Nat.reduceMul, Nat.reduceSub, Int.reduceToNat, Int.reduceAdd, Int.reduceSub, Int.reduceMul, Int.reduceNeg] | with_reducible refine vIf_t ?_ | with_reducible refine vIf_f ?_)))
            (refine retK_of ?_; (repeat (first | simp (maxSteps := 2000000) (disch := omega) only [go_sem, ↓reduceIte, Nat.reduceEqDiff, Nat.reduceAdd, Nat.reduceMul, Nat.reduceSub, Int.reduceToNat, Int.reduceAdd, Int.reduceSub, Int.reduceMul, Int.reduceNeg] | with_reducible refine vIf_t ?_ | with_reducible refine vIf_f ?_)))
            rw [ec]; simp
        · have h4b : decide (0 ≤ T ∧ T ≤ 1000000000) = false := decide_eq_false h4
          have ec : soC T ws = 2 := by rw [soC, if_neg (fun h => h4 h.2.2.2)]
          (repeat (first | simp (maxSteps := 2000000) (disch := omega) only [go_sem, ↓reduceIte, Nat.reduceEqDiff, Nat.reduceAdd, Nat.reduceMul, Nat.reduceSub, Int.reduceToNat, Int.reduceAdd, Int.reduceSub, Int.reduceMul, Int.reduceNeg, h4b] | with_reducible refine vIf_t ?_ | with_reducible refine vIf_f ?_))
          (refine retK_of ?_; (repeat (first | simp (maxSteps := 2000000) (disch := omega) only [go_sem, ↓reduceIte, Nat.reduceEqDiff, Nat.reduceAdd, Nat.reduceMul, Nat.reduceSub, Int.reduceToNat, Int.reduceAdd, Int.reduceSub, Int.reduceMul, Int.reduceNeg] | with_reducible refine vIf_t ?_ | with_reducible refine vIf_f ?_)))
          rw [ec]; simp
      · have h3b : decide (0 ≤ sumI ws ∧ sumI ws ≤ 1000000000) = false := decide_eq_false (fun h => h3 h.2)
        have ec : soC T ws = 2 := by rw [soC, if_neg (fun h => h3 h.2.2.1)]
        (repeat (first | simp (maxSteps := 2000000) (disch := omega) only [go_sem, ↓reduceIte, Nat.reduceEqDiff, Nat.reduceAdd, Nat.reduceMul, Nat.reduceSub, Int.reduceToNat, Int.reduceAdd, Int.reduceSub, Int.reduceMul, Int.reduceNeg, h3b] | with_reducible refine vIf_t ?_ | with_reducible refine vIf_f ?_))
        (refine retK_of ?_; (repeat (first | simp (maxSteps := 2000000) (disch := omega) only [go_sem, ↓reduceIte, Nat.reduceEqDiff, Nat.reduceAdd, Nat.reduceMul, Nat.reduceSub, Int.reduceToNat, Int.reduceAdd, Int.reduceSub, Int.reduceMul, Int.reduceNeg] | with_reducible refine vIf_t ?_ | with_reducible refine vIf_f ?_)))
        rw [ec]; simp
    · have h2b : decide (60 < (ws.length : Int)) = true := decide_eq_true (by omega)
      have ec : soC T ws = 2 := by rw [soC, if_neg (fun h => h2 h.2.1)]
      (repeat (first | simp (maxSteps := 2000000) (disch := omega) only [go_sem, ↓reduceIte, Nat.reduceEqDiff, Nat.reduceAdd, Nat.reduceMul, Nat.reduceSub, Int.reduceToNat, Int.reduceAdd, Int.reduceSub, Int.reduceMul, Int.reduceNeg, h2b] | with_reducible refine vIf_t ?_ | with_reducible refine vIf_f ?_))
      (refine retK_of ?_; (repeat (first | simp (maxSteps := 2000000) (disch := omega) only [go_sem, ↓reduceIte, Nat.reduceEqDiff, Nat.reduceAdd, Nat.reduceMul, Nat.reduceSub, Int.reduceToNat, Int.reduceAdd, Int.reduceSub, Int.reduceMul, Int.reduceNeg] | with_reducible refine vIf_t ?_ | with_reducible refine vIf_f ?_)))
      rw [ec]; simp
  · have h1b : (ws.all fun x => decide (0 ≤ x ∧ x ≤ 1000000000)) = false := by simpa using h1
    have ec : soC T ws = 2 := by rw [soC, if_neg (fun h => h1 h.1)]
    (repeat (first | simp (maxSteps := 2000000) (disch := omega) only [go_sem, ↓reduceIte, Nat.reduceEqDiff, Nat.reduceAdd, Nat.reduceMul, Nat.reduceSub, Int.reduceToNat, Int.reduceAdd, Int.reduceSub, Int.reduceMul, Int.reduceNeg, h1b] | with_reducible refine vIf_t ?_ | with_reducible refine vIf_f ?_))
    (refine retK_of ?_; (repeat (first | simp (maxSteps := 2000000) (disch := omega) only [go_sem, ↓reduceIte, Nat.reduceEqDiff, Nat.reduceAdd, Nat.reduceMul, Nat.reduceSub, Int.reduceToNat, Int.reduceAdd, Int.reduceSub, Int.reduceMul, Int.reduceNeg] | with_reducible refine vIf_t ?_ | with_reducible refine vIf_f ?_)))
    rw [ec]; simp
end Go.Proofs.Ythnphcinjchloaa

/- shareOut -/
import Derived.Test.YthnphcinjchloaaShr2
import Derived.Test.YthnphcinjchloaaX1
import Derived.Test.YthnphcinjchloaaDivP
import Derived.Test.YthnphcinjchloaaParcel2
set_option linter.unusedVariables false
set_option linter.unusedSimpArgs false
namespace Go.Proofs.Ythnphcinjchloaa
open Go.AG Go.Lib

theorem bI_take (T : Int) (ws : List Int) (k : Nat) (h : k < ws.length) : (bI T ws).take (k + 1) = (bI T ws).take k ++ [T * gi ws k / sumI ws] := by
  rw [take_succ_gi _ _ (by rw [bI_len]; exact h), bI, gi_map _ _ _ h]
@[local go_sem] theorem posI_zero : posI 0 = [] := by simp [posI]
@[local go_sem] theorem posI_back (k : Nat) : posI k ++ [(k : Int)] = posI (k + 1) := by simp [posI, List.range_succ]
@[local go_sem] theorem incr_nil (b : List Int) : incr b [] = b := rfl
theorem posI_succ (k : Nat) : posI (k + 1) = posI k ++ [(k : Int)] := by simp [posI, List.range_succ]
theorem mem_le_sum (xs : List Int) (h : ∀ x ∈ xs, 0 ≤ x) : 0 ≤ sumI xs ∧ ∀ x ∈ xs, x ≤ sumI xs := by
  induction xs with
  | nil => exact ⟨by simp [sumI_nil], fun x hx => absurd hx (by simp)⟩
  | cons y r ih =>
    obtain ⟨h1, h2⟩ := ih fun x hx => h x (List.mem_cons_of_mem _ hx)
    have hy := h y (List.mem_cons_self ..)
    rw [sumI_cons]
    refine ⟨by omega, fun x hx => ?_⟩
    rcases List.mem_cons.1 hx with rfl | hx
    · omega
    · have := h2 x hx; omega
theorem base_le {T : Int} {ws : List Int} (h : ShOk T ws) (y : Int) (hy : y ∈ ws) : T * y / sumI ws ≤ T := by
  have h1 := (mem_le_sum ws fun x hx => (h.w x hx).1).2 y hy
  exact Int.ediv_le_of_le_mul h.s (Int.mul_le_mul_of_nonneg_left h1 h.t.1)
theorem incr_take (b L : List Int) (k : Nat) (h : k < L.length) : incr b (L.take (k + 1)) = (incr b (L.take k)).set (gi L k).toNat (gi (incr b (L.take k)) (gi L k).toNat + 1) := by
  rw [take_succ_gi _ _ h, incr_snoc]
theorem incr_bd {T : Int} {ws : List Int} (h : ShOk T ws) (j i : Nat) (hi : i < ws.length) : 0 ≤ gi (incr (bI T ws) ((ordV T (sumI ws) ws).take j)) i ∧ gi (incr (bI T ws) ((ordV T (sumI ws) ws).take j)) i ≤ T + 1 := by
  have hn : ((ordV T (sumI ws) ws).take j).Nodup := ((List.Perm.nodup_iff (ordV_ok T (sumI ws) ws).1).2 (posI_nodup _)).sublist (List.take_sublist _ _)
  obtain ⟨_, h2⟩ := incr_val (bI T ws) ((ordV T (sumI ws) ws).take j) hn (fun i hi => by
    rw [bI_len]; exact ord_mem i |>.1 (List.mem_of_mem_take hi))
  rw [h2 i (by rw [bI_len]; exact hi), bI, gi_map _ _ _ hi]
  have hb := mul_bd T _ h.t (h.wi i)
  have hs := h.s
  have h3 := Int.ediv_nonneg hb.1 (show 0 ≤ sumI ws by omega)
  have h4 := base_le h _ (gi_mem0 ws i hi)
  split <;> omega
theorem shareOut_ok (T : Int) (ws : List Int) (h : ShOk T ws) (hl : 1 ≤ ws.length ∧ ws.length ≤ 60) : ACalls Try.prog 105 [I T, iS ws] [] (fun r o => r = .ref 0 0 ws.length ∧ o = [oI (shV T ws)]) := by
  have hsum := sum_ok ws (by omega)
  have hS : wsum ws = sumI ws := (wsum_eq ws 1000000000 (by omega) (fun x hx => by have := h.w x hx; omega) (by omega)).1
  have hSp := h.s
  rw [hS] at hsum
  have hsort := sortOrd_ok T (sumI ws) h.s ws (by omega)
  refine ACalls.of_vc Try.func105 rfl (by decide) 59 rfl [.tmp 4] rfl (by simp) ?_
  (repeat (first | simp (maxSteps := 2000000) (disch := omega) only [go_sem, ↓reduceIte, Nat.reduceEqDiff, Nat.reduceAdd, Nat.reduceMul, Nat.reduceSub, Int.reduceToNat, Int.reduceAdd, Int.reduceSub, Int.reduceMul, Int.reduceNeg] | with_reducible refine vIf_t ?_ | with_reducible refine vIf_f ?_))
  (refine vCallX_of ?_; (repeat (first | simp (maxSteps := 2000000) (disch := omega) only [go_sem, ↓reduceIte, Nat.reduceEqDiff, Nat.reduceAdd, Nat.reduceMul, Nat.reduceSub, Int.reduceToNat, Int.reduceAdd, Int.reduceSub, Int.reduceMul, Int.reduceNeg] | with_reducible refine vIf_t ?_ | with_reducible refine vIf_f ?_)); refine vCall_eq (hsum) (by simp (disch := omega) only [go_sem, Nat.reduceAdd]) rfl (by first | exact Or.inl rfl | exact Or.inr ⟨rfl, rfl⟩ | (apply Or.inr; simp only [go_sem])) ?_; (repeat (first | simp (maxSteps := 2000000) (disch := omega) only [go_sem, ↓reduceIte, Nat.reduceEqDiff, Nat.reduceAdd, Nat.reduceMul, Nat.reduceSub, Int.reduceToNat, Int.reduceAdd, Int.reduceSub, Int.reduceMul, Int.reduceNeg] | with_reducible refine vIf_t ?_ | with_reducible refine vIf_f ?_)))
  refine vcLoop_invF (fun k : Nat => k ≤ ws.length) (fun k => ⟨59, 0, [(18, I k), (17, I ws.length), (16, .sl ws.length (ints ws)), (2, .ptr 0 0), (3, .ptr 1 0), (5, .ptr 2 0), (6, .ref 3 0 k), (7, .ptr 4 0)], [some ⟨1, [I T]⟩, some ⟨1, [.sl ws.length (ints ws)]⟩, some ⟨1, [I (sumI ws)]⟩, oI ((bI T ws).take k), some ⟨1, [.ref 5 0 k]⟩, oI (posI k)]⟩) (fun k => ws.length - k) 0 (by omega) (by (first | (refine leF_s ?_; ((repeat (first | simp (maxSteps := 2000000) (disch := omega) only [go_sem, ↓reduceIte, Nat.reduceEqDiff, Nat.reduceAdd, Nat.reduceMul, Nat.reduceSub, Int.reduceToNat, Int.reduceAdd, Int.reduceSub, Int.reduceMul, Int.reduceNeg] | with_reducible refine vIf_t ?_ | with_reducible refine vIf_f ?_)); all_goals (try simp); all_goals (try omega)); done) | (refine leF_p ?_; ((repeat (first | simp (maxSteps := 2000000) (disch := omega) only [go_sem, ↓reduceIte, Nat.reduceEqDiff, Nat.reduceAdd, Nat.reduceMul, Nat.reduceSub, Int.reduceToNat, Int.reduceAdd, Int.reduceSub, Int.reduceMul, Int.reduceNeg] | with_reducible refine vIf_t ?_ | with_reducible refine vIf_f ?_)); all_goals (try simp); all_goals (try omega)); done))) ?_
  intro k hk
  have l1 : (posI k).length = k := posI_len k
  have l2 : ((bI T ws).take k).length = k := by rw [List.length_take, bI_len]; omega
  (repeat (first | simp (maxSteps := 2000000) (disch := omega) only [go_sem, ↓reduceIte, Nat.reduceEqDiff, Nat.reduceAdd, Nat.reduceMul, Nat.reduceSub, Int.reduceToNat, Int.reduceAdd, Int.reduceSub, Int.reduceMul, Int.reduceNeg] | with_reducible refine vIf_t ?_ | with_reducible refine vIf_f ?_))
  refine vIf_dec (fun hh => ?_) (fun hh => ?_)
  · have hb := mul_bd T _ h.t (h.wi k)
    have e1 : (IntKind.wrap .i64 (T * gi ws k)) = T * gi ws k := (wrap_small _ hb).1
    have e2 := Int.tdiv_eq_ediv_of_nonneg (a := T * gi ws k) (b := sumI ws) hb.1
    have e0 : sumI ws ≠ 0 := by omega
    have e3 : IntKind.wrap .i64 (T * gi ws k / sumI ws) = T * gi ws k / sumI ws := (wrap_small _ ⟨Int.ediv_nonneg hb.1 (by omega), by have := Int.ediv_le_self (sumI ws) hb.1; omega⟩).1
    have l3 : min k (bI T ws).length = k := by rw [bI_len]; omega
    have l4 := bI_take T ws k (by omega)
    (repeat (first | simp (maxSteps := 2000000) (disch := omega) only [go_sem, ↓reduceIte, Nat.reduceEqDiff, Nat.reduceAdd, Nat.reduceMul, Nat.reduceSub, Int.reduceToNat, Int.reduceAdd, Int.reduceSub, Int.reduceMul, Int.reduceNeg] | with_reducible refine vIf_t ?_ | with_reducible refine vIf_f ?_))
    (refine vDraw_tr 11 (.rd 0 (.rd 1 (.rd 2 (.rd 3 (.rd 4 (.rd 5 (.rd 8 (.rd 9 (.alt 6 (.alt 7 (.alt 10 (.done) (.stop)) (.alt 10 (.alt 7 (.done) (.stop)) (.stop))) (.alt 10 (.alt 6 (.alt 7 (.done) (.stop)) (.stop)) (.stop))))))))))) (fun _ : Unit => True) (fun _ => ⟨59, 0, [(18, I k), (17, I ws.length), (16, .sl ws.length (ints ws)), (2, .ptr 0 0), (3, .ptr 1 0), (5, .ptr 2 0), (30, .ref 3 0 (k + 1)), (7, .ptr 4 0), (31, .ref 5 0 k), (33, .ref 6 0 1)], [some ⟨1, [I T]⟩, some ⟨1, [.sl ws.length (ints ws)]⟩, some ⟨1, [I (sumI ws)]⟩, oI ((bI T ws).take (k + 1)), some ⟨1, [.ref 5 0 k]⟩, oI (posI k), oI [(k : Int)]]⟩) mixed (by kernel_rfl) ?_ ?_)
    · (repeat (first | simp (maxSteps := 2000000) (disch := omega) only [go_sem, ↓reduceIte, Nat.reduceEqDiff, Nat.reduceAdd, Nat.reduceMul, Nat.reduceSub, Int.reduceToNat, Int.reduceAdd, Int.reduceSub, Int.reduceMul, Int.reduceNeg, e1, e2, e3, l1, l2, l3, l4] | with_reducible refine vIf_t ?_ | with_reducible refine vIf_f ?_))
      repeat' (first | refine And.intro ?_ ?_ | (refine ⟨(), _, Frz.refl _, Or.inr ?_⟩; (repeat (first | simp (maxSteps := 2000000) (disch := omega) only [go_sem, ↓reduceIte, Nat.reduceEqDiff, Nat.reduceAdd, Nat.reduceMul, Nat.reduceSub, Int.reduceToNat, Int.reduceAdd, Int.reduceSub, Int.reduceMul, Int.reduceNeg, e1, e2, e3, l1, l2, l3, l4] | with_reducible refine vIf_t ?_ | with_reducible refine vIf_f ?_))))
    intro _ _
    simp only [List.drop_succ_cons, List.drop_zero, List.drop_nil]
    (repeat (first | simp (maxSteps := 2000000) (disch := omega) only [go_sem, ↓reduceIte, Nat.reduceEqDiff, Nat.reduceAdd, Nat.reduceMul, Nat.reduceSub, Int.reduceToNat, Int.reduceAdd, Int.reduceSub, Int.reduceMul, Int.reduceNeg, l1] | with_reducible refine vIf_t ?_ | with_reducible refine vIf_f ?_))
    refine againF (k + 1) ?_ ?_ (by (first | (refine leF_s ?_; ((repeat (first | simp (maxSteps := 2000000) (disch := omega) only [go_sem, ↓reduceIte, Nat.reduceEqDiff, Nat.reduceAdd, Nat.reduceMul, Nat.reduceSub, Int.reduceToNat, Int.reduceAdd, Int.reduceSub, Int.reduceMul, Int.reduceNeg] | with_reducible refine vIf_t ?_ | with_reducible refine vIf_f ?_)); all_goals (try simp); all_goals (try omega)); done) | (refine leF_p ?_; ((repeat (first | simp (maxSteps := 2000000) (disch := omega) only [go_sem, ↓reduceIte, Nat.reduceEqDiff, Nat.reduceAdd, Nat.reduceMul, Nat.reduceSub, Int.reduceToNat, Int.reduceAdd, Int.reduceSub, Int.reduceMul, Int.reduceNeg] | with_reducible refine vIf_t ?_ | with_reducible refine vIf_f ?_)); all_goals (try simp); all_goals (try omega)); done)))
    · omega
    · omega
  · have hke : k = ws.length := by omega
    subst hke
    simp only [shCaps, shRest] at hsort
    unfold iS at hsort
    (repeat (first | simp (maxSteps := 2000000) (disch := omega) only [go_sem, ↓reduceIte, Nat.reduceEqDiff, Nat.reduceAdd, Nat.reduceMul, Nat.reduceSub, Int.reduceToNat, Int.reduceAdd, Int.reduceSub, Int.reduceMul, Int.reduceNeg] | with_reducible refine vIf_t ?_ | with_reducible refine vIf_f ?_))
    (refine vCallX_io [5, 0, 1, 4, 2] ?_; (repeat (first | simp (maxSteps := 2000000) (disch := omega) only [go_sem, ↓reduceIte, Nat.reduceEqDiff, Nat.reduceAdd, Nat.reduceMul, Nat.reduceSub, Int.reduceToNat, Int.reduceAdd, Int.reduceSub, Int.reduceMul, Int.reduceNeg] | with_reducible refine vIf_t ?_ | with_reducible refine vIf_f ?_)); refine vCallIO_eq (hsort) (by simp (disch := omega) only [go_sem, Nat.reduceAdd, Nat.reduceEqDiff]) (by simp (disch := omega) only [go_sem, Nat.reduceAdd, Nat.reduceEqDiff]) (by first | rfl | (simp (disch := omega) only [go_sem, Nat.reduceAdd, Nat.reduceEqDiff])) (by first | rfl | (simp (disch := omega) only [go_sem, Nat.reduceAdd, Nat.reduceEqDiff])) (by first | rfl | (simp (disch := omega) only [go_sem, Nat.reduceAdd, Nat.reduceEqDiff])) (by first | (simp (disch := omega) only [go_sem, Nat.reduceAdd, Nat.reduceEqDiff]) | skip) ?_; (repeat (first | simp (maxSteps := 2000000) (disch := omega) only [go_sem, ↓reduceIte, Nat.reduceEqDiff, Nat.reduceAdd, Nat.reduceMul, Nat.reduceSub, Int.reduceToNat, Int.reduceAdd, Int.reduceSub, Int.reduceMul, Int.reduceNeg] | with_reducible refine vIf_t ?_ | with_reducible refine vIf_f ?_)))
    have hs2 := sum_ok (bI T ws) (by rw [bI_len]; omega)
    have hd := rest_bd h
    have e5 : (bI T ws).take ws.length = bI T ws := List.take_of_length_le (by rw [bI_len]; omega)
    have e6 : wsum (bI T ws) = sumI (bI T ws) := (wsum_eq _ 1000000000 (by omega) (fun x hx => by
      obtain ⟨y, hy, rfl⟩ := List.mem_map.1 hx
      have hb := mul_bd T y h.t (h.w y hy)
      have h1 := Int.ediv_nonneg hb.1 (show 0 ≤ sumI ws by omega)
      have h2 := base_le h y hy
      have := h.t
      omega) (by rw [bI_len]; omega)).1
    have e7 : IntKind.wrap .i64 (T - sumI (bI T ws)) = dI T ws := (wrap_small (dI T ws) ⟨hd.1, by omega⟩).1
    rw [e6] at hs2
    unfold iS at hs2
    rw [bI_len] at hs2
    have hs3 : ACalls Try.prog 104 [.sl ws.length (ints ((bI T ws).take ws.length))] [] (fun r o => r = I (sumI (bI T ws)) ∧ o = []) := by rw [e5]; exact hs2
    (repeat (first | simp (maxSteps := 2000000) (disch := omega) only [go_sem, ↓reduceIte, Nat.reduceEqDiff, Nat.reduceAdd, Nat.reduceMul, Nat.reduceSub, Int.reduceToNat, Int.reduceAdd, Int.reduceSub, Int.reduceMul, Int.reduceNeg, e5] | with_reducible refine vIf_t ?_ | with_reducible refine vIf_f ?_))
    (refine vDraw_sch 8 [(2, false), (7, false), (0, false), (1, false), (3, false), (4, false), (5, false), (6, false)] mixed (by kernel_rfl) ?_; simp only [List.cons_append, List.nil_append, List.map_cons, List.map_nil, nthO_zero, nthO_succ, List.drop_succ_cons, List.drop_zero, List.drop_nil]; (repeat (first | simp (maxSteps := 2000000) (disch := omega) only [go_sem, ↓reduceIte, Nat.reduceEqDiff, Nat.reduceAdd, Nat.reduceMul, Nat.reduceSub, Int.reduceToNat, Int.reduceAdd, Int.reduceSub, Int.reduceMul, Int.reduceNeg] | with_reducible refine vIf_t ?_ | with_reducible refine vIf_f ?_)))
    (refine vsCallX_of ?_; (try (repeat (first | simp (maxSteps := 2000000) (disch := omega) only [go_sem, ↓reduceIte, Nat.reduceEqDiff, Nat.reduceAdd, Nat.reduceMul, Nat.reduceSub, Int.reduceToNat, Int.reduceAdd, Int.reduceSub, Int.reduceMul, Int.reduceNeg] | with_reducible refine vIf_t ?_ | with_reducible refine vIf_f ?_))); refine vCall_eq (hs3) (by simp (disch := omega) only [go_sem, Nat.reduceAdd]) rfl (by first | exact Or.inl rfl | exact Or.inr ⟨rfl, rfl⟩ | (apply Or.inr; simp only [go_sem])) ?_; (try (repeat (first | simp (maxSteps := 2000000) (disch := omega) only [go_sem, ↓reduceIte, Nat.reduceEqDiff, Nat.reduceAdd, Nat.reduceMul, Nat.reduceSub, Int.reduceToNat, Int.reduceAdd, Int.reduceSub, Int.reduceMul, Int.reduceNeg] | with_reducible refine vIf_t ?_ | with_reducible refine vIf_f ?_))))
    (repeat (first | simp (maxSteps := 2000000) (disch := omega) only [go_sem, ↓reduceIte, Nat.reduceEqDiff, Nat.reduceAdd, Nat.reduceMul, Nat.reduceSub, Int.reduceToNat, Int.reduceAdd, Int.reduceSub, Int.reduceMul, Int.reduceNeg, e7] | with_reducible refine vIf_t ?_ | with_reducible refine vIf_f ?_))
    have hd2 : (dI T ws).toNat ≤ ws.length := by omega
    have ol := ordV_len T (sumI ws) ws
    refine vcLoop_invF (fun j : Nat => j ≤ (dI T ws).toNat) (fun j => ⟨59, 0, [(47, I j), (46, I (dI T ws).toNat), (6, .ref 0 0 ws.length), (45, .ref 1 0 (dI T ws).toNat)], [oI (incr (bI T ws) ((ordV T (sumI ws) ws).take j)), oI (ordV T (sumI ws) ws)]⟩) (fun j => (dI T ws).toNat - j) 0 (by omega) (by (first | (refine leF_s ?_; ((repeat (first | simp (maxSteps := 2000000) (disch := omega) only [go_sem, ↓reduceIte, Nat.reduceEqDiff, Nat.reduceAdd, Nat.reduceMul, Nat.reduceSub, Int.reduceToNat, Int.reduceAdd, Int.reduceSub, Int.reduceMul, Int.reduceNeg] | with_reducible refine vIf_t ?_ | with_reducible refine vIf_f ?_)); all_goals (try simp); all_goals (try omega)); done) | (refine leF_p ?_; ((repeat (first | simp (maxSteps := 2000000) (disch := omega) only [go_sem, ↓reduceIte, Nat.reduceEqDiff, Nat.reduceAdd, Nat.reduceMul, Nat.reduceSub, Int.reduceToNat, Int.reduceAdd, Int.reduceSub, Int.reduceMul, Int.reduceNeg] | with_reducible refine vIf_t ?_ | with_reducible refine vIf_f ?_)); all_goals (try simp); all_goals (try omega)); done))) ?_
    intro j hj
    (repeat (first | simp (maxSteps := 2000000) (disch := omega) only [go_sem, ↓reduceIte, Nat.reduceEqDiff, Nat.reduceAdd, Nat.reduceMul, Nat.reduceSub, Int.reduceToNat, Int.reduceAdd, Int.reduceSub, Int.reduceMul, Int.reduceNeg] | with_reducible refine vIf_t ?_ | with_reducible refine vIf_f ?_))
    refine vIf_dec (fun hh => ?_) (fun hh => ?_)
    · have oa := ord_at (T := T) (S := sumI ws) (ws := ws) j (by omega)
      have hil : (incr (bI T ws) ((ordV T (sumI ws) ws).take j)).length = ws.length := by rw [incr_len, bI_len]
      have ht := incr_take (bI T ws) (ordV T (sumI ws) ws) j (by omega)
      have hw1 : IntKind.wrap .i64 (gi (incr (bI T ws) ((ordV T (sumI ws) ws).take j)) (gi (ordV T (sumI ws) ws) j).toNat + 1) = gi (incr (bI T ws) ((ordV T (sumI ws) ws).take j)) (gi (ordV T (sumI ws) ws) j).toNat + 1 := by
        have hb := incr_bd h j (gi (ordV T (sumI ws) ws) j).toNat (by omega)
        have := h.t
        exact (wrap_small _ ⟨by omega, by omega⟩).1
      (repeat (first | simp (maxSteps := 2000000) (disch := omega) only [go_sem, ↓reduceIte, Nat.reduceEqDiff, Nat.reduceAdd, Nat.reduceMul, Nat.reduceSub, Int.reduceToNat, Int.reduceAdd, Int.reduceSub, Int.reduceMul, Int.reduceNeg, hil, hw1, ← ht] | with_reducible refine vIf_t ?_ | with_reducible refine vIf_f ?_))
      refine againF (j + 1) ?_ ?_ (by (first | (refine leF_s ?_; ((repeat (first | simp (maxSteps := 2000000) (disch := omega) only [go_sem, ↓reduceIte, Nat.reduceEqDiff, Nat.reduceAdd, Nat.reduceMul, Nat.reduceSub, Int.reduceToNat, Int.reduceAdd, Int.reduceSub, Int.reduceMul, Int.reduceNeg] | with_reducible refine vIf_t ?_ | with_reducible refine vIf_f ?_)); all_goals (try simp); all_goals (try omega)); done) | (refine leF_p ?_; ((repeat (first | simp (maxSteps := 2000000) (disch := omega) only [go_sem, ↓reduceIte, Nat.reduceEqDiff, Nat.reduceAdd, Nat.reduceMul, Nat.reduceSub, Int.reduceToNat, Int.reduceAdd, Int.reduceSub, Int.reduceMul, Int.reduceNeg] | with_reducible refine vIf_t ?_ | with_reducible refine vIf_f ?_)); all_goals (try simp); all_goals (try omega)); done)))
      · omega
      · omega
    · (repeat (first | simp (maxSteps := 2000000) (disch := omega) only [go_sem, ↓reduceIte, Nat.reduceEqDiff, Nat.reduceAdd, Nat.reduceMul, Nat.reduceSub, Int.reduceToNat, Int.reduceAdd, Int.reduceSub, Int.reduceMul, Int.reduceNeg] | with_reducible refine vIf_t ?_ | with_reducible refine vIf_f ?_))
      (refine retK_of ?_; (repeat (first | simp (maxSteps := 2000000) (disch := omega) only [go_sem, ↓reduceIte, Nat.reduceEqDiff, Nat.reduceAdd, Nat.reduceMul, Nat.reduceSub, Int.reduceToNat, Int.reduceAdd, Int.reduceSub, Int.reduceMul, Int.reduceNeg] | with_reducible refine vIf_t ?_ | with_reducible refine vIf_f ?_)))
      rw [shV, show j = (dI T ws).toNat by omega]
end Go.Proofs.Ythnphcinjchloaa

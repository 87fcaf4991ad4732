/- dues: the drawn parcels, the weights, the code -/
import Derived.Test.YtilocioajpcoiaaShr3
import Derived.Test.YtilocioajpcoiaaBilV
set_option linter.unusedVariables false
set_option linter.unusedSimpArgs false
namespace Go.Proofs.Ytilocioajpcoiaa
open Go.AG Go.Lib

attribute [local go_sem] beq_self_eq_true bne_self_eq_false Bool.not_true Bool.not_false
/-- drawn parcels and factors -/
structure DvD (ds : List Pc) (fs : List Int) : Prop where
  n : 1 ≤ ds.length ∧ ds.length ≤ 9
  p : ∀ i, i < ds.length → (1 ≤ (gPc ds i).id ∧ (gPc ds i).id ≤ 45) ∧ (0 ≤ (gPc ds i).owner ∧ (gPc ds i).owner ≤ 3) ∧ (1 ≤ (gPc ds i).area ∧ (gPc ds i).area ≤ 9000) ∧ (0 ≤ (gPc ds i).cls ∧ (gPc ds i).cls ≤ 3)
  s : ∀ i, i + 1 < ds.length → (gPc ds i).id < (gPc ds (i + 1)).id
  fl : fs.length = 4
  f : ∀ x ∈ fs, 1 ≤ x ∧ x ≤ 5
theorem DvD.fi {ds : List Pc} {fs : List Int} (h : DvD ds fs) (k : Nat) (hk : k < 4) : 1 ≤ gi fs k ∧ gi fs k ≤ 5 := h.f _ (gi_mem0 fs k (by rw [h.fl]; exact hk))
theorem DvD.ok {ds : List Pc} {fs : List Int} (h : DvD ds fs) : okP ds = true := by
  simp only [okP, Bool.and_eq_true]
  refine ⟨decide_eq_true fun j hj h0 => ?_, decide_eq_true (by have := h.n; omega), List.all_eq_true.2 fun x hx => ?_⟩
  · have := h.s (j - 1) (by omega)
    rwa [show j - 1 + 1 = j by omega] at this
  · obtain ⟨i, hi, rfl⟩ := List.mem_iff_getElem.1 hx
    have := h.p i hi
    rw [gPc_lt ds i hi] at this
    simp only [pcB, Bool.and_eq_true, decide_eq_true_eq]
    omega
def wD (ds : List Pc) (fs : List Int) : List Int := ds.map fun p => p.area * gi fs p.cls.toNat
theorem wD_len (ds : List Pc) (fs : List Int) : (wD ds fs).length = ds.length := by simp [wD]
theorem wD_at (ds : List Pc) (fs : List Int) (i : Nat) (h : i < ds.length) : gi (wD ds fs) i = (gPc ds i).area * gi fs (gPc ds i).cls.toNat := by
  rw [gPc_lt ds i h]
  simp [wD, gi, h]
theorem wD_bd {ds : List Pc} {fs : List Int} (h : DvD ds fs) (i : Nat) (hi : i < ds.length) : 1 ≤ (gPc ds i).area * gi fs (gPc ds i).cls.toNat ∧ (gPc ds i).area * gi fs (gPc ds i).cls.toNat ≤ 45000 := by
  have hp := h.p i hi
  have hf := h.fi (gPc ds i).cls.toNat (by omega)
  have h1 : 1 * 1 ≤ (gPc ds i).area * gi fs (gPc ds i).cls.toNat := Int.mul_le_mul (by omega) (by omega) (by omega) (by omega)
  have h2 : (gPc ds i).area * gi fs (gPc ds i).cls.toNat ≤ 9000 * 5 := Int.mul_le_mul (by omega) (by omega) (by omega) (by omega)
  omega
theorem wD_mem {ds : List Pc} {fs : List Int} (h : DvD ds fs) (x : Int) (hx : x ∈ wD ds fs) : 1 ≤ x ∧ x ≤ 45000 := by
  obtain ⟨i, hi, rfl⟩ := List.mem_iff_getElem.1 hx
  have hi2 : i < ds.length := by rw [wD_len] at hi; exact hi
  have := wD_bd h i hi2
  rw [← wD_at ds fs i hi2, gi, List.getD_eq_getElem?_getD, List.getElem?_eq_getElem hi, Option.getD_some] at this
  exact this
theorem wD_sum {ds : List Pc} {fs : List Int} (h : DvD ds fs) : 0 < sumI (wD ds fs) ∧ sumI (wD ds fs) ≤ 45000 * 9 := by
  have h1 := mem_le_sum (wD ds fs) (fun x hx => by have := wD_mem h x hx; omega)
  have h2 := (wsum_eq (wD ds fs) 45000 (by omega) (fun x hx => by have := wD_mem h x hx; omega) (by rw [wD_len]; have := h.n; omega)).2.2
  rw [wD_len] at h2
  have hn := h.n
  have h3 := h1.2 _ (gi_mem0 (wD ds fs) 0 (by rw [wD_len]; omega))
  have h4 := wD_mem h _ (gi_mem0 (wD ds fs) 0 (by rw [wD_len]; omega))
  omega
theorem DvD.sh {ds : List Pc} {fs : List Int} (h : DvD ds fs) (T : Int) (hT : 0 ≤ T ∧ T ≤ 200000) : ShOk T (wD ds fs) :=
  ⟨by omega, fun x hx => by have := wD_mem h x hx; omega, by rw [wD_len]; have := h.n; omega, (wD_sum h).1⟩
theorem weights_ok (ds : List Pc) (fs : List Int) (h : DvD ds fs) : ACalls Try.prog 41 [.sl ds.length (cPc ds), iS fs] [] (fun r o => r = .ref 0 0 ds.length ∧ o = [oI (wD ds fs)]) := by
  refine ACalls.of_vc Try.func41 rfl (by decide) 28 rfl [.tmp 4] rfl (by simp) ?_
  unfold iS
  have hn := h.n
  (repeat (first | simp (maxSteps := 2000000) (disch := omega) only [go_sem, ↓reduceIte, Nat.reduceEqDiff, Nat.reduceAdd, Nat.reduceMul, Nat.reduceSub, Int.reduceToNat, Int.reduceAdd, Int.reduceSub, Int.reduceMul, Int.reduceNeg] | with_reducible refine vIf_t ?_ | with_reducible refine vIf_f ?_))
  refine vcLoop_invF (fun k : Nat => k ≤ ds.length) (fun k => ⟨28, 0, [(11, I k), (10, I ds.length), (9, .sl ds.length (cPc ds)), (1, .sl fs.length (ints fs)), (5, .ref 0 0 k)], [oI ((wD ds fs).take k)]⟩) (fun k => ds.length - k) 0 (by omega) (by (first | (refine leF_s ?_; ((repeat (first | simp (maxSteps := 2000000) (disch := omega) only [go_sem, ↓reduceIte, Nat.reduceEqDiff, Nat.reduceAdd, Nat.reduceMul, Nat.reduceSub, Int.reduceToNat, Int.reduceAdd, Int.reduceSub, Int.reduceMul, Int.reduceNeg] | with_reducible refine vIf_t ?_ | with_reducible refine vIf_f ?_)); all_goals (try simp); all_goals (try omega)); done) | (refine leF_p ?_; ((repeat (first | simp (maxSteps := 2000000) (disch := omega) only [go_sem, ↓reduceIte, Nat.reduceEqDiff, Nat.reduceAdd, Nat.reduceMul, Nat.reduceSub, Int.reduceToNat, Int.reduceAdd, Int.reduceSub, Int.reduceMul, Int.reduceNeg] | with_reducible refine vIf_t ?_ | with_reducible refine vIf_f ?_)); all_goals (try simp); all_goals (try omega)); done))) ?_
  intro k hk
  (repeat (first | simp (maxSteps := 2000000) (disch := omega) only [go_sem, ↓reduceIte, Nat.reduceEqDiff, Nat.reduceAdd, Nat.reduceMul, Nat.reduceSub, Int.reduceToNat, Int.reduceAdd, Int.reduceSub, Int.reduceMul, Int.reduceNeg] | with_reducible refine vIf_t ?_ | with_reducible refine vIf_f ?_))
  refine vIf_dec (fun hh => ?_) (fun hh => ?_)
  · have hp := h.p k (by omega)
    have hb := wD_bd h k (by omega)
    have hfl := h.fl
    have e1 := (wrap_small _ (show 0 ≤ (gPc ds k).area * gi fs (gPc ds k).cls.toNat ∧ _ by omega)).1
    have ht : (wD ds fs).take (k + 1) = (wD ds fs).take k ++ [(gPc ds k).area * gi fs (gPc ds k).cls.toNat] := by rw [take_succ_gi _ _ (by rw [wD_len]; omega), wD_at _ _ _ (by omega)]
    have hlk : min k (wD ds fs).length = k := by rw [wD_len]; omega
    (repeat (first | simp (maxSteps := 2000000) (disch := omega) only [go_sem, ↓reduceIte, Nat.reduceEqDiff, Nat.reduceAdd, Nat.reduceMul, Nat.reduceSub, Int.reduceToNat, Int.reduceAdd, Int.reduceSub, Int.reduceMul, Int.reduceNeg] | with_reducible refine vIf_t ?_ | with_reducible refine vIf_f ?_))
    (refine vDraw_sch 10 [(0, false), (1, false), (3, false), (4, false), (2, false), (5, true), (6, false), (7, true), (8, false), (9, false)] mixed (by kernel_rfl) ?_; simp only [List.cons_append, List.nil_append, List.map_cons, List.map_nil, nthO_zero, nthO_succ, List.drop_succ_cons, List.drop_zero, List.drop_nil]; (repeat (first | simp (maxSteps := 2000000) (disch := omega) only [go_sem, ↓reduceIte, Nat.reduceEqDiff, Nat.reduceAdd, Nat.reduceMul, Nat.reduceSub, Int.reduceToNat, Int.reduceAdd, Int.reduceSub, Int.reduceMul, Int.reduceNeg] | with_reducible refine vIf_t ?_ | with_reducible refine vIf_f ?_)))
    (repeat (first | simp (maxSteps := 2000000) (disch := omega) only [go_sem, ↓reduceIte, Nat.reduceEqDiff, Nat.reduceAdd, Nat.reduceMul, Nat.reduceSub, Int.reduceToNat, Int.reduceAdd, Int.reduceSub, Int.reduceMul, Int.reduceNeg, e1, hlk, ← ht] | with_reducible refine vIf_t ?_ | with_reducible refine vIf_f ?_))
    refine againF (k + 1) ?_ ?_ (by (first | (refine leF_s ?_; ((repeat (first | simp (maxSteps := 2000000) (disch := omega) only [go_sem, ↓reduceIte, Nat.reduceEqDiff, Nat.reduceAdd, Nat.reduceMul, Nat.reduceSub, Int.reduceToNat, Int.reduceAdd, Int.reduceSub, Int.reduceMul, Int.reduceNeg] | with_reducible refine vIf_t ?_ | with_reducible refine vIf_f ?_)); all_goals (try simp); all_goals (try omega)); done) | (refine leF_p ?_; ((repeat (first | simp (maxSteps := 2000000) (disch := omega) only [go_sem, ↓reduceIte, Nat.reduceEqDiff, Nat.reduceAdd, Nat.reduceMul, Nat.reduceSub, Int.reduceToNat, Int.reduceAdd, Int.reduceSub, Int.reduceMul, Int.reduceNeg] | with_reducible refine vIf_t ?_ | with_reducible refine vIf_f ?_)); all_goals (try simp); all_goals (try omega)); done)))
    · omega
    · omega
  · (repeat (first | simp (maxSteps := 2000000) (disch := omega) only [go_sem, ↓reduceIte, Nat.reduceEqDiff, Nat.reduceAdd, Nat.reduceMul, Nat.reduceSub, Int.reduceToNat, Int.reduceAdd, Int.reduceSub, Int.reduceMul, Int.reduceNeg] | with_reducible refine vIf_t ?_ | with_reducible refine vIf_f ?_))
    (refine retK_of ?_; (repeat (first | simp (maxSteps := 2000000) (disch := omega) only [go_sem, ↓reduceIte, Nat.reduceEqDiff, Nat.reduceAdd, Nat.reduceMul, Nat.reduceSub, Int.reduceToNat, Int.reduceAdd, Int.reduceSub, Int.reduceMul, Int.reduceNeg] | with_reducible refine vIf_t ?_ | with_reducible refine vIf_f ?_)))
    rw [List.take_of_length_le (by rw [wD_len]; omega), show k = ds.length by omega]
    exact ⟨rfl, rfl⟩
theorem facs_ok (n : Int) : ACalls Try.prog 83 [I n] [] (fun r o => r = B (decide (0 ≤ n ∧ n ≤ 10)) ∧ o = []) := by
  refine ACalls.of_vc Try.func83 rfl (by decide) 5 rfl [.tmp 2] rfl (by simp) ?_
  (repeat (first | simp (maxSteps := 2000000) (disch := omega) only [go_sem, ↓reduceIte, Nat.reduceEqDiff, Nat.reduceAdd, Nat.reduceMul, Nat.reduceSub, Int.reduceToNat, Int.reduceAdd, Int.reduceSub, Int.reduceMul, Int.reduceNeg] | with_reducible refine vIf_t ?_ | with_reducible refine vIf_f ?_))
  (refine vCallX_of ?_; (repeat (first | simp (maxSteps := 2000000) (disch := omega) only [go_sem, ↓reduceIte, Nat.reduceEqDiff, Nat.reduceAdd, Nat.reduceMul, Nat.reduceSub, Int.reduceToNat, Int.reduceAdd, Int.reduceSub, Int.reduceMul, Int.reduceNeg] | with_reducible refine vIf_t ?_ | with_reducible refine vIf_f ?_)); refine vCall_eq (in_ok n 0 10) (by simp (disch := omega) only [go_sem, Nat.reduceAdd]) rfl (by first | exact Or.inl rfl | exact Or.inr ⟨rfl, rfl⟩ | (apply Or.inr; simp only [go_sem])) ?_; (repeat (first | simp (maxSteps := 2000000) (disch := omega) only [go_sem, ↓reduceIte, Nat.reduceEqDiff, Nat.reduceAdd, Nat.reduceMul, Nat.reduceSub, Int.reduceToNat, Int.reduceAdd, Int.reduceSub, Int.reduceMul, Int.reduceNeg] | with_reducible refine vIf_t ?_ | with_reducible refine vIf_f ?_)))
  (refine retK_of ?_; (repeat (first | simp (maxSteps := 2000000) (disch := omega) only [go_sem, ↓reduceIte, Nat.reduceEqDiff, Nat.reduceAdd, Nat.reduceMul, Nat.reduceSub, Int.reduceToNat, Int.reduceAdd, Int.reduceSub, Int.reduceMul, Int.reduceNeg] | with_reducible refine vIf_t ?_ | with_reducible refine vIf_f ?_)))
theorem duesCode_ok (ds : List Pc) (fs : List Int) (h : DvD ds fs) (T : Int) (hT : 0 ≤ T ∧ T ≤ 200000) : ACalls Try.prog 39 [.sl ds.length (cPc ds), iS fs, I T] [] (fun r o => r = I 0 ∧ o = []) := by
  have hn := h.n
  have hfl := h.fl
  have h1 := validP_ok ds (by omega)
  rw [h.ok] at h1
  have h2 := all_ok 83 [] (fun n => decide (0 ≤ n ∧ n ≤ 10)) fs (fun x _ => facs_ok x) rfl (by omega)
  have e2 : (fs.all fun n => decide (0 ≤ n ∧ n ≤ 10)) = true := List.all_eq_true.2 fun x hx => decide_eq_true (by have := h.f x hx; omega)
  rw [e2] at h2
  have h3 := isShared_ok T
  rw [decide_eq_true (by omega)] at h3
  have h4 := weights_ok ds fs h
  have hw := wD_sum h
  have hwl := wD_len ds fs
  have h5 := sum_ok (wD ds fs) (by omega)
  have e5 : wsum (wD ds fs) = sumI (wD ds fs) := (wsum_eq (wD ds fs) 45000 (by omega) (fun x hx => by have := wD_mem h x hx; omega) (by omega)).1
  rw [e5] at h5
  refine ACalls.of_vc Try.func39 rfl (by decide) 31 rfl [.tmp 6] rfl (by simp) ?_
  unfold iS at h2 h4 h5 ⊢
  rw [hfl] at h2 h4 ⊢
  rw [hwl] at h5
  (repeat (first | simp (maxSteps := 2000000) (disch := omega) only [go_sem, ↓reduceIte, Nat.reduceEqDiff, Nat.reduceAdd, Nat.reduceMul, Nat.reduceSub, Int.reduceToNat, Int.reduceAdd, Int.reduceSub, Int.reduceMul, Int.reduceNeg] | with_reducible refine vIf_t ?_ | with_reducible refine vIf_f ?_))
  (refine vCallX_of ?_; (repeat (first | simp (maxSteps := 2000000) (disch := omega) only [go_sem, ↓reduceIte, Nat.reduceEqDiff, Nat.reduceAdd, Nat.reduceMul, Nat.reduceSub, Int.reduceToNat, Int.reduceAdd, Int.reduceSub, Int.reduceMul, Int.reduceNeg] | with_reducible refine vIf_t ?_ | with_reducible refine vIf_f ?_)); refine vCall_eq (h1) (by simp (disch := omega) only [go_sem, Nat.reduceAdd]) rfl (by first | exact Or.inl rfl | exact Or.inr ⟨rfl, rfl⟩ | (apply Or.inr; simp only [go_sem])) ?_; (repeat (first | simp (maxSteps := 2000000) (disch := omega) only [go_sem, ↓reduceIte, Nat.reduceEqDiff, Nat.reduceAdd, Nat.reduceMul, Nat.reduceSub, Int.reduceToNat, Int.reduceAdd, Int.reduceSub, Int.reduceMul, Int.reduceNeg] | with_reducible refine vIf_t ?_ | with_reducible refine vIf_f ?_)))
  (refine vCallX_of ?_; (repeat (first | simp (maxSteps := 2000000) (disch := omega) only [go_sem, ↓reduceIte, Nat.reduceEqDiff, Nat.reduceAdd, Nat.reduceMul, Nat.reduceSub, Int.reduceToNat, Int.reduceAdd, Int.reduceSub, Int.reduceMul, Int.reduceNeg] | with_reducible refine vIf_t ?_ | with_reducible refine vIf_f ?_)); refine vCall_eq (h2) (by simp (disch := omega) only [go_sem, Nat.reduceAdd]) rfl (by first | exact Or.inl rfl | exact Or.inr ⟨rfl, rfl⟩ | (apply Or.inr; simp only [go_sem])) ?_; (repeat (first | simp (maxSteps := 2000000) (disch := omega) only [go_sem, ↓reduceIte, Nat.reduceEqDiff, Nat.reduceAdd, Nat.reduceMul, Nat.reduceSub, Int.reduceToNat, Int.reduceAdd, Int.reduceSub, Int.reduceMul, Int.reduceNeg] | with_reducible refine vIf_t ?_ | with_reducible refine vIf_f ?_)))
  (refine vCallX_of ?_; (repeat (first | simp (maxSteps := 2000000) (disch := omega) only [go_sem, ↓reduceIte, Nat.reduceEqDiff, Nat.reduceAdd, Nat.reduceMul, Nat.reduceSub, Int.reduceToNat, Int.reduceAdd, Int.reduceSub, Int.reduceMul, Int.reduceNeg] | with_reducible refine vIf_t ?_ | with_reducible refine vIf_f ?_)); refine vCall_eq (h3) (by simp (disch := omega) only [go_sem, Nat.reduceAdd]) rfl (by first | exact Or.inl rfl | exact Or.inr ⟨rfl, rfl⟩ | (apply Or.inr; simp only [go_sem])) ?_; (repeat (first | simp (maxSteps := 2000000) (disch := omega) only [go_sem, ↓reduceIte, Nat.reduceEqDiff, Nat.reduceAdd, Nat.reduceMul, Nat.reduceSub, Int.reduceToNat, Int.reduceAdd, Int.reduceSub, Int.reduceMul, Int.reduceNeg] | with_reducible refine vIf_t ?_ | with_reducible refine vIf_f ?_)))
  have ht : (wD ds fs).take ds.length = wD ds fs := List.take_of_length_le (by omega)
  have h5' : ACalls Try.prog 55 [.sl ds.length (ints ((wD ds fs).take ds.length))] [] (fun r o => r = I (sumI (wD ds fs)) ∧ o = []) := by rw [ht]; exact h5
  (refine vCallX_of ?_; (repeat (first | simp (maxSteps := 2000000) (disch := omega) only [go_sem, ↓reduceIte, Nat.reduceEqDiff, Nat.reduceAdd, Nat.reduceMul, Nat.reduceSub, Int.reduceToNat, Int.reduceAdd, Int.reduceSub, Int.reduceMul, Int.reduceNeg] | with_reducible refine vIf_t ?_ | with_reducible refine vIf_f ?_)); refine vCall_eq (h4) (by simp (disch := omega) only [go_sem, Nat.reduceAdd]) rfl (by first | exact Or.inl rfl | exact Or.inr ⟨rfl, rfl⟩ | (apply Or.inr; simp only [go_sem])) ?_; (repeat (first | simp (maxSteps := 2000000) (disch := omega) only [go_sem, ↓reduceIte, Nat.reduceEqDiff, Nat.reduceAdd, Nat.reduceMul, Nat.reduceSub, Int.reduceToNat, Int.reduceAdd, Int.reduceSub, Int.reduceMul, Int.reduceNeg] | with_reducible refine vIf_t ?_ | with_reducible refine vIf_f ?_)))
  (refine vCallX_of ?_; (repeat (first | simp (maxSteps := 2000000) (disch := omega) only [go_sem, ↓reduceIte, Nat.reduceEqDiff, Nat.reduceAdd, Nat.reduceMul, Nat.reduceSub, Int.reduceToNat, Int.reduceAdd, Int.reduceSub, Int.reduceMul, Int.reduceNeg] | with_reducible refine vIf_t ?_ | with_reducible refine vIf_f ?_)); refine vCall_eq (h5) (by simp (disch := omega) only [go_sem, Nat.reduceAdd]) rfl (by first | exact Or.inl rfl | exact Or.inr ⟨rfl, rfl⟩ | (apply Or.inr; simp only [go_sem])) ?_; (repeat (first | simp (maxSteps := 2000000) (disch := omega) only [go_sem, ↓reduceIte, Nat.reduceEqDiff, Nat.reduceAdd, Nat.reduceMul, Nat.reduceSub, Int.reduceToNat, Int.reduceAdd, Int.reduceSub, Int.reduceMul, Int.reduceNeg] | with_reducible refine vIf_t ?_ | with_reducible refine vIf_f ?_)))
  have e0 : (sumI (wD ds fs) == 0) = false := by simp; omega
  (repeat (first | simp (maxSteps := 2000000) (disch := omega) only [go_sem, ↓reduceIte, Nat.reduceEqDiff, Nat.reduceAdd, Nat.reduceMul, Nat.reduceSub, Int.reduceToNat, Int.reduceAdd, Int.reduceSub, Int.reduceMul, Int.reduceNeg, e0] | with_reducible refine vIf_t ?_ | with_reducible refine vIf_f ?_))
  (refine retK_of ?_; (repeat (first | simp (maxSteps := 2000000) (disch := omega) only [go_sem, ↓reduceIte, Nat.reduceEqDiff, Nat.reduceAdd, Nat.reduceMul, Nat.reduceSub, Int.reduceToNat, Int.reduceAdd, Int.reduceSub, Int.reduceMul, Int.reduceNeg] | with_reducible refine vIf_t ?_ | with_reducible refine vIf_f ?_)))
theorem divide_ok (ds : List Pc) (fs : List Int) (h : DvD ds fs) (T : Int) (hT : 0 ≤ T ∧ T ≤ 200000) : ACalls Try.prog 10 [.sl ds.length (cPc ds), iS fs, I T] [] (fun r o => r = .tup [.ref 0 0 ds.length, I 0] ∧ o = [oI (shV T (wD ds fs))]) := by
  have hn := h.n
  have h1 := duesCode_ok ds fs h T hT
  have h2 := weights_ok ds fs h
  have h3 := shareOut_ok T (wD ds fs) (h.sh T hT) (by rw [wD_len]; omega)
  refine ACalls.of_vc Try.func10 rfl (by decide) 22 rfl [.tmp 6, .tmp 7] rfl (by simp) ?_
  unfold iS at h1 h2 h3 ⊢
  rw [wD_len] at h3
  have ht : (wD ds fs).take ds.length = wD ds fs := List.take_of_length_le (by rw [wD_len]; omega)
  have h3' : ACalls Try.prog 40 [I T, .sl ds.length (ints ((wD ds fs).take ds.length))] [] (fun r o => r = .ref 0 0 ds.length ∧ o = [oI (shV T (wD ds fs))]) := by rw [ht]; exact h3
  (repeat (first | simp (maxSteps := 2000000) (disch := omega) only [go_sem, ↓reduceIte, Nat.reduceEqDiff, Nat.reduceAdd, Nat.reduceMul, Nat.reduceSub, Int.reduceToNat, Int.reduceAdd, Int.reduceSub, Int.reduceMul, Int.reduceNeg] | with_reducible refine vIf_t ?_ | with_reducible refine vIf_f ?_))
  (refine vCallX_of ?_; (repeat (first | simp (maxSteps := 2000000) (disch := omega) only [go_sem, ↓reduceIte, Nat.reduceEqDiff, Nat.reduceAdd, Nat.reduceMul, Nat.reduceSub, Int.reduceToNat, Int.reduceAdd, Int.reduceSub, Int.reduceMul, Int.reduceNeg] | with_reducible refine vIf_t ?_ | with_reducible refine vIf_f ?_)); refine vCall_eq (h1) (by simp (disch := omega) only [go_sem, Nat.reduceAdd]) rfl (by first | exact Or.inl rfl | exact Or.inr ⟨rfl, rfl⟩ | (apply Or.inr; simp only [go_sem])) ?_; (repeat (first | simp (maxSteps := 2000000) (disch := omega) only [go_sem, ↓reduceIte, Nat.reduceEqDiff, Nat.reduceAdd, Nat.reduceMul, Nat.reduceSub, Int.reduceToNat, Int.reduceAdd, Int.reduceSub, Int.reduceMul, Int.reduceNeg] | with_reducible refine vIf_t ?_ | with_reducible refine vIf_f ?_)))
  (refine vCallX_of ?_; (repeat (first | simp (maxSteps := 2000000) (disch := omega) only [go_sem, ↓reduceIte, Nat.reduceEqDiff, Nat.reduceAdd, Nat.reduceMul, Nat.reduceSub, Int.reduceToNat, Int.reduceAdd, Int.reduceSub, Int.reduceMul, Int.reduceNeg] | with_reducible refine vIf_t ?_ | with_reducible refine vIf_f ?_)); refine vCall_eq (h2) (by simp (disch := omega) only [go_sem, Nat.reduceAdd]) rfl (by first | exact Or.inl rfl | exact Or.inr ⟨rfl, rfl⟩ | (apply Or.inr; simp only [go_sem])) ?_; (repeat (first | simp (maxSteps := 2000000) (disch := omega) only [go_sem, ↓reduceIte, Nat.reduceEqDiff, Nat.reduceAdd, Nat.reduceMul, Nat.reduceSub, Int.reduceToNat, Int.reduceAdd, Int.reduceSub, Int.reduceMul, Int.reduceNeg] | with_reducible refine vIf_t ?_ | with_reducible refine vIf_f ?_)))
  (refine vCallX_of ?_; (repeat (first | simp (maxSteps := 2000000) (disch := omega) only [go_sem, ↓reduceIte, Nat.reduceEqDiff, Nat.reduceAdd, Nat.reduceMul, Nat.reduceSub, Int.reduceToNat, Int.reduceAdd, Int.reduceSub, Int.reduceMul, Int.reduceNeg] | with_reducible refine vIf_t ?_ | with_reducible refine vIf_f ?_)); refine vCall_eq (h3') (by simp (disch := omega) only [go_sem, Nat.reduceAdd]) rfl (by first | exact Or.inl rfl | exact Or.inr ⟨rfl, rfl⟩ | (apply Or.inr; simp only [go_sem])) ?_; (repeat (first | simp (maxSteps := 2000000) (disch := omega) only [go_sem, ↓reduceIte, Nat.reduceEqDiff, Nat.reduceAdd, Nat.reduceMul, Nat.reduceSub, Int.reduceToNat, Int.reduceAdd, Int.reduceSub, Int.reduceMul, Int.reduceNeg] | with_reducible refine vIf_t ?_ | with_reducible refine vIf_f ?_)))
  (refine retK_of ?_; (repeat (first | simp (maxSteps := 2000000) (disch := omega) only [go_sem, ↓reduceIte, Nat.reduceEqDiff, Nat.reduceAdd, Nat.reduceMul, Nat.reduceSub, Int.reduceToNat, Int.reduceAdd, Int.reduceSub, Int.reduceMul, Int.reduceNeg] | with_reducible refine vIf_t ?_ | with_reducible refine vIf_f ?_)))
end Go.Proofs.Ytilocioajpcoiaa

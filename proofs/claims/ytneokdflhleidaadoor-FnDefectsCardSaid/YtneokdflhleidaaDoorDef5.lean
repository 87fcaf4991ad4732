/- defects: texts read back -/
import Derived.Test.YtneokdflhleidaaDoorDef4
set_option linter.unusedVariables false
set_option linter.unusedSimpArgs false
namespace Go.Proofs.YtneokdflhleidaaDoor
open Go.AG Go.Lib

attribute [local go_sem] beq_self_eq_true bne_self_eq_false Bool.not_true
theorem joinD5 {G H : Prop} (h : G → H) (g : G) : H := h g
theorem tx_beq {a b : List UInt8} (h : a ≠ b) : ((tx a).toList == (tx b).toList) = false := by
  rw [Bool.eq_false_iff]
  intro e
  have e2 : (tx a).toList = (tx b).toList := by simpa using e
  rw [ByteArray.toList_eq, ByteArray.toList_eq, list_tx, list_tx] at e2
  exact h e2
def nmD (d : Df) : List Int := if d.mended = 0 then [d.met, d.found] else [d.met, d.found, d.mended]
set_option maxRecDepth 20000 in
set_option maxHeartbeats 8000000 in
theorem readDf_ok (d : Df) (h : OkD d) : ACalls Tryd.prog 22 [St (tx (dfT d))] [] (fun r o => r = .tup [.agg d.cells, B true] ∧ o = []) := by
  refine ACalls.of_vc Tryd.func22 rfl (by decide) 44 rfl [.cell 2 47, .tmp 3] rfl (by simp) ?_
  obtain ⟨n1, n2, n3⟩ := nOkD h
  have kk := knD_ok h.k
  have hlen := dfT_len h
  have ha : ∀ c ∈ dfT d, c.toNat < 128 := by
    refine asc_txN (dfP d) [] ?_ rfl
    unfold dfP
    split <;> simp [kk.2.1] <;> (have := kk.2.1; simpa using this)
  have hf : flG pn (dfT d) none = (nmD d).map itoa := by
    have e : (dfP d).map (·.2) = nmD d := by unfold dfP nmD; split <;> rfl
    rw [← e]
    refine flG_txN (dfP d) [] ?_ ?_ rfl
    · unfold dfP
      have hs : sepL ([109, 32] ++ knD d.kind ++ [32, 102, 111, 117, 110, 100, 32]) = true := by
        have := kk.1
        unfold sepL at this ⊢
        rw [List.all_append, List.all_append, this]; rfl
      split
      · simp only [List.append_nil, List.all_cons, List.all_nil, hs]; rfl
      · simp only [List.cons_append, List.nil_append, List.all_cons, List.all_nil]
        rw [show ([109, 32] ++ knD d.kind ++ [32, 102, 111, 117, 110, 100, 32] : List UInt8) = 109 :: 32 :: (knD d.kind ++ [32, 102, 111, 117, 110, 100, 32]) from rfl] at hs
        rw [hs]; rfl
    · unfold dfP
      split <;> simp
  have hnum := numbersIn_ok (dfT d) (nmD d) ha (by omega) hf (by unfold nmD; split <;> simp [n1, n2, n3]) (by unfold nmD; split <;> simp)
  have hk := h.k
  have g0 : gi [d.met, d.found, d.mended] 0 = d.met := rfl
  have g1 : gi [d.met, d.found, d.mended] 1 = d.found := rfl
  have g2 : gi [d.met, d.found, d.mended] 2 = d.mended := rfl
  unfold Df.cells
  (repeat (first | simp (maxSteps := 2000000) (disch := omega) only [go_sem, ↓reduceIte, Nat.reduceEqDiff, Nat.reduceAdd, Nat.reduceMul, Nat.reduceSub, Int.reduceToNat, Int.reduceAdd, Int.reduceSub, Int.reduceMul, Int.reduceNeg] | with_reducible refine vIf_t ?_ | with_reducible refine vIf_f ?_))
  (refine vCallX_of ?_; (repeat (first | simp (maxSteps := 2000000) (disch := omega) only [go_sem, ↓reduceIte, Nat.reduceEqDiff, Nat.reduceAdd, Nat.reduceMul, Nat.reduceSub, Int.reduceToNat, Int.reduceAdd, Int.reduceSub, Int.reduceMul, Int.reduceNeg] | with_reducible refine vIf_t ?_ | with_reducible refine vIf_f ?_)); refine vCall_eq (hnum) (by simp (disch := omega) only [go_sem, Nat.reduceAdd]) rfl (by first | exact Or.inl rfl | exact Or.inr ⟨rfl, rfl⟩ | (apply Or.inr; simp only [go_sem])) ?_; (repeat (first | simp (maxSteps := 2000000) (disch := omega) only [go_sem, ↓reduceIte, Nat.reduceEqDiff, Nat.reduceAdd, Nat.reduceMul, Nat.reduceSub, Int.reduceToNat, Int.reduceAdd, Int.reduceSub, Int.reduceMul, Int.reduceNeg] | with_reducible refine vIf_t ?_ | with_reducible refine vIf_f ?_)))
  apply joinD5
  · intro common
    by_cases c : d.mended = 0
    · have e : nmD d = [d.met, d.found] := by unfold nmD; rw [if_pos c]
      rw [e]
      (repeat (first | simp (maxSteps := 2000000) (disch := omega) only [go_sem, ↓reduceIte, Nat.reduceEqDiff, Nat.reduceAdd, Nat.reduceMul, Nat.reduceSub, Int.reduceToNat, Int.reduceAdd, Int.reduceSub, Int.reduceMul, Int.reduceNeg] | with_reducible refine vIf_t ?_ | with_reducible refine vIf_f ?_))
      refine vcLoop_invF (fun k : Nat => 1 ≤ k ∧ (k : Int) ≤ d.kind) (fun k => ⟨44, 0, [(2, .ptr 0 0), (4, .ref 1 0 3), (5, I k), (0, St (tx (dfT d)))], [some ⟨4, [I 0, I 0, I 0, I 0]⟩, oI [d.met, d.found, d.mended]]⟩) (fun k => 6 - k) 1 ⟨by omega, by omega⟩ (by simp only [c]; (first | (refine leF_s ?_; ((repeat (first | simp (maxSteps := 2000000) (disch := omega) only [go_sem, ↓reduceIte, Nat.reduceEqDiff, Nat.reduceAdd, Nat.reduceMul, Nat.reduceSub, Int.reduceToNat, Int.reduceAdd, Int.reduceSub, Int.reduceMul, Int.reduceNeg] | with_reducible refine vIf_t ?_ | with_reducible refine vIf_f ?_)); all_goals (try simp); all_goals (try omega)); done) | (refine leF_p ?_; ((repeat (first | simp (maxSteps := 2000000) (disch := omega) only [go_sem, ↓reduceIte, Nat.reduceEqDiff, Nat.reduceAdd, Nat.reduceMul, Nat.reduceSub, Int.reduceToNat, Int.reduceAdd, Int.reduceSub, Int.reduceMul, Int.reduceNeg] | with_reducible refine vIf_t ?_ | with_reducible refine vIf_f ?_)); all_goals (try simp); all_goals (try omega)); done))) common
    · have e : nmD d = [d.met, d.found, d.mended] := by unfold nmD; rw [if_neg c]
      rw [e]
      (repeat (first | simp (maxSteps := 2000000) (disch := omega) only [go_sem, ↓reduceIte, Nat.reduceEqDiff, Nat.reduceAdd, Nat.reduceMul, Nat.reduceSub, Int.reduceToNat, Int.reduceAdd, Int.reduceSub, Int.reduceMul, Int.reduceNeg] | with_reducible refine vIf_t ?_ | with_reducible refine vIf_f ?_))
      refine vcLoop_invF (fun k : Nat => 1 ≤ k ∧ (k : Int) ≤ d.kind) (fun k => ⟨44, 0, [(2, .ptr 0 0), (4, .ref 1 0 3), (5, I k), (0, St (tx (dfT d)))], [some ⟨4, [I 0, I 0, I 0, I 0]⟩, oI [d.met, d.found, d.mended]]⟩) (fun k => 6 - k) 1 ⟨by omega, by omega⟩ (by (first | (refine leF_s ?_; ((repeat (first | simp (maxSteps := 2000000) (disch := omega) only [go_sem, ↓reduceIte, Nat.reduceEqDiff, Nat.reduceAdd, Nat.reduceMul, Nat.reduceSub, Int.reduceToNat, Int.reduceAdd, Int.reduceSub, Int.reduceMul, Int.reduceNeg] | with_reducible refine vIf_t ?_ | with_reducible refine vIf_f ?_)); all_goals (try simp); all_goals (try omega)); done) | (refine leF_p ?_; ((repeat (first | simp (maxSteps := 2000000) (disch := omega) only [go_sem, ↓reduceIte, Nat.reduceEqDiff, Nat.reduceAdd, Nat.reduceMul, Nat.reduceSub, Int.reduceToNat, Int.reduceAdd, Int.reduceSub, Int.reduceMul, Int.reduceNeg] | with_reducible refine vIf_t ?_ | with_reducible refine vIf_f ?_)); all_goals (try simp); all_goals (try omega)); done))) common
  rintro k ⟨k1, k2⟩
  (repeat (first | simp (maxSteps := 2000000) (disch := omega) only [go_sem, ↓reduceIte, Nat.reduceEqDiff, Nat.reduceAdd, Nat.reduceMul, Nat.reduceSub, Int.reduceToNat, Int.reduceAdd, Int.reduceSub, Int.reduceMul, Int.reduceNeg] | with_reducible refine vIf_t ?_ | with_reducible refine vIf_f ?_))
  have O : OkD { d with kind := k } := ⟨h.m, by simp only; omega, h.f, h.e⟩
  have i1 := isDefect_ok _ O
  have i2 := dfText_ok _ O
  unfold Df.cells at i1 i2
  simp only at i1 i2
  (repeat (first | simp (maxSteps := 2000000) (disch := omega) only [go_sem, ↓reduceIte, Nat.reduceEqDiff, Nat.reduceAdd, Nat.reduceMul, Nat.reduceSub, Int.reduceToNat, Int.reduceAdd, Int.reduceSub, Int.reduceMul, Int.reduceNeg] | with_reducible refine vIf_t ?_ | with_reducible refine vIf_f ?_))
  (refine vDraw_tr 12 (.rd 0 (.rd 1 (.rd 2 (.rd 3 (.rd 4 (.rd 5 (.rd 6 (.rd 7 (.rd 8 (.rd 9 (.alt 10 (.alt 11 (.done) (.stop)) (.alt 11 (.alt 10 (.done) (.stop)) (.stop))))))))))))) (fun _ : Unit => True) (fun _ => ⟨44, 0, [(2, .ptr 0 0), (4, .ref 1 0 3), (6, .ptr 2 0), (33, .agg [I d.met, I k, I d.found, I d.mended]), (5, I k), (0, St (tx (dfT d)))], [some ⟨4, [I 0, I 0, I 0, I 0]⟩, oI [d.met, d.found, d.mended], some ⟨4, [I 0, I 0, I 0, I 0]⟩]⟩) mixed (by kernel_rfl) ?_ ?_)
  · (repeat (first | simp (maxSteps := 2000000) (disch := omega) only [go_sem, ↓reduceIte, Nat.reduceEqDiff, Nat.reduceAdd, Nat.reduceMul, Nat.reduceSub, Int.reduceToNat, Int.reduceAdd, Int.reduceSub, Int.reduceMul, Int.reduceNeg, g0, g1, g2] | with_reducible refine vIf_t ?_ | with_reducible refine vIf_f ?_))
    repeat' (first | refine And.intro ?_ ?_ | (refine ⟨(), leF_p ?_⟩; (repeat (first | simp (maxSteps := 2000000) (disch := omega) only [go_sem, ↓reduceIte, Nat.reduceEqDiff, Nat.reduceAdd, Nat.reduceMul, Nat.reduceSub, Int.reduceToNat, Int.reduceAdd, Int.reduceSub, Int.reduceMul, Int.reduceNeg, g0, g1, g2] | with_reducible refine vIf_t ?_ | with_reducible refine vIf_f ?_))))
  · intro _ _
    simp only [List.drop_succ_cons, List.drop_zero, List.drop_nil]
    (repeat (first | simp (maxSteps := 2000000) (disch := omega) only [go_sem, ↓reduceIte, Nat.reduceEqDiff, Nat.reduceAdd, Nat.reduceMul, Nat.reduceSub, Int.reduceToNat, Int.reduceAdd, Int.reduceSub, Int.reduceMul, Int.reduceNeg] | with_reducible refine vIf_t ?_ | with_reducible refine vIf_f ?_))
    (refine vCallX_of ?_; (repeat (first | simp (maxSteps := 2000000) (disch := omega) only [go_sem, ↓reduceIte, Nat.reduceEqDiff, Nat.reduceAdd, Nat.reduceMul, Nat.reduceSub, Int.reduceToNat, Int.reduceAdd, Int.reduceSub, Int.reduceMul, Int.reduceNeg] | with_reducible refine vIf_t ?_ | with_reducible refine vIf_f ?_)); refine vCall_eq (i1) (by simp (disch := omega) only [go_sem, Nat.reduceAdd]) rfl (by first | exact Or.inl rfl | exact Or.inr ⟨rfl, rfl⟩ | (apply Or.inr; simp only [go_sem])) ?_; (repeat (first | simp (maxSteps := 2000000) (disch := omega) only [go_sem, ↓reduceIte, Nat.reduceEqDiff, Nat.reduceAdd, Nat.reduceMul, Nat.reduceSub, Int.reduceToNat, Int.reduceAdd, Int.reduceSub, Int.reduceMul, Int.reduceNeg] | with_reducible refine vIf_t ?_ | with_reducible refine vIf_f ?_)))
    (refine vCallX_of ?_; (repeat (first | simp (maxSteps := 2000000) (disch := omega) only [go_sem, ↓reduceIte, Nat.reduceEqDiff, Nat.reduceAdd, Nat.reduceMul, Nat.reduceSub, Int.reduceToNat, Int.reduceAdd, Int.reduceSub, Int.reduceMul, Int.reduceNeg] | with_reducible refine vIf_t ?_ | with_reducible refine vIf_f ?_)); refine vCall_eq (i2) (by simp (disch := omega) only [go_sem, Nat.reduceAdd]) rfl (by first | exact Or.inl rfl | exact Or.inr ⟨rfl, rfl⟩ | (apply Or.inr; simp only [go_sem])) ?_; (repeat (first | simp (maxSteps := 2000000) (disch := omega) only [go_sem, ↓reduceIte, Nat.reduceEqDiff, Nat.reduceAdd, Nat.reduceMul, Nat.reduceSub, Int.reduceToNat, Int.reduceAdd, Int.reduceSub, Int.reduceMul, Int.reduceNeg] | with_reducible refine vIf_t ?_ | with_reducible refine vIf_f ?_)))
    by_cases e : (k : Int) = d.kind
    · have ed : dfT { d with kind := k } = dfT d := by rw [e]
      rw [ed]
      (repeat (first | simp (maxSteps := 2000000) (disch := omega) only [go_sem, ↓reduceIte, Nat.reduceEqDiff, Nat.reduceAdd, Nat.reduceMul, Nat.reduceSub, Int.reduceToNat, Int.reduceAdd, Int.reduceSub, Int.reduceMul, Int.reduceNeg] | with_reducible refine vIf_t ?_ | with_reducible refine vIf_f ?_))
      (refine retK_of ?_; (repeat (first | simp (maxSteps := 2000000) (disch := omega) only [go_sem, ↓reduceIte, Nat.reduceEqDiff, Nat.reduceAdd, Nat.reduceMul, Nat.reduceSub, Int.reduceToNat, Int.reduceAdd, Int.reduceSub, Int.reduceMul, Int.reduceNeg] | with_reducible refine vIf_t ?_ | with_reducible refine vIf_f ?_)))
      try rw [e]
    · have ne : dfT { d with kind := k } ≠ dfT d := fun e2 => e (dfT_kind h (by omega) e2)
      have nb := tx_beq ne
      (try (repeat (first | simp (maxSteps := 2000000) (disch := omega) only [go_sem, ↓reduceIte, Nat.reduceEqDiff, Nat.reduceAdd, Nat.reduceMul, Nat.reduceSub, Int.reduceToNat, Int.reduceAdd, Int.reduceSub, Int.reduceMul, Int.reduceNeg, nb] | with_reducible refine vIf_t ?_ | with_reducible refine vIf_f ?_)))
      refine againF (k + 1) ⟨by omega, by omega⟩ (by omega) (by (first | (refine leF_s ?_; ((repeat (first | simp (maxSteps := 2000000) (disch := omega) only [go_sem, ↓reduceIte, Nat.reduceEqDiff, Nat.reduceAdd, Nat.reduceMul, Nat.reduceSub, Int.reduceToNat, Int.reduceAdd, Int.reduceSub, Int.reduceMul, Int.reduceNeg] | with_reducible refine vIf_t ?_ | with_reducible refine vIf_f ?_)); all_goals (try simp); all_goals (try omega)); done) | (refine leF_p ?_; ((repeat (first | simp (maxSteps := 2000000) (disch := omega) only [go_sem, ↓reduceIte, Nat.reduceEqDiff, Nat.reduceAdd, Nat.reduceMul, Nat.reduceSub, Int.reduceToNat, Int.reduceAdd, Int.reduceSub, Int.reduceMul, Int.reduceNeg] | with_reducible refine vIf_t ?_ | with_reducible refine vIf_f ?_)); all_goals (try simp); all_goals (try omega)); done)))
end Go.Proofs.YtneokdflhleidaaDoor

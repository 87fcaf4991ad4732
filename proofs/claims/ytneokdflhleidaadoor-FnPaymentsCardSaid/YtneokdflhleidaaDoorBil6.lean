/- bills: texts -/
import Derived.Test.YtneokdflhleidaaDoorBil5
set_option linter.unusedVariables false
set_option linter.unusedSimpArgs false
namespace Go.Proofs.YtneokdflhleidaaDoor
open Go.AG Go.Lib

attribute [local go_sem] beq_self_eq_true bne_self_eq_false Bool.not_true
def bilP (b : Bl) : List (List UInt8 × Int) := [([111, 119, 110, 101, 114, 32], b.owner), ([32, 100, 97, 121, 32], b.day), ([32, 97, 109, 111, 117, 110, 116, 32], b.amt), ([32, 112, 97, 105, 100, 32], b.paid)]
def bilT (b : Bl) : List UInt8 := txN (bilP b) []
theorem nOkB {b : Bl} (h : OkB b) : nOk b.owner ∧ nOk b.day ∧ nOk b.amt ∧ nOk b.paid := by
  obtain ⟨h1, h2, h3, h4⟩ := h
  unfold nOk
  omega
set_option maxRecDepth 20000 in
theorem billText_ok (b : Bl) (h : OkB b) : ACalls Tryd.prog 17 [.agg b.cells] [] (fun r o => r = St (tx (bilT b)) ∧ o = []) := by
  refine ACalls.of_vc Tryd.func17 rfl (by decide) 25 rfl [.tmp 2] rfl (by simp) ?_
  have h1 := isBill_ok b h
  obtain ⟨n1, n2, n3, n4⟩ := nOkB h
  obtain ⟨b1, b2, b3, b4⟩ := h
  have d1 := decimal_ok b.owner (by omega)
  have d2 := decimal_ok b.day (by omega)
  have d3 := decimal_ok b.amt (by omega)
  have d4 := decimal_ok b.paid (by omega)
  have l1 := itoa_len b.owner n1
  have l2 := itoa_len b.day n2
  have l3 := itoa_len b.amt n3
  have l4 := itoa_len b.paid n4
  unfold Bl.cells at h1 ⊢
  (repeat (first | simp (maxSteps := 2000000) (disch := omega) only [go_sem, ↓reduceIte, Nat.reduceEqDiff, Nat.reduceAdd, Nat.reduceMul, Nat.reduceSub, Int.reduceToNat, Int.reduceAdd, Int.reduceSub, Int.reduceMul, Int.reduceNeg] | with_reducible refine vIf_t ?_ | with_reducible refine vIf_f ?_))
  (refine vCallX_of ?_; (repeat (first | simp (maxSteps := 2000000) (disch := omega) only [go_sem, ↓reduceIte, Nat.reduceEqDiff, Nat.reduceAdd, Nat.reduceMul, Nat.reduceSub, Int.reduceToNat, Int.reduceAdd, Int.reduceSub, Int.reduceMul, Int.reduceNeg] | with_reducible refine vIf_t ?_ | with_reducible refine vIf_f ?_)); refine vCall_eq (h1) (by simp (disch := omega) only [go_sem, Nat.reduceAdd]) rfl (by first | exact Or.inl rfl | exact Or.inr ⟨rfl, rfl⟩ | (apply Or.inr; simp only [go_sem])) ?_; (repeat (first | simp (maxSteps := 2000000) (disch := omega) only [go_sem, ↓reduceIte, Nat.reduceEqDiff, Nat.reduceAdd, Nat.reduceMul, Nat.reduceSub, Int.reduceToNat, Int.reduceAdd, Int.reduceSub, Int.reduceMul, Int.reduceNeg] | with_reducible refine vIf_t ?_ | with_reducible refine vIf_f ?_)))
  (refine vDraw_sch 18 [(0, false), (5, false), (10, false), (15, false), (1, false), (6, false), (11, false), (16, false), (2, false), (3, false), (4, false), (7, false), (8, false), (9, false), (12, false), (13, false), (14, false), (17, false)] mixed (by kernel_rfl) ?_; simp only [List.cons_append, List.nil_append, List.map_cons, List.map_nil, nthO_zero, nthO_succ, List.drop_succ_cons, List.drop_zero, List.drop_nil]; (repeat (first | simp (maxSteps := 2000000) (disch := omega) only [go_sem, ↓reduceIte, Nat.reduceEqDiff, Nat.reduceAdd, Nat.reduceMul, Nat.reduceSub, Int.reduceToNat, Int.reduceAdd, Int.reduceSub, Int.reduceMul, Int.reduceNeg] | with_reducible refine vIf_t ?_ | with_reducible refine vIf_f ?_)))
  (refine vsCallX_of ?_; (try (repeat (first | simp (maxSteps := 2000000) (disch := omega) only [go_sem, ↓reduceIte, Nat.reduceEqDiff, Nat.reduceAdd, Nat.reduceMul, Nat.reduceSub, Int.reduceToNat, Int.reduceAdd, Int.reduceSub, Int.reduceMul, Int.reduceNeg] | with_reducible refine vIf_t ?_ | with_reducible refine vIf_f ?_))); refine vCall_eq (d1) (by simp (disch := omega) only [go_sem, Nat.reduceAdd]) rfl (by first | exact Or.inl rfl | exact Or.inr ⟨rfl, rfl⟩ | (apply Or.inr; simp only [go_sem])) ?_; (try (repeat (first | simp (maxSteps := 2000000) (disch := omega) only [go_sem, ↓reduceIte, Nat.reduceEqDiff, Nat.reduceAdd, Nat.reduceMul, Nat.reduceSub, Int.reduceToNat, Int.reduceAdd, Int.reduceSub, Int.reduceMul, Int.reduceNeg] | with_reducible refine vIf_t ?_ | with_reducible refine vIf_f ?_))))
  (refine vsCallX_of ?_; (try (repeat (first | simp (maxSteps := 2000000) (disch := omega) only [go_sem, ↓reduceIte, Nat.reduceEqDiff, Nat.reduceAdd, Nat.reduceMul, Nat.reduceSub, Int.reduceToNat, Int.reduceAdd, Int.reduceSub, Int.reduceMul, Int.reduceNeg] | with_reducible refine vIf_t ?_ | with_reducible refine vIf_f ?_))); refine vCall_eq (d2) (by simp (disch := omega) only [go_sem, Nat.reduceAdd]) rfl (by first | exact Or.inl rfl | exact Or.inr ⟨rfl, rfl⟩ | (apply Or.inr; simp only [go_sem])) ?_; (try (repeat (first | simp (maxSteps := 2000000) (disch := omega) only [go_sem, ↓reduceIte, Nat.reduceEqDiff, Nat.reduceAdd, Nat.reduceMul, Nat.reduceSub, Int.reduceToNat, Int.reduceAdd, Int.reduceSub, Int.reduceMul, Int.reduceNeg] | with_reducible refine vIf_t ?_ | with_reducible refine vIf_f ?_))))
  (refine vsCallX_of ?_; (try (repeat (first | simp (maxSteps := 2000000) (disch := omega) only [go_sem, ↓reduceIte, Nat.reduceEqDiff, Nat.reduceAdd, Nat.reduceMul, Nat.reduceSub, Int.reduceToNat, Int.reduceAdd, Int.reduceSub, Int.reduceMul, Int.reduceNeg] | with_reducible refine vIf_t ?_ | with_reducible refine vIf_f ?_))); refine vCall_eq (d3) (by simp (disch := omega) only [go_sem, Nat.reduceAdd]) rfl (by first | exact Or.inl rfl | exact Or.inr ⟨rfl, rfl⟩ | (apply Or.inr; simp only [go_sem])) ?_; (try (repeat (first | simp (maxSteps := 2000000) (disch := omega) only [go_sem, ↓reduceIte, Nat.reduceEqDiff, Nat.reduceAdd, Nat.reduceMul, Nat.reduceSub, Int.reduceToNat, Int.reduceAdd, Int.reduceSub, Int.reduceMul, Int.reduceNeg] | with_reducible refine vIf_t ?_ | with_reducible refine vIf_f ?_))))
  (refine vsCallX_of ?_; (try (repeat (first | simp (maxSteps := 2000000) (disch := omega) only [go_sem, ↓reduceIte, Nat.reduceEqDiff, Nat.reduceAdd, Nat.reduceMul, Nat.reduceSub, Int.reduceToNat, Int.reduceAdd, Int.reduceSub, Int.reduceMul, Int.reduceNeg] | with_reducible refine vIf_t ?_ | with_reducible refine vIf_f ?_))); refine vCall_eq (d4) (by simp (disch := omega) only [go_sem, Nat.reduceAdd]) rfl (by first | exact Or.inl rfl | exact Or.inr ⟨rfl, rfl⟩ | (apply Or.inr; simp only [go_sem])) ?_; (try (repeat (first | simp (maxSteps := 2000000) (disch := omega) only [go_sem, ↓reduceIte, Nat.reduceEqDiff, Nat.reduceAdd, Nat.reduceMul, Nat.reduceSub, Int.reduceToNat, Int.reduceAdd, Int.reduceSub, Int.reduceMul, Int.reduceNeg] | with_reducible refine vIf_t ?_ | with_reducible refine vIf_f ?_))))
  (try (repeat (first | simp (maxSteps := 2000000) (disch := omega) only [go_sem, ↓reduceIte, Nat.reduceEqDiff, Nat.reduceAdd, Nat.reduceMul, Nat.reduceSub, Int.reduceToNat, Int.reduceAdd, Int.reduceSub, Int.reduceMul, Int.reduceNeg] | with_reducible refine vIf_t ?_ | with_reducible refine vIf_f ?_)))
  (refine retK_of ?_; (repeat (first | simp (maxSteps := 2000000) (disch := omega) only [go_sem, ↓reduceIte, Nat.reduceEqDiff, Nat.reduceAdd, Nat.reduceMul, Nat.reduceSub, Int.reduceToNat, Int.reduceAdd, Int.reduceSub, Int.reduceMul, Int.reduceNeg] | with_reducible refine vIf_t ?_ | with_reducible refine vIf_f ?_)))
  exact St_txN (by simp [bilT, bilP, txN])
set_option maxRecDepth 20000 in
theorem readBill_ok (b : Bl) (h : OkB b) : ACalls Tryd.prog 16 [St (tx (bilT b))] [] (fun r o => r = .tup [.agg b.cells, B true] ∧ o = []) := by
  refine ACalls.of_vc Tryd.func16 rfl (by decide) 36 rfl [.cell 2 39, .tmp 3] rfl (by simp) ?_
  obtain ⟨o1, o2, o3, o4⟩ := nOkB h
  have hl := len_txN (bilP b) [] 8 (by simp [bilP, o1, o2, o3, o4])
  have hnum := numbersIn_ok (bilT b) [b.owner, b.day, b.amt, b.paid] (asc_txN _ _ rfl rfl) (by unfold bilT; simp [bilP] at hl; simp only [bilP]; omega) (flG_txN _ _ rfl rfl rfl) (by simp [o1, o2, o3, o4]) (by simp)
  have h1 := isBill_ok b h
  have h3 := billText_ok b h
  have g0 : gi [b.owner, b.day, b.amt, b.paid] 0 = b.owner := rfl
  have g1 : gi [b.owner, b.day, b.amt, b.paid] 1 = b.day := rfl
  have g2 : gi [b.owner, b.day, b.amt, b.paid] 2 = b.amt := rfl
  have g3 : gi [b.owner, b.day, b.amt, b.paid] 3 = b.paid := rfl
  unfold Bl.cells at h1 h3 ⊢
  (repeat (first | simp (maxSteps := 2000000) (disch := omega) only [go_sem, ↓reduceIte, Nat.reduceEqDiff, Nat.reduceAdd, Nat.reduceMul, Nat.reduceSub, Int.reduceToNat, Int.reduceAdd, Int.reduceSub, Int.reduceMul, Int.reduceNeg] | with_reducible refine vIf_t ?_ | with_reducible refine vIf_f ?_))
  (refine vCallX_of ?_; (repeat (first | simp (maxSteps := 2000000) (disch := omega) only [go_sem, ↓reduceIte, Nat.reduceEqDiff, Nat.reduceAdd, Nat.reduceMul, Nat.reduceSub, Int.reduceToNat, Int.reduceAdd, Int.reduceSub, Int.reduceMul, Int.reduceNeg] | with_reducible refine vIf_t ?_ | with_reducible refine vIf_f ?_)); refine vCall_eq (hnum) (by simp (disch := omega) only [go_sem, Nat.reduceAdd]) rfl (by first | exact Or.inl rfl | exact Or.inr ⟨rfl, rfl⟩ | (apply Or.inr; simp only [go_sem])) ?_; (repeat (first | simp (maxSteps := 2000000) (disch := omega) only [go_sem, ↓reduceIte, Nat.reduceEqDiff, Nat.reduceAdd, Nat.reduceMul, Nat.reduceSub, Int.reduceToNat, Int.reduceAdd, Int.reduceSub, Int.reduceMul, Int.reduceNeg] | with_reducible refine vIf_t ?_ | with_reducible refine vIf_f ?_)))
  (refine vDraw_tr 14 (.rd 0 (.rd 1 (.rd 2 (.rd 3 (.rd 4 (.rd 5 (.rd 6 (.rd 7 (.rd 8 (.rd 9 (.rd 10 (.rd 11 (.alt 12 (.alt 13 (.done) (.stop)) (.alt 13 (.alt 12 (.done) (.stop)) (.stop))))))))))))))) (fun _ : Unit => True) (fun _ => ⟨36, 0, [(2, .ptr 0 0), (0, St (tx (bilT b))), (5, .ptr 1 0), (24, .agg [I b.owner, I b.day, I b.amt, I b.paid])], [some ⟨4, [I 0, I 0, I 0, I 0]⟩, some ⟨4, [I 0, I 0, I 0, I 0]⟩]⟩) mixed (by kernel_rfl) ?_ ?_)
  · (repeat (first | simp (maxSteps := 2000000) (disch := omega) only [go_sem, ↓reduceIte, Nat.reduceEqDiff, Nat.reduceAdd, Nat.reduceMul, Nat.reduceSub, Int.reduceToNat, Int.reduceAdd, Int.reduceSub, Int.reduceMul, Int.reduceNeg, g0, g1, g2, g3] | with_reducible refine vIf_t ?_ | with_reducible refine vIf_f ?_))
    repeat' (first | refine And.intro ?_ ?_ | (refine ⟨(), _, Frz.refl _, Or.inr ?_⟩; (repeat (first | simp (maxSteps := 2000000) (disch := omega) only [go_sem, ↓reduceIte, Nat.reduceEqDiff, Nat.reduceAdd, Nat.reduceMul, Nat.reduceSub, Int.reduceToNat, Int.reduceAdd, Int.reduceSub, Int.reduceMul, Int.reduceNeg, g0, g1, g2, g3] | with_reducible refine vIf_t ?_ | with_reducible refine vIf_f ?_))))
  · intro _ _
    simp only [List.drop_succ_cons, List.drop_zero, List.drop_nil]
    (repeat (first | simp (maxSteps := 2000000) (disch := omega) only [go_sem, ↓reduceIte, Nat.reduceEqDiff, Nat.reduceAdd, Nat.reduceMul, Nat.reduceSub, Int.reduceToNat, Int.reduceAdd, Int.reduceSub, Int.reduceMul, Int.reduceNeg] | with_reducible refine vIf_t ?_ | with_reducible refine vIf_f ?_))
    (refine vCallX_of ?_; (repeat (first | simp (maxSteps := 2000000) (disch := omega) only [go_sem, ↓reduceIte, Nat.reduceEqDiff, Nat.reduceAdd, Nat.reduceMul, Nat.reduceSub, Int.reduceToNat, Int.reduceAdd, Int.reduceSub, Int.reduceMul, Int.reduceNeg] | with_reducible refine vIf_t ?_ | with_reducible refine vIf_f ?_)); refine vCall_eq (h1) (by simp (disch := omega) only [go_sem, Nat.reduceAdd]) rfl (by first | exact Or.inl rfl | exact Or.inr ⟨rfl, rfl⟩ | (apply Or.inr; simp only [go_sem])) ?_; (repeat (first | simp (maxSteps := 2000000) (disch := omega) only [go_sem, ↓reduceIte, Nat.reduceEqDiff, Nat.reduceAdd, Nat.reduceMul, Nat.reduceSub, Int.reduceToNat, Int.reduceAdd, Int.reduceSub, Int.reduceMul, Int.reduceNeg] | with_reducible refine vIf_t ?_ | with_reducible refine vIf_f ?_)))
    (refine vCallX_of ?_; (repeat (first | simp (maxSteps := 2000000) (disch := omega) only [go_sem, ↓reduceIte, Nat.reduceEqDiff, Nat.reduceAdd, Nat.reduceMul, Nat.reduceSub, Int.reduceToNat, Int.reduceAdd, Int.reduceSub, Int.reduceMul, Int.reduceNeg] | with_reducible refine vIf_t ?_ | with_reducible refine vIf_f ?_)); refine vCall_eq (h3) (by simp (disch := omega) only [go_sem, Nat.reduceAdd]) rfl (by first | exact Or.inl rfl | exact Or.inr ⟨rfl, rfl⟩ | (apply Or.inr; simp only [go_sem])) ?_; (repeat (first | simp (maxSteps := 2000000) (disch := omega) only [go_sem, ↓reduceIte, Nat.reduceEqDiff, Nat.reduceAdd, Nat.reduceMul, Nat.reduceSub, Int.reduceToNat, Int.reduceAdd, Int.reduceSub, Int.reduceMul, Int.reduceNeg] | with_reducible refine vIf_t ?_ | with_reducible refine vIf_f ?_)))
    (refine retK_of ?_; (repeat (first | simp (maxSteps := 2000000) (disch := omega) only [go_sem, ↓reduceIte, Nat.reduceEqDiff, Nat.reduceAdd, Nat.reduceMul, Nat.reduceSub, Int.reduceToNat, Int.reduceAdd, Int.reduceSub, Int.reduceMul, Int.reduceNeg] | with_reducible refine vIf_t ?_ | with_reducible refine vIf_f ?_)))
end Go.Proofs.YtneokdflhleidaaDoor

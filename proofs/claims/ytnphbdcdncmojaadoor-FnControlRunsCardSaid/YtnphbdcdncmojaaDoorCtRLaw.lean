/- switches' texts; the law of runs of the control -/
import Derived.Test.YtnphbdcdncmojaaDoorCtR1
import Derived.Test.YtnphbdcdncmojaaDoorT4
import Derived.Test.YtnphbdcdncmojaaDoorA2
set_option linter.unusedVariables false
set_option linter.unusedSimpArgs false
namespace Go.Proofs.YtnphbdcdncmojaaDoor
open Go.AG Go.Lib

attribute [local go_sem] beq_self_eq_true bne_self_eq_false Bool.not_true
def swiT (w : Sw) : List UInt8 := txN [([111, 110, 32], w.on), ([32, 111, 102, 102, 32], w.off)] []
theorem okW_bd {w : Sw} (h : okW w = true) : (-2000 ≤ w.on ∧ w.on ≤ 2000) ∧ (-2000 ≤ w.off ∧ w.off ≤ 2000) := by
  simp only [okW, Bool.and_eq_true, decide_eq_true_eq] at h
  exact ⟨h.1, h.2.1⟩
theorem switchText_ok (w : Sw) (hw : okW w = true) : ACalls Tryd.prog 13 [.agg w.cells] [] (fun r o => r = St (tx (swiT w)) ∧ o = []) := by
  refine ACalls.of_vc Tryd.func13 rfl (by decide) 15 rfl [.tmp 2] rfl (by simp) ?_
  obtain ⟨b1, b2⟩ := okW_bd hw
  have h1 := validW_ok w
  rw [hw] at h1
  have d1 := decimal_ok w.on (by omega)
  have d2 := decimal_ok w.off (by omega)
  have l1 := itoa_len w.on (by unfold nOk; omega)
  have l2 := itoa_len w.off (by unfold nOk; omega)
  unfold Sw.cells at h1 ⊢
  (repeat (first | simp (maxSteps := 40000000) (disch := omega) only [go_sem, Nat.reduceEqDiff, Nat.reduceAdd, Nat.reduceMul, Nat.reduceSub, Int.reduceToNat, Int.reduceAdd, Int.reduceSub, Int.reduceMul, Int.reduceNeg] | refine vIf_t ?_ | refine vIf_f ?_))
  (refine vCallX_of ?_; (repeat (first | simp (maxSteps := 40000000) (disch := omega) only [go_sem, Nat.reduceEqDiff, Nat.reduceAdd, Nat.reduceMul, Nat.reduceSub, Int.reduceToNat, Int.reduceAdd, Int.reduceSub, Int.reduceMul, Int.reduceNeg] | refine vIf_t ?_ | refine vIf_f ?_)); refine vCall_eq (h1) (by simp (disch := omega) only [go_sem, Nat.reduceAdd]) rfl (by first | exact Or.inl rfl | exact Or.inr ⟨rfl, rfl⟩ | (apply Or.inr; simp only [go_sem])) ?_; (repeat (first | simp (maxSteps := 40000000) (disch := omega) only [go_sem, Nat.reduceEqDiff, Nat.reduceAdd, Nat.reduceMul, Nat.reduceSub, Int.reduceToNat, Int.reduceAdd, Int.reduceSub, Int.reduceMul, Int.reduceNeg] | refine vIf_t ?_ | refine vIf_f ?_)))
  (refine vDraw_sch 8 [(0, false), (5, false), (1, false), (6, false), (2, false), (3, false), (4, false), (7, false)] mixed (by kernel_rfl) ?_; simp only [List.cons_append, List.nil_append, List.map_cons, List.map_nil, nthO_zero, nthO_succ, List.drop_succ_cons, List.drop_zero, List.drop_nil]; (repeat (first | simp (maxSteps := 40000000) (disch := omega) only [go_sem, Nat.reduceEqDiff, Nat.reduceAdd, Nat.reduceMul, Nat.reduceSub, Int.reduceToNat, Int.reduceAdd, Int.reduceSub, Int.reduceMul, Int.reduceNeg] | refine vIf_t ?_ | refine vIf_f ?_)))
  (refine vsCallX_of ?_; (try (repeat (first | simp (maxSteps := 40000000) (disch := omega) only [go_sem, Nat.reduceEqDiff, Nat.reduceAdd, Nat.reduceMul, Nat.reduceSub, Int.reduceToNat, Int.reduceAdd, Int.reduceSub, Int.reduceMul, Int.reduceNeg] | refine vIf_t ?_ | refine vIf_f ?_))); refine vCall_eq (d1) (by simp (disch := omega) only [go_sem, Nat.reduceAdd]) rfl (by first | exact Or.inl rfl | exact Or.inr ⟨rfl, rfl⟩ | (apply Or.inr; simp only [go_sem])) ?_; (try (repeat (first | simp (maxSteps := 40000000) (disch := omega) only [go_sem, Nat.reduceEqDiff, Nat.reduceAdd, Nat.reduceMul, Nat.reduceSub, Int.reduceToNat, Int.reduceAdd, Int.reduceSub, Int.reduceMul, Int.reduceNeg] | refine vIf_t ?_ | refine vIf_f ?_))))
  (refine vsCallX_of ?_; (try (repeat (first | simp (maxSteps := 40000000) (disch := omega) only [go_sem, Nat.reduceEqDiff, Nat.reduceAdd, Nat.reduceMul, Nat.reduceSub, Int.reduceToNat, Int.reduceAdd, Int.reduceSub, Int.reduceMul, Int.reduceNeg] | refine vIf_t ?_ | refine vIf_f ?_))); refine vCall_eq (d2) (by simp (disch := omega) only [go_sem, Nat.reduceAdd]) rfl (by first | exact Or.inl rfl | exact Or.inr ⟨rfl, rfl⟩ | (apply Or.inr; simp only [go_sem])) ?_; (try (repeat (first | simp (maxSteps := 40000000) (disch := omega) only [go_sem, Nat.reduceEqDiff, Nat.reduceAdd, Nat.reduceMul, Nat.reduceSub, Int.reduceToNat, Int.reduceAdd, Int.reduceSub, Int.reduceMul, Int.reduceNeg] | refine vIf_t ?_ | refine vIf_f ?_))))
  (try (repeat (first | simp (maxSteps := 40000000) (disch := omega) only [go_sem, Nat.reduceEqDiff, Nat.reduceAdd, Nat.reduceMul, Nat.reduceSub, Int.reduceToNat, Int.reduceAdd, Int.reduceSub, Int.reduceMul, Int.reduceNeg] | refine vIf_t ?_ | refine vIf_f ?_)))
  (refine retK_of ?_; (repeat (first | simp (maxSteps := 40000000) (disch := omega) only [go_sem, Nat.reduceEqDiff, Nat.reduceAdd, Nat.reduceMul, Nat.reduceSub, Int.reduceToNat, Int.reduceAdd, Int.reduceSub, Int.reduceMul, Int.reduceNeg] | refine vIf_t ?_ | refine vIf_f ?_)))
  exact St_txN (by simp [swiT, txN])
set_option maxRecDepth 20000 in
theorem readSwitch_ok (w : Sw) (hw : okW w = true) : ACalls Tryd.prog 12 [St (tx (swiT w))] [] (fun r o => r = .tup [.agg w.cells, B true] ∧ o = []) := by
  refine ACalls.of_vc Tryd.func12 rfl (by decide) 30 rfl [.cell 2 28, .tmp 3] rfl (by simp) ?_
  obtain ⟨b1, b2⟩ := okW_bd hw
  have o1 : nOk w.on := by unfold nOk; omega
  have o2 : nOk w.off := by unfold nOk; omega
  have hl := len_txN [([111, 110, 32], w.on), ([32, 111, 102, 102, 32], w.off)] [] 5 (by simp [o1, o2])
  have hnum := numbersIn_ok (swiT w) [w.on, w.off] (asc_txN _ _ rfl rfl) (by unfold swiT; simp at hl; omega) (flG_txN _ _ rfl rfl rfl) (by simp [o1, o2]) (by simp)
  have h1 := validW_ok w
  rw [hw] at h1
  have h3 := switchText_ok w hw
  have g0 : gi [w.on, w.off] 0 = w.on := rfl
  have g1 : gi [w.on, w.off] 1 = w.off := rfl
  unfold Sw.cells at h1 h3 ⊢
  (repeat (first | simp (maxSteps := 40000000) (disch := omega) only [go_sem, Nat.reduceEqDiff, Nat.reduceAdd, Nat.reduceMul, Nat.reduceSub, Int.reduceToNat, Int.reduceAdd, Int.reduceSub, Int.reduceMul, Int.reduceNeg] | refine vIf_t ?_ | refine vIf_f ?_))
  (refine vCallX_of ?_; (repeat (first | simp (maxSteps := 40000000) (disch := omega) only [go_sem, Nat.reduceEqDiff, Nat.reduceAdd, Nat.reduceMul, Nat.reduceSub, Int.reduceToNat, Int.reduceAdd, Int.reduceSub, Int.reduceMul, Int.reduceNeg] | refine vIf_t ?_ | refine vIf_f ?_)); refine vCall_eq (hnum) (by simp (disch := omega) only [go_sem, Nat.reduceAdd]) rfl (by first | exact Or.inl rfl | exact Or.inr ⟨rfl, rfl⟩ | (apply Or.inr; simp only [go_sem])) ?_; (repeat (first | simp (maxSteps := 40000000) (disch := omega) only [go_sem, Nat.reduceEqDiff, Nat.reduceAdd, Nat.reduceMul, Nat.reduceSub, Int.reduceToNat, Int.reduceAdd, Int.reduceSub, Int.reduceMul, Int.reduceNeg] | refine vIf_t ?_ | refine vIf_f ?_)))
  (refine vDraw_tr 8 (.rd 0 (.rd 1 (.rd 2 (.rd 3 (.rd 4 (.rd 5 (.alt 6 (.alt 7 (.done) (.stop)) (.alt 7 (.alt 6 (.done) (.stop)) (.stop))))))))) (fun _ : Unit => True) (fun _ => ⟨30, 0, [(2, .ptr 0 0), (0, St (tx (swiT w))), (5, .ptr 1 0), (18, .agg [I w.on, I w.off])], [some ⟨2, [I 0, I 0]⟩, some ⟨2, [I 0, I 0]⟩]⟩) mixed (by kernel_rfl) ?_ ?_)
  · (repeat (first | simp (maxSteps := 40000000) (disch := omega) only [go_sem, Nat.reduceEqDiff, Nat.reduceAdd, Nat.reduceMul, Nat.reduceSub, Int.reduceToNat, Int.reduceAdd, Int.reduceSub, Int.reduceMul, Int.reduceNeg, g0, g1] | refine vIf_t ?_ | refine vIf_f ?_))
    repeat' (first | refine And.intro ?_ ?_ | (refine ⟨(), _, Frz.refl _, Or.inr ?_⟩; (repeat (first | simp (maxSteps := 40000000) (disch := omega) only [go_sem, Nat.reduceEqDiff, Nat.reduceAdd, Nat.reduceMul, Nat.reduceSub, Int.reduceToNat, Int.reduceAdd, Int.reduceSub, Int.reduceMul, Int.reduceNeg, g0, g1] | refine vIf_t ?_ | refine vIf_f ?_))))
  · intro _ _
    simp only [List.drop_succ_cons, List.drop_zero, List.drop_nil]
    (repeat (first | simp (maxSteps := 40000000) (disch := omega) only [go_sem, Nat.reduceEqDiff, Nat.reduceAdd, Nat.reduceMul, Nat.reduceSub, Int.reduceToNat, Int.reduceAdd, Int.reduceSub, Int.reduceMul, Int.reduceNeg] | refine vIf_t ?_ | refine vIf_f ?_))
    (refine vCallX_of ?_; (repeat (first | simp (maxSteps := 40000000) (disch := omega) only [go_sem, Nat.reduceEqDiff, Nat.reduceAdd, Nat.reduceMul, Nat.reduceSub, Int.reduceToNat, Int.reduceAdd, Int.reduceSub, Int.reduceMul, Int.reduceNeg] | refine vIf_t ?_ | refine vIf_f ?_)); refine vCall_eq (h1) (by simp (disch := omega) only [go_sem, Nat.reduceAdd]) rfl (by first | exact Or.inl rfl | exact Or.inr ⟨rfl, rfl⟩ | (apply Or.inr; simp only [go_sem])) ?_; (repeat (first | simp (maxSteps := 40000000) (disch := omega) only [go_sem, Nat.reduceEqDiff, Nat.reduceAdd, Nat.reduceMul, Nat.reduceSub, Int.reduceToNat, Int.reduceAdd, Int.reduceSub, Int.reduceMul, Int.reduceNeg] | refine vIf_t ?_ | refine vIf_f ?_)))
    (refine vCallX_of ?_; (repeat (first | simp (maxSteps := 40000000) (disch := omega) only [go_sem, Nat.reduceEqDiff, Nat.reduceAdd, Nat.reduceMul, Nat.reduceSub, Int.reduceToNat, Int.reduceAdd, Int.reduceSub, Int.reduceMul, Int.reduceNeg] | refine vIf_t ?_ | refine vIf_f ?_)); refine vCall_eq (h3) (by simp (disch := omega) only [go_sem, Nat.reduceAdd]) rfl (by first | exact Or.inl rfl | exact Or.inr ⟨rfl, rfl⟩ | (apply Or.inr; simp only [go_sem])) ?_; (repeat (first | simp (maxSteps := 40000000) (disch := omega) only [go_sem, Nat.reduceEqDiff, Nat.reduceAdd, Nat.reduceMul, Nat.reduceSub, Int.reduceToNat, Int.reduceAdd, Int.reduceSub, Int.reduceMul, Int.reduceNeg] | refine vIf_t ?_ | refine vIf_f ?_)))
    (refine retK_of ?_; (repeat (first | simp (maxSteps := 40000000) (disch := omega) only [go_sem, Nat.reduceEqDiff, Nat.reduceAdd, Nat.reduceMul, Nat.reduceSub, Int.reduceToNat, Int.reduceAdd, Int.reduceSub, Int.reduceMul, Int.reduceNeg] | refine vIf_t ?_ | refine vIf_f ?_)))
theorem rnK_lt {c : Cv} {w : Sw} {vol rate : Int} {xs : List Int} {k : Nat} {s t : Cs} (hk : k + 1 ≤ xs.length) (hs : rnK c w vol rate xs k = some s) (hl : s.hs.length = k) {y : Hr} {v : Int} {b : Bool} (h2 : rnK c w vol rate xs (k + 1) = some ⟨v, b, s.hs ++ [y]⟩) (ht : rnA c w vol rate xs = some t) : gHr t.hs k = y := by
  obtain ⟨r, hr⟩ := rnK_pre (m := xs.length) hk h2 ht
  rw [hr, gHr_app_l _ _ _ (by simp; omega), gHr_app_r _ _ _ (by omega), hl, Nat.sub_self]
  rfl
theorem rnK_run {c : Cv} {w : Sw} {vol rate : Int} {xs : List Int} {k : Nat} {s : Cs} (hs : rnK c w vol rate xs k = some s) : swL s.hs = s.run := by
  cases k with
  | zero => rw [rnK] at hs; cases hs; rfl
  | succ k =>
    rw [rnK] at hs
    cases h1 : rnK c w vol rate xs k with
    | none => rw [h1] at hs; exact absurd hs (by simp)
    | some u =>
      rw [h1] at hs
      simp only [Option.bind_some, stpC] at hs
      split at hs
      · exact absurd hs (by simp)
      · cases hs
        exact (swN_snoc _ _).2
theorem rcN_nil : rcN [] = 0 := rfl
theorem swN_nil : swN [] = 0 := rfl
theorem swN_bd (hs : List Hr) : 0 ≤ swN hs ∧ swN hs ≤ hs.length := swK_bd hs hs.length
-- steps 40000000
set_option maxRecDepth 100000 in
set_option maxHeartbeats 32000000 in
theorem controlLaw_ok (code more : List Int) (hb : bOk code) (hl : code.length ≤ 9223372036854775807) (hb' : bOk more) (hl' : more.length ≤ 9223372036854775807) : ACalls Tryd.prog 3 [bS code, bS more] [] (fun r o => r = B true ∧ o = []) := by
  refine ACalls.of_vc Tryd.func3 rfl (by decide) 245 rfl [.tmp 4] rfl (by simp) ?_
  have hlong := a2Long_ok code more hl hl'
  unfold bS at hlong ⊢
  (repeat (first | simp (maxSteps := 40000000) (disch := omega) only [go_sem, Nat.reduceEqDiff, Nat.reduceAdd, Nat.reduceMul, Nat.reduceSub, Int.reduceToNat, Int.reduceAdd, Int.reduceSub, Int.reduceMul, Int.reduceNeg] | refine vIf_t ?_ | refine vIf_f ?_))
  (refine vCallX_of ?_; (repeat (first | simp (maxSteps := 40000000) (disch := omega) only [go_sem, Nat.reduceEqDiff, Nat.reduceAdd, Nat.reduceMul, Nat.reduceSub, Int.reduceToNat, Int.reduceAdd, Int.reduceSub, Int.reduceMul, Int.reduceNeg] | refine vIf_t ?_ | refine vIf_f ?_)); refine vCall_eq (hlong) (by simp (disch := omega) only [go_sem, Nat.reduceAdd]) rfl (by first | exact Or.inl rfl | exact Or.inr ⟨rfl, rfl⟩ | (apply Or.inr; simp only [go_sem])) ?_; (repeat (first | simp (maxSteps := 40000000) (disch := omega) only [go_sem, Nat.reduceEqDiff, Nat.reduceAdd, Nat.reduceMul, Nat.reduceSub, Int.reduceToNat, Int.reduceAdd, Int.reduceSub, Int.reduceMul, Int.reduceNeg] | refine vIf_t ?_ | refine vIf_f ?_)))
  cases hlg : (decide (3000 < (code.length : Int)) || decide (3000 < (more.length : Int))) with
  | true =>
    refine vIf_t ?_
    (repeat (first | simp (maxSteps := 40000000) (disch := omega) only [go_sem, Nat.reduceEqDiff, Nat.reduceAdd, Nat.reduceMul, Nat.reduceSub, Int.reduceToNat, Int.reduceAdd, Int.reduceSub, Int.reduceMul, Int.reduceNeg] | refine vIf_t ?_ | refine vIf_f ?_))
    (refine retK_of ?_; (repeat (first | simp (maxSteps := 40000000) (disch := omega) only [go_sem, Nat.reduceEqDiff, Nat.reduceAdd, Nat.reduceMul, Nat.reduceSub, Int.reduceToNat, Int.reduceAdd, Int.reduceSub, Int.reduceMul, Int.reduceNeg] | refine vIf_t ?_ | refine vIf_f ?_)))
  | false =>
    refine vIf_f ?_
    simp only [Bool.or_eq_false_iff, decide_eq_false_iff_not] at hlg
    have g : SrOk code := ⟨hb, by omega⟩
    have gm : SrOk more := ⟨hb', by omega⟩
    have d1 := a2Control_e g
    have d2 := a2Inflows1_e gm
    unfold bS at d1 d2
    (repeat (first | simp (maxSteps := 40000000) (disch := omega) only [go_sem, Nat.reduceEqDiff, Nat.reduceAdd, Nat.reduceMul, Nat.reduceSub, Int.reduceToNat, Int.reduceAdd, Int.reduceSub, Int.reduceMul, Int.reduceNeg] | refine vIf_t ?_ | refine vIf_f ?_))
    (refine vCallX_of ?_; (repeat (first | simp (maxSteps := 40000000) (disch := omega) only [go_sem, Nat.reduceEqDiff, Nat.reduceAdd, Nat.reduceMul, Nat.reduceSub, Int.reduceToNat, Int.reduceAdd, Int.reduceSub, Int.reduceMul, Int.reduceNeg] | refine vIf_t ?_ | refine vIf_f ?_)); refine vCall_ex (d1) (by simp (disch := omega) only [go_sem, Nat.reduceAdd]) rfl ?_); rintro _ _ ⟨c, w, vol, rate, rfl, rfl, hok, hla, hw, hv, hr⟩; (refine ⟨(by first | exact Or.inl rfl | exact Or.inr ⟨rfl, rfl⟩ | (apply Or.inr; simp only [go_sem])), ?_⟩; (repeat (first | simp (maxSteps := 40000000) (disch := omega) only [go_sem, Nat.reduceEqDiff, Nat.reduceAdd, Nat.reduceMul, Nat.reduceSub, Int.reduceToNat, Int.reduceAdd, Int.reduceSub, Int.reduceMul, Int.reduceNeg] | refine vIf_t ?_ | refine vIf_f ?_)))
    unfold Cv.cells Sw.cells
    (repeat (first | simp (maxSteps := 40000000) (disch := omega) only [go_sem, Nat.reduceEqDiff, Nat.reduceAdd, Nat.reduceMul, Nat.reduceSub, Int.reduceToNat, Int.reduceAdd, Int.reduceSub, Int.reduceMul, Int.reduceNeg] | refine vIf_t ?_ | refine vIf_f ?_))
    (refine vCallX_of ?_; (repeat (first | simp (maxSteps := 40000000) (disch := omega) only [go_sem, Nat.reduceEqDiff, Nat.reduceAdd, Nat.reduceMul, Nat.reduceSub, Int.reduceToNat, Int.reduceAdd, Int.reduceSub, Int.reduceMul, Int.reduceNeg] | refine vIf_t ?_ | refine vIf_f ?_)); refine vCall_ex (d2) (by simp (disch := omega) only [go_sem, Nat.reduceAdd]) rfl ?_); rintro _ _ ⟨xs, rfl, rfl, hx, hn1, hn2⟩; (refine ⟨(by first | exact Or.inl rfl | exact Or.inr ⟨rfl, rfl⟩ | (apply Or.inr; simp only [go_sem])), ?_⟩; (repeat (first | simp (maxSteps := 40000000) (disch := omega) only [go_sem, Nat.reduceEqDiff, Nat.reduceAdd, Nat.reduceMul, Nat.reduceSub, Int.reduceToNat, Int.reduceAdd, Int.reduceSub, Int.reduceMul, Int.reduceNeg] | refine vIf_t ?_ | refine vIf_f ?_)))
    have F : CtF c vol rate xs := ⟨okC_f hok, hv, ⟨hr.1, by omega⟩, fun y hy => by have := hx y hy; omega, by omega⟩
    have okw : okW w = true := hw.ok
    have p1 := runControlI_ok c w vol rate xs F hok okw
    have p2 := switchText_ok w okw
    have p3 := readSwitch_ok w okw
    have hHb := rnH_bd (w := w) F
    obtain ⟨hs, e2⟩ : ∃ hs, rnH c w vol rate xs = hs := ⟨_, rfl⟩
    obtain ⟨one, e1⟩ : ∃ one : Int, (if rnO c w vol rate xs = true then 0 else 10) = one := ⟨_, rfl⟩
    have hcase : (∃ t, rnA c w vol rate xs = some t ∧ one = 0 ∧ hs = t.hs) ∨ (rnA c w vol rate xs = none ∧ one = 10) := by
      unfold rnO at e1
      unfold rnH at e2
      cases hA : rnA c w vol rate xs with
      | none => rw [hA] at e1; exact .inr ⟨rfl, e1.symm⟩
      | some t => rw [hA] at e1 e2; exact .inl ⟨t, rfl, e1.symm, e2.symm⟩
    rw [e1, e2] at p1
    rw [e2] at hHb
    unfold Cv.cells Sw.cells at p1
    unfold Sw.cells at p2 p3
    have f := F.f
    have hvn := f.vn
    have h12 := f.n12
    have h2n := f.n2
    have ek : ((c.vl.length : Int) - 1).toNat = c.vl.length - 1 := by omega
    have et : gi c.vl (c.vl.length - 1) = gi c.vl (c.lv.length - 1) := by rw [hvn]
    (refine vCallX_fz 0 _ rfl (by (repeat (first | simp (maxSteps := 40000000) (disch := omega) only [go_sem, Nat.reduceEqDiff, Nat.reduceAdd, Nat.reduceMul, Nat.reduceSub, Int.reduceToNat, Int.reduceAdd, Int.reduceSub, Int.reduceMul, Int.reduceNeg] | refine vIf_t ?_ | refine vIf_f ?_))) ?_; (repeat (first | simp (maxSteps := 40000000) (disch := omega) only [go_sem, Nat.reduceEqDiff, Nat.reduceAdd, Nat.reduceMul, Nat.reduceSub, Int.reduceToNat, Int.reduceAdd, Int.reduceSub, Int.reduceMul, Int.reduceNeg] | refine vIf_t ?_ | refine vIf_f ?_)); refine vCallX_fz 1 _ rfl (by (repeat (first | simp (maxSteps := 40000000) (disch := omega) only [go_sem, Nat.reduceEqDiff, Nat.reduceAdd, Nat.reduceMul, Nat.reduceSub, Int.reduceToNat, Int.reduceAdd, Int.reduceSub, Int.reduceMul, Int.reduceNeg] | refine vIf_t ?_ | refine vIf_f ?_))) ?_; (repeat (first | simp (maxSteps := 40000000) (disch := omega) only [go_sem, Nat.reduceEqDiff, Nat.reduceAdd, Nat.reduceMul, Nat.reduceSub, Int.reduceToNat, Int.reduceAdd, Int.reduceSub, Int.reduceMul, Int.reduceNeg] | refine vIf_t ?_ | refine vIf_f ?_)); refine vCallX_fz 2 _ rfl (by (repeat (first | simp (maxSteps := 40000000) (disch := omega) only [go_sem, Nat.reduceEqDiff, Nat.reduceAdd, Nat.reduceMul, Nat.reduceSub, Int.reduceToNat, Int.reduceAdd, Int.reduceSub, Int.reduceMul, Int.reduceNeg] | refine vIf_t ?_ | refine vIf_f ?_))) ?_; (repeat (first | simp (maxSteps := 40000000) (disch := omega) only [go_sem, Nat.reduceEqDiff, Nat.reduceAdd, Nat.reduceMul, Nat.reduceSub, Int.reduceToNat, Int.reduceAdd, Int.reduceSub, Int.reduceMul, Int.reduceNeg] | refine vIf_t ?_ | refine vIf_f ?_)))
    (refine vCallX_of ?_; (repeat (first | simp (maxSteps := 40000000) (disch := omega) only [go_sem, Nat.reduceEqDiff, Nat.reduceAdd, Nat.reduceMul, Nat.reduceSub, Int.reduceToNat, Int.reduceAdd, Int.reduceSub, Int.reduceMul, Int.reduceNeg] | refine vIf_t ?_ | refine vIf_f ?_)); refine vCall_eq (p1) (by simp (disch := omega) only [go_sem, Nat.reduceAdd]) rfl (by first | exact Or.inl rfl | exact Or.inr ⟨rfl, rfl⟩ | (apply Or.inr; simp only [go_sem])) ?_; (repeat (first | simp (maxSteps := 40000000) (disch := omega) only [go_sem, Nat.reduceEqDiff, Nat.reduceAdd, Nat.reduceMul, Nat.reduceSub, Int.reduceToNat, Int.reduceAdd, Int.reduceSub, Int.reduceMul, Int.reduceNeg] | refine vIf_t ?_ | refine vIf_f ?_)))
    (refine vCallX_of ?_; (repeat (first | simp (maxSteps := 40000000) (disch := omega) only [go_sem, Nat.reduceEqDiff, Nat.reduceAdd, Nat.reduceMul, Nat.reduceSub, Int.reduceToNat, Int.reduceAdd, Int.reduceSub, Int.reduceMul, Int.reduceNeg] | refine vIf_t ?_ | refine vIf_f ?_)); refine vCall_eq (p2) (by simp (disch := omega) only [go_sem, Nat.reduceAdd]) rfl (by first | exact Or.inl rfl | exact Or.inr ⟨rfl, rfl⟩ | (apply Or.inr; simp only [go_sem])) ?_; (repeat (first | simp (maxSteps := 40000000) (disch := omega) only [go_sem, Nat.reduceEqDiff, Nat.reduceAdd, Nat.reduceMul, Nat.reduceSub, Int.reduceToNat, Int.reduceAdd, Int.reduceSub, Int.reduceMul, Int.reduceNeg] | refine vIf_t ?_ | refine vIf_f ?_)))
    (refine vCallX_of ?_; (repeat (first | simp (maxSteps := 40000000) (disch := omega) only [go_sem, Nat.reduceEqDiff, Nat.reduceAdd, Nat.reduceMul, Nat.reduceSub, Int.reduceToNat, Int.reduceAdd, Int.reduceSub, Int.reduceMul, Int.reduceNeg] | refine vIf_t ?_ | refine vIf_f ?_)); refine vCall_eq (p3) (by simp (disch := omega) only [go_sem, Nat.reduceAdd]) rfl (by first | exact Or.inl rfl | exact Or.inr ⟨rfl, rfl⟩ | (apply Or.inr; simp only [go_sem])) ?_; (repeat (first | simp (maxSteps := 40000000) (disch := omega) only [go_sem, Nat.reduceEqDiff, Nat.reduceAdd, Nat.reduceMul, Nat.reduceSub, Int.reduceToNat, Int.reduceAdd, Int.reduceSub, Int.reduceMul, Int.reduceNeg] | refine vIf_t ?_ | refine vIf_f ?_)))
    (try (repeat (first | simp (maxSteps := 40000000) (disch := omega) only [go_sem, Nat.reduceEqDiff, Nat.reduceAdd, Nat.reduceMul, Nat.reduceSub, Int.reduceToNat, Int.reduceAdd, Int.reduceSub, Int.reduceMul, Int.reduceNeg, ek] | refine vIf_t ?_ | refine vIf_f ?_)))
    (try (repeat (first | simp (maxSteps := 40000000) (disch := omega) only [go_sem, Nat.reduceEqDiff, Nat.reduceAdd, Nat.reduceMul, Nat.reduceSub, Int.reduceToNat, Int.reduceAdd, Int.reduceSub, Int.reduceMul, Int.reduceNeg, et] | refine vIf_t ?_ | refine vIf_f ?_)))
    refine vcLoop_invF (fun x : Nat × Cs => x.1 ≤ xs.length ∧ rnK c w vol rate xs x.1 = some x.2) (fun x => ⟨245, 0, [(19, I x.1), (17, I (rcN x.2.hs)), (14, I x.2.vol), (16, I (swN x.2.hs)), (15, B x.2.run), (11, I one), (10, .sl hs.length (cHr hs)), (9, .sl xs.length (ints xs)), (5, .ip [.sl c.lv.length (ints c.lv), .sl c.vl.length (ints c.vl)] 0), (18, I (gi c.vl (c.lv.length - 1))), (8, I rate), (6, .ip [I w.on, I w.off] 0)], []⟩) (fun x => xs.length - x.1) (0, ⟨vol, false, []⟩) ⟨by simp, rfl⟩ (by refine leF_s ?_; (repeat (first | simp (maxSteps := 40000000) (disch := omega) only [go_sem, Nat.reduceEqDiff, Nat.reduceAdd, Nat.reduceMul, Nat.reduceSub, Int.reduceToNat, Int.reduceAdd, Int.reduceSub, Int.reduceMul, Int.reduceNeg, rcN_nil, swN_nil] | refine vIf_t ?_ | refine vIf_f ?_))) ?_
    rintro ⟨k, v, run, hh⟩ ⟨hk, hs'⟩
    simp only at hk hs'
    have bd := rnK_bd F k hk _ hs'
    simp only at bd
    have hrun := rnK_run hs'
    simp only at hrun
    (repeat (first | simp (maxSteps := 40000000) (disch := omega) only [go_sem, Nat.reduceEqDiff, Nat.reduceAdd, Nat.reduceMul, Nat.reduceSub, Int.reduceToNat, Int.reduceAdd, Int.reduceSub, Int.reduceMul, Int.reduceNeg] | refine vIf_t ?_ | refine vIf_f ?_))
    refine vIf_dec (fun h5 => ?_) (fun h5 => ?_)
    · have hL := levelAtX_ok c v f hok bd.1
      have lb := lvx_bd f bd.1.2 bd.1.1
      have hN := runsNow_ok w (lvx c v) run okw lb
      obtain ⟨b, hbb⟩ : ∃ b, rnW w (lvx c v) run = b := ⟨_, rfl⟩
      rw [hbb] at hN
      have q := F.q k (by omega)
      have swb := swN_bd hh
      have rcb := rcN_bd hh
      obtain ⟨v', hv'⟩ : ∃ v', voN rate v (gi xs k) b = v' := ⟨_, rfl⟩
      have sn := (swN_snoc hh ⟨lvx c v', b⟩).1
      have rn := rcN_snoc hh ⟨lvx c v', b⟩
      rw [hrun] at sn
      simp only at sn rn
      obtain ⟨sw', hsw⟩ : ∃ z, (if (!(b == run)) = true then swN hh + 1 else swN hh) = z := ⟨_, rfl⟩
      rw [hsw] at sn
      unfold Cv.cells at hL
      unfold Sw.cells at hN
      have hr2 := F.r
      (repeat (first | simp (maxSteps := 40000000) (disch := omega) only [go_sem, Nat.reduceEqDiff, Nat.reduceAdd, Nat.reduceMul, Nat.reduceSub, Int.reduceToNat, Int.reduceAdd, Int.reduceSub, Int.reduceMul, Int.reduceNeg] | refine vIf_t ?_ | refine vIf_f ?_))
      (refine vCallX_of ?_; (repeat (first | simp (maxSteps := 40000000) (disch := omega) only [go_sem, Nat.reduceEqDiff, Nat.reduceAdd, Nat.reduceMul, Nat.reduceSub, Int.reduceToNat, Int.reduceAdd, Int.reduceSub, Int.reduceMul, Int.reduceNeg] | refine vIf_t ?_ | refine vIf_f ?_)); refine vCall_eq (hL) (by simp (disch := omega) only [go_sem, Nat.reduceAdd]) rfl (by first | exact Or.inl rfl | exact Or.inr ⟨rfl, rfl⟩ | (apply Or.inr; simp only [go_sem])) ?_; (repeat (first | simp (maxSteps := 40000000) (disch := omega) only [go_sem, Nat.reduceEqDiff, Nat.reduceAdd, Nat.reduceMul, Nat.reduceSub, Int.reduceToNat, Int.reduceAdd, Int.reduceSub, Int.reduceMul, Int.reduceNeg] | refine vIf_t ?_ | refine vIf_f ?_)))
      (refine vCallX_of ?_; (repeat (first | simp (maxSteps := 40000000) (disch := omega) only [go_sem, Nat.reduceEqDiff, Nat.reduceAdd, Nat.reduceMul, Nat.reduceSub, Int.reduceToNat, Int.reduceAdd, Int.reduceSub, Int.reduceMul, Int.reduceNeg] | refine vIf_t ?_ | refine vIf_f ?_)); refine vCall_eq (hN) (by simp (disch := omega) only [go_sem, Nat.reduceAdd]) rfl (by first | exact Or.inl rfl | exact Or.inr ⟨rfl, rfl⟩ | (apply Or.inr; simp only [go_sem])) ?_; (repeat (first | simp (maxSteps := 40000000) (disch := omega) only [go_sem, Nat.reduceEqDiff, Nat.reduceAdd, Nat.reduceMul, Nat.reduceSub, Int.reduceToNat, Int.reduceAdd, Int.reduceSub, Int.reduceMul, Int.reduceNeg] | refine vIf_t ?_ | refine vIf_f ?_)))
      refine vIf_join1 ⟨245, 0, [(19, I k), (17, I (rcN hh)), (14, I v), (16, I sw'), (22, B b), (11, I one), (10, .sl hs.length (cHr hs)), (9, .sl xs.length (ints xs)), (5, .ip [.sl c.lv.length (ints c.lv), .sl c.vl.length (ints c.vl)] 0), (18, I (gi c.vl (c.lv.length - 1))), (8, I rate), (6, .ip [I w.on, I w.off] 0)], []⟩ (fun h => ?_) (fun h => ?_) ?_
      · rw [if_pos h] at hsw
        (repeat (first | simp (maxSteps := 40000000) (disch := omega) only [go_sem, Nat.reduceEqDiff, Nat.reduceAdd, Nat.reduceMul, Nat.reduceSub, Int.reduceToNat, Int.reduceAdd, Int.reduceSub, Int.reduceMul, Int.reduceNeg] | refine vIf_t ?_ | refine vIf_f ?_))
        refine jnF () trivial ?_
        rw [← hsw]
        (first | (refine leF_s ?_; ((repeat (first | simp (maxSteps := 40000000) (disch := omega) only [go_sem, Nat.reduceEqDiff, Nat.reduceAdd, Nat.reduceMul, Nat.reduceSub, Int.reduceToNat, Int.reduceAdd, Int.reduceSub, Int.reduceMul, Int.reduceNeg] | refine vIf_t ?_ | refine vIf_f ?_)); all_goals (try simp); all_goals (try omega)); done) | (refine leF_p ?_; ((repeat (first | simp (maxSteps := 40000000) (disch := omega) only [go_sem, Nat.reduceEqDiff, Nat.reduceAdd, Nat.reduceMul, Nat.reduceSub, Int.reduceToNat, Int.reduceAdd, Int.reduceSub, Int.reduceMul, Int.reduceNeg] | refine vIf_t ?_ | refine vIf_f ?_)); all_goals (try simp); all_goals (try omega)); done))
      · rw [if_neg (by rw [h]; decide)] at hsw
        (repeat (first | simp (maxSteps := 40000000) (disch := omega) only [go_sem, Nat.reduceEqDiff, Nat.reduceAdd, Nat.reduceMul, Nat.reduceSub, Int.reduceToNat, Int.reduceAdd, Int.reduceSub, Int.reduceMul, Int.reduceNeg] | refine vIf_t ?_ | refine vIf_f ?_))
        refine jnF () trivial ?_
        rw [← hsw]
        (first | (refine leF_s ?_; ((repeat (first | simp (maxSteps := 40000000) (disch := omega) only [go_sem, Nat.reduceEqDiff, Nat.reduceAdd, Nat.reduceMul, Nat.reduceSub, Int.reduceToNat, Int.reduceAdd, Int.reduceSub, Int.reduceMul, Int.reduceNeg] | refine vIf_t ?_ | refine vIf_f ?_)); all_goals (try simp); all_goals (try omega)); done) | (refine leF_p ?_; ((repeat (first | simp (maxSteps := 40000000) (disch := omega) only [go_sem, Nat.reduceEqDiff, Nat.reduceAdd, Nat.reduceMul, Nat.reduceSub, Int.reduceToNat, Int.reduceAdd, Int.reduceSub, Int.reduceMul, Int.reduceNeg] | refine vIf_t ?_ | refine vIf_f ?_)); all_goals (try simp); all_goals (try omega)); done))
      have tail : ∀ ran' : Int, rcN (hh ++ [⟨lvx c v', b⟩]) = ran' → 0 ≤ v' →
          (gi c.vl (c.lv.length - 1) < v' ∧ one = 10) ∨ (¬ gi c.vl (c.lv.length - 1) < v' ∧ rnK c w vol rate xs (k + 1) = some ⟨v', b, hh ++ [⟨lvx c v', b⟩]⟩ ∧ ((one = 0 ∧ hs.length = xs.length ∧ gHr hs k = ⟨lvx c v', b⟩) ∨ one = 10)) := by
        intro ran' hran hv0
        by_cases h6 : gi c.vl (c.lv.length - 1) < v'
        · left
          refine ⟨h6, ?_⟩
          have hn := rnK_none (rnK_step hs' (stp_none hbb (by simp only; rw [hv']; exact h6))) (show k + 1 ≤ xs.length by omega)
          rcases hcase with ⟨t, ht, _, _⟩ | ⟨_, h⟩
          · unfold rnA at ht; rw [hn] at ht; cases ht
          · exact h
        · right
          have hst := rnK_step hs' (stp_some hbb hv' h6)
          refine ⟨h6, hst, ?_⟩
          rcases hcase with ⟨t, ht, h1, h2⟩ | ⟨_, h⟩
          · left
            have hlt := (rnK_bd F xs.length (Nat.le_refl _) t ht).2.1
            refine ⟨h1, by rw [h2]; exact hlt, ?_⟩
            rw [h2]
            exact rnK_lt (by omega) hs' bd.2.1 hst ht
          · exact .inr h
      cases b with
      | true =>
        have ew : v + gi xs k - (if rate < v + gi xs k then rate else v + gi xs k) = v' := by
          rw [← hv', voN, if_pos rfl]
          split <;> split <;> omega
        have hv0 : 0 ≤ v' ∧ v' ≤ 100000000 := by have := F.f.vb (c.lv.length - 1) (by omega); rw [← ew]; split <;> omega
        rw [if_pos rfl] at rn
        have tl := tail _ rn hv0.1
        (repeat (first | simp (maxSteps := 40000000) (disch := omega) only [go_sem, Nat.reduceEqDiff, Nat.reduceAdd, Nat.reduceMul, Nat.reduceSub, Int.reduceToNat, Int.reduceAdd, Int.reduceSub, Int.reduceMul, Int.reduceNeg, ew] | refine vIf_t ?_ | refine vIf_f ?_))
        rcases tl with ⟨t1, t2⟩ | ⟨t1, t2, t3⟩
        · have c1 : decide (gi c.vl (c.lv.length - 1) < v') = true := decide_eq_true t1
          subst t2
          (try (repeat (first | simp (maxSteps := 40000000) (disch := omega) only [go_sem, Nat.reduceEqDiff, Nat.reduceAdd, Nat.reduceMul, Nat.reduceSub, Int.reduceToNat, Int.reduceAdd, Int.reduceSub, Int.reduceMul, Int.reduceNeg, c1] | refine vIf_t ?_ | refine vIf_f ?_)))
          (refine retK_of ?_; (repeat (first | simp (maxSteps := 40000000) (disch := omega) only [go_sem, Nat.reduceEqDiff, Nat.reduceAdd, Nat.reduceMul, Nat.reduceSub, Int.reduceToNat, Int.reduceAdd, Int.reduceSub, Int.reduceMul, Int.reduceNeg] | refine vIf_t ?_ | refine vIf_f ?_)))
        · have c1 : decide (gi c.vl (c.lv.length - 1) < v') = false := decide_eq_false t1
          have hL2 := levelAtX_ok c v' f hok ⟨hv0.1, by omega⟩
          unfold Cv.cells at hL2
          (try (repeat (first | simp (maxSteps := 40000000) (disch := omega) only [go_sem, Nat.reduceEqDiff, Nat.reduceAdd, Nat.reduceMul, Nat.reduceSub, Int.reduceToNat, Int.reduceAdd, Int.reduceSub, Int.reduceMul, Int.reduceNeg, c1] | refine vIf_t ?_ | refine vIf_f ?_)))
          (refine vCallX_of ?_; (repeat (first | simp (maxSteps := 40000000) (disch := omega) only [go_sem, Nat.reduceEqDiff, Nat.reduceAdd, Nat.reduceMul, Nat.reduceSub, Int.reduceToNat, Int.reduceAdd, Int.reduceSub, Int.reduceMul, Int.reduceNeg] | refine vIf_t ?_ | refine vIf_f ?_)); refine vCall_eq (hL2) (by simp (disch := omega) only [go_sem, Nat.reduceAdd]) rfl (by first | exact Or.inl rfl | exact Or.inr ⟨rfl, rfl⟩ | (apply Or.inr; simp only [go_sem])) ?_; (repeat (first | simp (maxSteps := 40000000) (disch := omega) only [go_sem, Nat.reduceEqDiff, Nat.reduceAdd, Nat.reduceMul, Nat.reduceSub, Int.reduceToNat, Int.reduceAdd, Int.reduceSub, Int.reduceMul, Int.reduceNeg] | refine vIf_t ?_ | refine vIf_f ?_)))
          rcases t3 with ⟨rfl, t4, t5⟩ | rfl
          focus
            have t6 : ((hs.length : Int) != xs.length) = false := by rw [t4]; simp
            (try (repeat (first | simp (maxSteps := 40000000) (disch := omega) only [go_sem, Nat.reduceEqDiff, Nat.reduceAdd, Nat.reduceMul, Nat.reduceSub, Int.reduceToNat, Int.reduceAdd, Int.reduceSub, Int.reduceMul, Int.reduceNeg, t6, t5] | refine vIf_t ?_ | refine vIf_f ?_)))
          rotate_left
          focus (try (repeat (first | simp (maxSteps := 40000000) (disch := omega) only [go_sem, Nat.reduceEqDiff, Nat.reduceAdd, Nat.reduceMul, Nat.reduceSub, Int.reduceToNat, Int.reduceAdd, Int.reduceSub, Int.reduceMul, Int.reduceNeg] | refine vIf_t ?_ | refine vIf_f ?_)))
          all_goals
            refine againF (k + 1, ⟨v', _, hh ++ [⟨lvx c v', _⟩]⟩) ⟨by simp only; omega, t2⟩ (by simp only; omega) ?_
            simp only [sn, rn]
            (first | (refine leF_s ?_; ((repeat (first | simp (maxSteps := 40000000) (disch := omega) only [go_sem, Nat.reduceEqDiff, Nat.reduceAdd, Nat.reduceMul, Nat.reduceSub, Int.reduceToNat, Int.reduceAdd, Int.reduceSub, Int.reduceMul, Int.reduceNeg] | refine vIf_t ?_ | refine vIf_f ?_)); all_goals (try simp); all_goals (try omega)); done) | (refine leF_p ?_; ((repeat (first | simp (maxSteps := 40000000) (disch := omega) only [go_sem, Nat.reduceEqDiff, Nat.reduceAdd, Nat.reduceMul, Nat.reduceSub, Int.reduceToNat, Int.reduceAdd, Int.reduceSub, Int.reduceMul, Int.reduceNeg] | refine vIf_t ?_ | refine vIf_f ?_)); all_goals (try simp); all_goals (try omega)); done))
      | false =>
        have ew : v + gi xs k = v' := by rw [← hv', voN, if_neg (by decide)]
        have hv0 : 0 ≤ v' ∧ v' ≤ 100000000 := by omega
        rw [if_neg (by decide)] at rn
        have tl := tail _ rn hv0.1
        (repeat (first | simp (maxSteps := 40000000) (disch := omega) only [go_sem, Nat.reduceEqDiff, Nat.reduceAdd, Nat.reduceMul, Nat.reduceSub, Int.reduceToNat, Int.reduceAdd, Int.reduceSub, Int.reduceMul, Int.reduceNeg, ew] | refine vIf_t ?_ | refine vIf_f ?_))
        rcases tl with ⟨t1, t2⟩ | ⟨t1, t2, t3⟩
        · have c1 : decide (gi c.vl (c.lv.length - 1) < v') = true := decide_eq_true t1
          subst t2
          (try (repeat (first | simp (maxSteps := 40000000) (disch := omega) only [go_sem, Nat.reduceEqDiff, Nat.reduceAdd, Nat.reduceMul, Nat.reduceSub, Int.reduceToNat, Int.reduceAdd, Int.reduceSub, Int.reduceMul, Int.reduceNeg, c1] | refine vIf_t ?_ | refine vIf_f ?_)))
          (refine retK_of ?_; (repeat (first | simp (maxSteps := 40000000) (disch := omega) only [go_sem, Nat.reduceEqDiff, Nat.reduceAdd, Nat.reduceMul, Nat.reduceSub, Int.reduceToNat, Int.reduceAdd, Int.reduceSub, Int.reduceMul, Int.reduceNeg] | refine vIf_t ?_ | refine vIf_f ?_)))
        · have c1 : decide (gi c.vl (c.lv.length - 1) < v') = false := decide_eq_false t1
          have hL2 := levelAtX_ok c v' f hok ⟨hv0.1, by omega⟩
          unfold Cv.cells at hL2
          (try (repeat (first | simp (maxSteps := 40000000) (disch := omega) only [go_sem, Nat.reduceEqDiff, Nat.reduceAdd, Nat.reduceMul, Nat.reduceSub, Int.reduceToNat, Int.reduceAdd, Int.reduceSub, Int.reduceMul, Int.reduceNeg, c1] | refine vIf_t ?_ | refine vIf_f ?_)))
          (refine vCallX_of ?_; (repeat (first | simp (maxSteps := 40000000) (disch := omega) only [go_sem, Nat.reduceEqDiff, Nat.reduceAdd, Nat.reduceMul, Nat.reduceSub, Int.reduceToNat, Int.reduceAdd, Int.reduceSub, Int.reduceMul, Int.reduceNeg] | refine vIf_t ?_ | refine vIf_f ?_)); refine vCall_eq (hL2) (by simp (disch := omega) only [go_sem, Nat.reduceAdd]) rfl (by first | exact Or.inl rfl | exact Or.inr ⟨rfl, rfl⟩ | (apply Or.inr; simp only [go_sem])) ?_; (repeat (first | simp (maxSteps := 40000000) (disch := omega) only [go_sem, Nat.reduceEqDiff, Nat.reduceAdd, Nat.reduceMul, Nat.reduceSub, Int.reduceToNat, Int.reduceAdd, Int.reduceSub, Int.reduceMul, Int.reduceNeg] | refine vIf_t ?_ | refine vIf_f ?_)))
          rcases t3 with ⟨rfl, t4, t5⟩ | rfl
          focus
            have t6 : ((hs.length : Int) != xs.length) = false := by rw [t4]; simp
            (try (repeat (first | simp (maxSteps := 40000000) (disch := omega) only [go_sem, Nat.reduceEqDiff, Nat.reduceAdd, Nat.reduceMul, Nat.reduceSub, Int.reduceToNat, Int.reduceAdd, Int.reduceSub, Int.reduceMul, Int.reduceNeg, t6, t5] | refine vIf_t ?_ | refine vIf_f ?_)))
          rotate_left
          focus (try (repeat (first | simp (maxSteps := 40000000) (disch := omega) only [go_sem, Nat.reduceEqDiff, Nat.reduceAdd, Nat.reduceMul, Nat.reduceSub, Int.reduceToNat, Int.reduceAdd, Int.reduceSub, Int.reduceMul, Int.reduceNeg] | refine vIf_t ?_ | refine vIf_f ?_)))
          all_goals
            refine againF (k + 1, ⟨v', _, hh ++ [⟨lvx c v', _⟩]⟩) ⟨by simp only; omega, t2⟩ (by simp only; omega) ?_
            simp only [sn, rn]
            (first | (refine leF_s ?_; ((repeat (first | simp (maxSteps := 40000000) (disch := omega) only [go_sem, Nat.reduceEqDiff, Nat.reduceAdd, Nat.reduceMul, Nat.reduceSub, Int.reduceToNat, Int.reduceAdd, Int.reduceSub, Int.reduceMul, Int.reduceNeg] | refine vIf_t ?_ | refine vIf_f ?_)); all_goals (try simp); all_goals (try omega)); done) | (refine leF_p ?_; ((repeat (first | simp (maxSteps := 40000000) (disch := omega) only [go_sem, Nat.reduceEqDiff, Nat.reduceAdd, Nat.reduceMul, Nat.reduceSub, Int.reduceToNat, Int.reduceAdd, Int.reduceSub, Int.reduceMul, Int.reduceNeg] | refine vIf_t ?_ | refine vIf_f ?_)); all_goals (try simp); all_goals (try omega)); done))
    · have ek2 : k = xs.length := by omega
      subst ek2
      obtain ⟨h1, h2⟩ : one = 0 ∧ hs = hh := by
        rcases hcase with ⟨t, ht, h1, h2⟩ | ⟨h, _⟩
        · unfold rnA at ht
          rw [hs'] at ht
          cases ht
          exact ⟨h1, h2⟩
        · unfold rnA at h
          rw [hs'] at h
          cases h
      subst h1 h2
      have q1 := countI_ok hs hHb.1 hHb.2
      have q2 := hrRunning_ok hs hHb.1 hHb.2
      have q3 := highest_ok hs hHb.1 hHb.2 (by omega)
      (repeat (first | simp (maxSteps := 40000000) (disch := omega) only [go_sem, Nat.reduceEqDiff, Nat.reduceAdd, Nat.reduceMul, Nat.reduceSub, Int.reduceToNat, Int.reduceAdd, Int.reduceSub, Int.reduceMul, Int.reduceNeg] | refine vIf_t ?_ | refine vIf_f ?_))
      (refine vCallX_of ?_; (repeat (first | simp (maxSteps := 40000000) (disch := omega) only [go_sem, Nat.reduceEqDiff, Nat.reduceAdd, Nat.reduceMul, Nat.reduceSub, Int.reduceToNat, Int.reduceAdd, Int.reduceSub, Int.reduceMul, Int.reduceNeg] | refine vIf_t ?_ | refine vIf_f ?_)); refine vCall_eq (q1) (by simp (disch := omega) only [go_sem, Nat.reduceAdd]) rfl (by first | exact Or.inl rfl | exact Or.inr ⟨rfl, rfl⟩ | (apply Or.inr; simp only [go_sem])) ?_; (repeat (first | simp (maxSteps := 40000000) (disch := omega) only [go_sem, Nat.reduceEqDiff, Nat.reduceAdd, Nat.reduceMul, Nat.reduceSub, Int.reduceToNat, Int.reduceAdd, Int.reduceSub, Int.reduceMul, Int.reduceNeg] | refine vIf_t ?_ | refine vIf_f ?_)))
      (refine vCallX_of ?_; (repeat (first | simp (maxSteps := 40000000) (disch := omega) only [go_sem, Nat.reduceEqDiff, Nat.reduceAdd, Nat.reduceMul, Nat.reduceSub, Int.reduceToNat, Int.reduceAdd, Int.reduceSub, Int.reduceMul, Int.reduceNeg] | refine vIf_t ?_ | refine vIf_f ?_)); refine vCall_eq (q2) (by simp (disch := omega) only [go_sem, Nat.reduceAdd]) rfl (by first | exact Or.inl rfl | exact Or.inr ⟨rfl, rfl⟩ | (apply Or.inr; simp only [go_sem])) ?_; (repeat (first | simp (maxSteps := 40000000) (disch := omega) only [go_sem, Nat.reduceEqDiff, Nat.reduceAdd, Nat.reduceMul, Nat.reduceSub, Int.reduceToNat, Int.reduceAdd, Int.reduceSub, Int.reduceMul, Int.reduceNeg] | refine vIf_t ?_ | refine vIf_f ?_)))
      (refine vCallX_of ?_; (repeat (first | simp (maxSteps := 40000000) (disch := omega) only [go_sem, Nat.reduceEqDiff, Nat.reduceAdd, Nat.reduceMul, Nat.reduceSub, Int.reduceToNat, Int.reduceAdd, Int.reduceSub, Int.reduceMul, Int.reduceNeg] | refine vIf_t ?_ | refine vIf_f ?_)); refine vCall_ex (q3) (by simp (disch := omega) only [go_sem, Nat.reduceAdd]) rfl ?_); rintro _ _ ⟨b, hm, rfl, rfl⟩; (refine ⟨(by first | exact Or.inl rfl | exact Or.inr ⟨rfl, rfl⟩ | (apply Or.inr; simp only [go_sem])), ?_⟩; (repeat (first | simp (maxSteps := 40000000) (disch := omega) only [go_sem, Nat.reduceEqDiff, Nat.reduceAdd, Nat.reduceMul, Nat.reduceSub, Int.reduceToNat, Int.reduceAdd, Int.reduceSub, Int.reduceMul, Int.reduceNeg] | refine vIf_t ?_ | refine vIf_f ?_)))
      have hbl := hm.lt
      have f1 : decide ((b : Int) < 0) = false := decide_eq_false (by omega)
      have f2 : decide ((hs.length : Int) ≤ b) = false := decide_eq_false (by omega)
      (try (repeat (first | simp (maxSteps := 40000000) (disch := omega) only [go_sem, Nat.reduceEqDiff, Nat.reduceAdd, Nat.reduceMul, Nat.reduceSub, Int.reduceToNat, Int.reduceAdd, Int.reduceSub, Int.reduceMul, Int.reduceNeg, f1, f2] | refine vIf_t ?_ | refine vIf_f ?_)))
      refine vcLoop_invF (fun k : Nat => k ≤ hs.length) (fun k => ⟨245, 0, [(32, I k), (30, I b), (10, .sl hs.length (cHr hs))], []⟩) (fun k => hs.length - k) 0 (by omega) (by (first | (refine leF_s ?_; ((repeat (first | simp (maxSteps := 40000000) (disch := omega) only [go_sem, Nat.reduceEqDiff, Nat.reduceAdd, Nat.reduceMul, Nat.reduceSub, Int.reduceToNat, Int.reduceAdd, Int.reduceSub, Int.reduceMul, Int.reduceNeg] | refine vIf_t ?_ | refine vIf_f ?_)); all_goals (try simp); all_goals (try omega)); done) | (refine leF_p ?_; ((repeat (first | simp (maxSteps := 40000000) (disch := omega) only [go_sem, Nat.reduceEqDiff, Nat.reduceAdd, Nat.reduceMul, Nat.reduceSub, Int.reduceToNat, Int.reduceAdd, Int.reduceSub, Int.reduceMul, Int.reduceNeg] | refine vIf_t ?_ | refine vIf_f ?_)); all_goals (try simp); all_goals (try omega)); done))) ?_
      intro k hk
      (repeat (first | simp (maxSteps := 40000000) (disch := omega) only [go_sem, Nat.reduceEqDiff, Nat.reduceAdd, Nat.reduceMul, Nat.reduceSub, Int.reduceToNat, Int.reduceAdd, Int.reduceSub, Int.reduceMul, Int.reduceNeg] | refine vIf_t ?_ | refine vIf_f ?_))
      refine vIf_dec (fun h6 => ?_) (fun h6 => ?_)
      · have hkl : k < hs.length := by omega
        have hmx := hm.mx k hkl
        have c1 : decide ((gHr hs b).lv < (gHr hs k).lv) = false := decide_eq_false (by omega)
        have main : ((gHr hs k).lv == (gHr hs b).lv) = false ∨ (((gHr hs k).lv == (gHr hs b).lv) = true ∧ decide ((k : Int) < b) = false) := by
          by_cases h : (gHr hs k).lv = (gHr hs b).lv
          · refine .inr ⟨by simpa using h, decide_eq_false fun h2 => ?_⟩
            have := hm.fst k (by omega)
            omega
          · exact .inl (by simpa using h)
        (repeat (first | simp (maxSteps := 40000000) (disch := omega) only [go_sem, Nat.reduceEqDiff, Nat.reduceAdd, Nat.reduceMul, Nat.reduceSub, Int.reduceToNat, Int.reduceAdd, Int.reduceSub, Int.reduceMul, Int.reduceNeg] | refine vIf_t ?_ | refine vIf_f ?_))
        (refine vDraw_sch 26 ([(0, false), (1, false), (2, false), (3, false), (5, false), (6, false), (7, false), (8, false), (4, false), (9, true), (10, false), (11, false), (12, false), (13, false), (14, false), (15, false), (16, false), (17, false), (18, false), (19, false)] ++ [(20, false), (21, false), (22, false), (23, false), (24, false), (25, false)]) mixed (by kernel_rfl) ?_; simp only [List.cons_append, List.nil_append, List.map_cons, List.map_nil, nthO_zero, nthO_succ, List.drop_succ_cons, List.drop_zero, List.drop_nil]; (repeat (first | simp (maxSteps := 40000000) (disch := omega) only [go_sem, Nat.reduceEqDiff, Nat.reduceAdd, Nat.reduceMul, Nat.reduceSub, Int.reduceToNat, Int.reduceAdd, Int.reduceSub, Int.reduceMul, Int.reduceNeg] | refine vIf_t ?_ | refine vIf_f ?_)))
        rcases main with m1 | ⟨m1, m2⟩
        focus (try (repeat (first | simp (maxSteps := 40000000) (disch := omega) only [go_sem, Nat.reduceEqDiff, Nat.reduceAdd, Nat.reduceMul, Nat.reduceSub, Int.reduceToNat, Int.reduceAdd, Int.reduceSub, Int.reduceMul, Int.reduceNeg, c1, m1] | refine vIf_t ?_ | refine vIf_f ?_)))
        rotate_left
        focus (try (repeat (first | simp (maxSteps := 40000000) (disch := omega) only [go_sem, Nat.reduceEqDiff, Nat.reduceAdd, Nat.reduceMul, Nat.reduceSub, Int.reduceToNat, Int.reduceAdd, Int.reduceSub, Int.reduceMul, Int.reduceNeg, c1, m1, m2] | refine vIf_t ?_ | refine vIf_f ?_)))
        all_goals
          refine againF (k + 1) (by omega) (by omega) (by (first | (refine leF_s ?_; ((repeat (first | simp (maxSteps := 40000000) (disch := omega) only [go_sem, Nat.reduceEqDiff, Nat.reduceAdd, Nat.reduceMul, Nat.reduceSub, Int.reduceToNat, Int.reduceAdd, Int.reduceSub, Int.reduceMul, Int.reduceNeg] | refine vIf_t ?_ | refine vIf_f ?_)); all_goals (try simp); all_goals (try omega)); done) | (refine leF_p ?_; ((repeat (first | simp (maxSteps := 40000000) (disch := omega) only [go_sem, Nat.reduceEqDiff, Nat.reduceAdd, Nat.reduceMul, Nat.reduceSub, Int.reduceToNat, Int.reduceAdd, Int.reduceSub, Int.reduceMul, Int.reduceNeg] | refine vIf_t ?_ | refine vIf_f ?_)); all_goals (try simp); all_goals (try omega)); done)))
      · (repeat (first | simp (maxSteps := 40000000) (disch := omega) only [go_sem, Nat.reduceEqDiff, Nat.reduceAdd, Nat.reduceMul, Nat.reduceSub, Int.reduceToNat, Int.reduceAdd, Int.reduceSub, Int.reduceMul, Int.reduceNeg] | refine vIf_t ?_ | refine vIf_f ?_))
        (refine retK_of ?_; (repeat (first | simp (maxSteps := 40000000) (disch := omega) only [go_sem, Nat.reduceEqDiff, Nat.reduceAdd, Nat.reduceMul, Nat.reduceSub, Int.reduceToNat, Int.reduceAdd, Int.reduceSub, Int.reduceMul, Int.reduceNeg] | refine vIf_t ?_ | refine vIf_f ?_)))
end Go.Proofs.YtnphbdcdncmojaaDoor

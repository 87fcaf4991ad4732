/- storage curves: the area at a level -/
import Derived.Test.YtohnhkolckjgiaaCurve7
set_option linter.unusedVariables false
set_option linter.unusedSimpArgs false
namespace Go.Proofs.Ytohnhkolckjgiaa
open Go.AG

theorem frI_ok (a b : Int) (ha : 1 ≤ a ∧ a ≤ 1000000000) (hb : 1 ≤ b ∧ b ≤ 1000000000) : ACalls Try.prog 111 [I a, I b] [] (fun r o => r = .agg [I (fq a.toNat a.toNat b.toNat), I (fq b.toNat a.toNat b.toNat)] ∧ o = []) := by
  have h := fr_ok a.toNat b.toNat (by omega) (by omega)
  rw [Int.toNat_of_nonneg (by omega), Int.toNat_of_nonneg (by omega)] at h
  exact h
theorem frSI_ok (a b : Int) (ha : 1 ≤ a ∧ a ≤ 1000000000) (hb : 1 ≤ b ∧ b ≤ 1000000000) : ACalls Try.prog 113 [I a, I b] [] (fun r o => r = .agg [I (fq a.toNat a.toNat b.toNat), I (fq b.toNat a.toNat b.toNat)] ∧ o = []) := by
  have h := frS_ok a.toNat b.toNat (by omega) (by omega)
  rw [Int.toNat_of_nonneg (by omega), Int.toNat_of_nonneg (by omega)] at h
  exact h
theorem fq_pos (a b : Nat) (ha : 1 ≤ a ∧ a ≤ 1000000000) : 1 ≤ fq a a b := by
  have hg : 0 < Nat.gcd a b := Nat.gcd_pos_of_pos_left b (by omega)
  have hle : Nat.gcd a b ≤ a := Nat.gcd_le_left b (by omega)
  have e : ((a : Int).tdiv (Nat.gcd a b : Nat)) = ((a / Nat.gcd a b : Nat) : Int) := by rw [Int.ofNat_tdiv]
  have h1 : 1 ≤ a / Nat.gcd a b := (Nat.one_le_div_iff hg).2 hle
  have h2 : a / Nat.gcd a b ≤ a := Nat.div_le_self _ _
  rw [fq, e]
  rw [wrap_i64_id _ (by omega)]
  omega
/-- the rise of a curve's part -/
def upV (c : Cv) (x : Int) : Int := gi c.vl (knt c x + 1) - gi c.vl (knt c x)
def upL (c : Cv) (x : Int) : Int := gi c.lv (knt c x + 1) - gi c.lv (knt c x)
theorem up_bd {c : Cv} (f : CvF c) (x : Int) : (1 ≤ upV c x ∧ upV c x ≤ 1000000000) ∧ (1 ≤ upL c x ∧ upL c x ≤ 1000000000) := by
  have h1 := (knt_ok f x).lt
  have b1 := f.lb (knt c x) (by omega)
  have b2 := f.lb (knt c x + 1) (by omega)
  have b3 := f.vb (knt c x) (by omega)
  have b4 := f.vb (knt c x + 1) (by omega)
  have hl := f.lr (knt c x) (knt c x + 1) (by omega) (by omega)
  have hv := f.vr (knt c x) (knt c x + 1) (by omega) (by omega)
  unfold upV upL
  omega
def aaN (c : Cv) (x : Int) : Int := if vaC c x = 0 then fq (upV c x).toNat (upV c x).toNat (upL c x).toNat else 0
def aaD (c : Cv) (x : Int) : Int := if vaC c x = 0 then fq (upL c x).toNat (upV c x).toNat (upL c x).toNat else 0
theorem aaN_pos {c : Cv} {x : Int} (h : vaC c x = 0) : 1 ≤ aaN c x := by
  obtain ⟨f, hi⟩ := vaC_0 h
  have h1 := up_bd f x
  rw [aaN, if_pos h]
  exact fq_pos _ _ (by omega)
set_option maxRecDepth 10000 in
set_option maxHeartbeats 4000000 in
theorem areaAt_ok (c : Cv) (x : Int) (hl : c.lv.length ≤ 10000000) (hv : c.vl.length ≤ 10000000) : ACalls Try.prog 22 [.agg c.cells, I x] [] (fun r o => r = .tup [.agg [I (aaN c x), I (aaD c x)], I (vaC c x)] ∧ o = []) := by
  refine ACalls.of_vc Try.func22 rfl (by decide) 46 rfl [.cell 4 35, .tmp 5] rfl (by simp) ?_
  have hc := validC_ok c hl hv
  unfold Cv.cells at hc ⊢
  (simp (maxSteps := 2000000) (disch := omega) only [go_sem, Nat.reduceEqDiff, Nat.reduceAdd, Nat.reduceMul, Nat.reduceSub, Int.reduceToNat, Int.reduceAdd, Int.reduceSub, Int.reduceMul, Int.reduceNeg]; repeat ((first | refine vIf_t ?_ | refine vIf_f ?_); simp (maxSteps := 2000000) (disch := omega) only [go_sem, Nat.reduceEqDiff, Nat.reduceAdd, Nat.reduceMul, Nat.reduceSub, Int.reduceToNat, Int.reduceAdd, Int.reduceSub, Int.reduceMul, Int.reduceNeg]))
  (refine vCallX_of ?_; (simp (maxSteps := 2000000) (disch := omega) only [go_sem, Nat.reduceEqDiff, Nat.reduceAdd, Nat.reduceMul, Nat.reduceSub, Int.reduceToNat, Int.reduceAdd, Int.reduceSub, Int.reduceMul, Int.reduceNeg]; repeat ((first | refine vIf_t ?_ | refine vIf_f ?_); simp (maxSteps := 2000000) (disch := omega) only [go_sem, Nat.reduceEqDiff, Nat.reduceAdd, Nat.reduceMul, Nat.reduceSub, Int.reduceToNat, Int.reduceAdd, Int.reduceSub, Int.reduceMul, Int.reduceNeg])); refine vCall_eq (hc) (by simp (disch := omega) only [go_sem, Nat.reduceAdd]) rfl (by first | exact Or.inl rfl | exact Or.inr ⟨rfl, rfl⟩ | (apply Or.inr; simp only [go_sem])) ?_; (simp (maxSteps := 2000000) (disch := omega) only [go_sem, Nat.reduceEqDiff, Nat.reduceAdd, Nat.reduceMul, Nat.reduceSub, Int.reduceToNat, Int.reduceAdd, Int.reduceSub, Int.reduceMul, Int.reduceNeg]; repeat ((first | refine vIf_t ?_ | refine vIf_f ?_); simp (maxSteps := 2000000) (disch := omega) only [go_sem, Nat.reduceEqDiff, Nat.reduceAdd, Nat.reduceMul, Nat.reduceSub, Int.reduceToNat, Int.reduceAdd, Int.reduceSub, Int.reduceMul, Int.reduceNeg])))
  cases hok : okC c with
  | false =>
    have e : vaC c x = 1 := by simp [vaC, hok]
    (try (simp (maxSteps := 2000000) (disch := omega) only [go_sem, Nat.reduceEqDiff, Nat.reduceAdd, Nat.reduceMul, Nat.reduceSub, Int.reduceToNat, Int.reduceAdd, Int.reduceSub, Int.reduceMul, Int.reduceNeg, hok]; repeat ((first | refine vIf_t ?_ | refine vIf_f ?_); simp (maxSteps := 2000000) (disch := omega) only [go_sem, Nat.reduceEqDiff, Nat.reduceAdd, Nat.reduceMul, Nat.reduceSub, Int.reduceToNat, Int.reduceAdd, Int.reduceSub, Int.reduceMul, Int.reduceNeg, hok])))
    (refine retK_of ?_; (simp (maxSteps := 2000000) (disch := omega) only [go_sem, Nat.reduceEqDiff, Nat.reduceAdd, Nat.reduceMul, Nat.reduceSub, Int.reduceToNat, Int.reduceAdd, Int.reduceSub, Int.reduceMul, Int.reduceNeg]; repeat ((first | refine vIf_t ?_ | refine vIf_f ?_); simp (maxSteps := 2000000) (disch := omega) only [go_sem, Nat.reduceEqDiff, Nat.reduceAdd, Nat.reduceMul, Nat.reduceSub, Int.reduceToNat, Int.reduceAdd, Int.reduceSub, Int.reduceMul, Int.reduceNeg])))
    simp [aaN, aaD, e]
  | true =>
    have f := okC_f hok
    have hvn := f.vn
    have h12 := f.n12
    have hi := isOn_ok c x f
    have hp := part_ok c x f
    unfold Cv.cells at hi hp
    (simp (maxSteps := 2000000) (disch := omega) only [go_sem, Nat.reduceEqDiff, Nat.reduceAdd, Nat.reduceMul, Nat.reduceSub, Int.reduceToNat, Int.reduceAdd, Int.reduceSub, Int.reduceMul, Int.reduceNeg, hok]; repeat ((first | refine vIf_t ?_ | refine vIf_f ?_); simp (maxSteps := 2000000) (disch := omega) only [go_sem, Nat.reduceEqDiff, Nat.reduceAdd, Nat.reduceMul, Nat.reduceSub, Int.reduceToNat, Int.reduceAdd, Int.reduceSub, Int.reduceMul, Int.reduceNeg, hok]))
    (refine vCallX_of ?_; (simp (maxSteps := 2000000) (disch := omega) only [go_sem, Nat.reduceEqDiff, Nat.reduceAdd, Nat.reduceMul, Nat.reduceSub, Int.reduceToNat, Int.reduceAdd, Int.reduceSub, Int.reduceMul, Int.reduceNeg]; repeat ((first | refine vIf_t ?_ | refine vIf_f ?_); simp (maxSteps := 2000000) (disch := omega) only [go_sem, Nat.reduceEqDiff, Nat.reduceAdd, Nat.reduceMul, Nat.reduceSub, Int.reduceToNat, Int.reduceAdd, Int.reduceSub, Int.reduceMul, Int.reduceNeg])); refine vCall_eq (hi) (by simp (disch := omega) only [go_sem, Nat.reduceAdd]) rfl (by first | exact Or.inl rfl | exact Or.inr ⟨rfl, rfl⟩ | (apply Or.inr; simp only [go_sem])) ?_; (simp (maxSteps := 2000000) (disch := omega) only [go_sem, Nat.reduceEqDiff, Nat.reduceAdd, Nat.reduceMul, Nat.reduceSub, Int.reduceToNat, Int.reduceAdd, Int.reduceSub, Int.reduceMul, Int.reduceNeg]; repeat ((first | refine vIf_t ?_ | refine vIf_f ?_); simp (maxSteps := 2000000) (disch := omega) only [go_sem, Nat.reduceEqDiff, Nat.reduceAdd, Nat.reduceMul, Nat.reduceSub, Int.reduceToNat, Int.reduceAdd, Int.reduceSub, Int.reduceMul, Int.reduceNeg])))
    by_cases h : inC c x
    · have hb : decide (inC c x) = true := decide_eq_true h
      have e : vaC c x = 0 := by simp [vaC, hok, h]
      obtain ⟨u1, u2⟩ := up_bd f x
      have hfr := frI_ok (upV c x) (upL c x) u1 u2
      have eN : aaN c x = fq (upV c x).toNat (upV c x).toNat (upL c x).toNat := by rw [aaN, if_pos e]
      have eD : aaD c x = fq (upL c x).toNat (upV c x).toNat (upL c x).toNat := by rw [aaD, if_pos e]
      obtain ⟨k, hkd⟩ : ∃ k, k = knt c x := ⟨_, rfl⟩
      have hk := (knt_ok f x).lt
      have ek : ((k : Int) + 1).toNat = k + 1 := by omega
      have d1 : upV c x = gi c.vl (k + 1) - gi c.vl k := by rw [hkd]; rfl
      have d2 : upL c x = gi c.lv (k + 1) - gi c.lv k := by rw [hkd]; rfl
      rw [← hkd] at hp hk
      rw [← eN, ← eD, d1, d2] at hfr
      rw [d1] at u1
      rw [d2] at u2
      (simp (maxSteps := 2000000) (disch := omega) only [go_sem, Nat.reduceEqDiff, Nat.reduceAdd, Nat.reduceMul, Nat.reduceSub, Int.reduceToNat, Int.reduceAdd, Int.reduceSub, Int.reduceMul, Int.reduceNeg, hb]; repeat ((first | refine vIf_t ?_ | refine vIf_f ?_); simp (maxSteps := 2000000) (disch := omega) only [go_sem, Nat.reduceEqDiff, Nat.reduceAdd, Nat.reduceMul, Nat.reduceSub, Int.reduceToNat, Int.reduceAdd, Int.reduceSub, Int.reduceMul, Int.reduceNeg, hb]))
      (refine vCallX_of ?_; (simp (maxSteps := 2000000) (disch := omega) only [go_sem, Nat.reduceEqDiff, Nat.reduceAdd, Nat.reduceMul, Nat.reduceSub, Int.reduceToNat, Int.reduceAdd, Int.reduceSub, Int.reduceMul, Int.reduceNeg]; repeat ((first | refine vIf_t ?_ | refine vIf_f ?_); simp (maxSteps := 2000000) (disch := omega) only [go_sem, Nat.reduceEqDiff, Nat.reduceAdd, Nat.reduceMul, Nat.reduceSub, Int.reduceToNat, Int.reduceAdd, Int.reduceSub, Int.reduceMul, Int.reduceNeg])); refine vCall_eq (hp) (by simp (disch := omega) only [go_sem, Nat.reduceAdd]) rfl (by first | exact Or.inl rfl | exact Or.inr ⟨rfl, rfl⟩ | (apply Or.inr; simp only [go_sem])) ?_; (simp (maxSteps := 2000000) (disch := omega) only [go_sem, Nat.reduceEqDiff, Nat.reduceAdd, Nat.reduceMul, Nat.reduceSub, Int.reduceToNat, Int.reduceAdd, Int.reduceSub, Int.reduceMul, Int.reduceNeg]; repeat ((first | refine vIf_t ?_ | refine vIf_f ?_); simp (maxSteps := 2000000) (disch := omega) only [go_sem, Nat.reduceEqDiff, Nat.reduceAdd, Nat.reduceMul, Nat.reduceSub, Int.reduceToNat, Int.reduceAdd, Int.reduceSub, Int.reduceMul, Int.reduceNeg])))
      (refine vDraw_sch 24 [0, 1, 2, 3, 4, 5, 6, 7, 8, 9, 10, 11, 12, 13, 14, 15, 16, 17, 18, 19, 20, 21, 22, 23] mixed (by kernel_rfl) ?_; simp only [List.cons_append, List.nil_append, List.map_cons, List.map_nil, nthO_zero, nthO_succ, List.drop_succ_cons, List.drop_zero, List.drop_nil]; (simp (maxSteps := 2000000) (disch := omega) only [go_sem, Nat.reduceEqDiff, Nat.reduceAdd, Nat.reduceMul, Nat.reduceSub, Int.reduceToNat, Int.reduceAdd, Int.reduceSub, Int.reduceMul, Int.reduceNeg]; repeat ((first | refine vIf_t ?_ | refine vIf_f ?_); simp (maxSteps := 2000000) (disch := omega) only [go_sem, Nat.reduceEqDiff, Nat.reduceAdd, Nat.reduceMul, Nat.reduceSub, Int.reduceToNat, Int.reduceAdd, Int.reduceSub, Int.reduceMul, Int.reduceNeg])))
      (try (simp (maxSteps := 2000000) (disch := omega) only [go_sem, Nat.reduceEqDiff, Nat.reduceAdd, Nat.reduceMul, Nat.reduceSub, Int.reduceToNat, Int.reduceAdd, Int.reduceSub, Int.reduceMul, Int.reduceNeg, ek]; repeat ((first | refine vIf_t ?_ | refine vIf_f ?_); simp (maxSteps := 2000000) (disch := omega) only [go_sem, Nat.reduceEqDiff, Nat.reduceAdd, Nat.reduceMul, Nat.reduceSub, Int.reduceToNat, Int.reduceAdd, Int.reduceSub, Int.reduceMul, Int.reduceNeg, ek])))
      (refine vCallX_of ?_; (simp (maxSteps := 2000000) (disch := omega) only [go_sem, Nat.reduceEqDiff, Nat.reduceAdd, Nat.reduceMul, Nat.reduceSub, Int.reduceToNat, Int.reduceAdd, Int.reduceSub, Int.reduceMul, Int.reduceNeg]; repeat ((first | refine vIf_t ?_ | refine vIf_f ?_); simp (maxSteps := 2000000) (disch := omega) only [go_sem, Nat.reduceEqDiff, Nat.reduceAdd, Nat.reduceMul, Nat.reduceSub, Int.reduceToNat, Int.reduceAdd, Int.reduceSub, Int.reduceMul, Int.reduceNeg])); refine vCall_eq (hfr) (by simp (disch := omega) only [go_sem, Nat.reduceAdd]) rfl (by first | exact Or.inl rfl | exact Or.inr ⟨rfl, rfl⟩ | (apply Or.inr; simp only [go_sem])) ?_; (simp (maxSteps := 2000000) (disch := omega) only [go_sem, Nat.reduceEqDiff, Nat.reduceAdd, Nat.reduceMul, Nat.reduceSub, Int.reduceToNat, Int.reduceAdd, Int.reduceSub, Int.reduceMul, Int.reduceNeg]; repeat ((first | refine vIf_t ?_ | refine vIf_f ?_); simp (maxSteps := 2000000) (disch := omega) only [go_sem, Nat.reduceEqDiff, Nat.reduceAdd, Nat.reduceMul, Nat.reduceSub, Int.reduceToNat, Int.reduceAdd, Int.reduceSub, Int.reduceMul, Int.reduceNeg])))
      (refine retK_of ?_; (simp (maxSteps := 2000000) (disch := omega) only [go_sem, Nat.reduceEqDiff, Nat.reduceAdd, Nat.reduceMul, Nat.reduceSub, Int.reduceToNat, Int.reduceAdd, Int.reduceSub, Int.reduceMul, Int.reduceNeg]; repeat ((first | refine vIf_t ?_ | refine vIf_f ?_); simp (maxSteps := 2000000) (disch := omega) only [go_sem, Nat.reduceEqDiff, Nat.reduceAdd, Nat.reduceMul, Nat.reduceSub, Int.reduceToNat, Int.reduceAdd, Int.reduceSub, Int.reduceMul, Int.reduceNeg])))
      rw [e]
    · have hb : decide (inC c x) = false := decide_eq_false h
      have e : vaC c x = 2 := by simp [vaC, hok, h]
      (try (simp (maxSteps := 2000000) (disch := omega) only [go_sem, Nat.reduceEqDiff, Nat.reduceAdd, Nat.reduceMul, Nat.reduceSub, Int.reduceToNat, Int.reduceAdd, Int.reduceSub, Int.reduceMul, Int.reduceNeg, hb]; repeat ((first | refine vIf_t ?_ | refine vIf_f ?_); simp (maxSteps := 2000000) (disch := omega) only [go_sem, Nat.reduceEqDiff, Nat.reduceAdd, Nat.reduceMul, Nat.reduceSub, Int.reduceToNat, Int.reduceAdd, Int.reduceSub, Int.reduceMul, Int.reduceNeg, hb])))
      (refine retK_of ?_; (simp (maxSteps := 2000000) (disch := omega) only [go_sem, Nat.reduceEqDiff, Nat.reduceAdd, Nat.reduceMul, Nat.reduceSub, Int.reduceToNat, Int.reduceAdd, Int.reduceSub, Int.reduceMul, Int.reduceNeg]; repeat ((first | refine vIf_t ?_ | refine vIf_f ?_); simp (maxSteps := 2000000) (disch := omega) only [go_sem, Nat.reduceEqDiff, Nat.reduceAdd, Nat.reduceMul, Nat.reduceSub, Int.reduceToNat, Int.reduceAdd, Int.reduceSub, Int.reduceMul, Int.reduceNeg])))
      simp [aaN, aaD, e]
set_option maxRecDepth 10000 in
set_option maxHeartbeats 4000000 in
theorem areaAtS_ok (c : Cv) (x : Int) (hl : c.lv.length ≤ 10000000) (hv : c.vl.length ≤ 10000000) : ACalls Try.prog 23 [.agg c.cells, I x] [] (fun r o => r = .tup [.agg [I (aaN c x), I (aaD c x)], I (vaC c x)] ∧ o = []) := by
  refine ACalls.of_vc Try.func23 rfl (by decide) 41 rfl [.cell 4 35, .tmp 5] rfl (by simp) ?_
  have hc := l05Code_ok c x hl hv
  unfold Cv.cells at hc ⊢
  (simp (maxSteps := 2000000) (disch := omega) only [go_sem, Nat.reduceEqDiff, Nat.reduceAdd, Nat.reduceMul, Nat.reduceSub, Int.reduceToNat, Int.reduceAdd, Int.reduceSub, Int.reduceMul, Int.reduceNeg]; repeat ((first | refine vIf_t ?_ | refine vIf_f ?_); simp (maxSteps := 2000000) (disch := omega) only [go_sem, Nat.reduceEqDiff, Nat.reduceAdd, Nat.reduceMul, Nat.reduceSub, Int.reduceToNat, Int.reduceAdd, Int.reduceSub, Int.reduceMul, Int.reduceNeg]))
  (refine vCallX_of ?_; (simp (maxSteps := 2000000) (disch := omega) only [go_sem, Nat.reduceEqDiff, Nat.reduceAdd, Nat.reduceMul, Nat.reduceSub, Int.reduceToNat, Int.reduceAdd, Int.reduceSub, Int.reduceMul, Int.reduceNeg]; repeat ((first | refine vIf_t ?_ | refine vIf_f ?_); simp (maxSteps := 2000000) (disch := omega) only [go_sem, Nat.reduceEqDiff, Nat.reduceAdd, Nat.reduceMul, Nat.reduceSub, Int.reduceToNat, Int.reduceAdd, Int.reduceSub, Int.reduceMul, Int.reduceNeg])); refine vCall_eq (hc) (by simp (disch := omega) only [go_sem, Nat.reduceAdd]) rfl (by first | exact Or.inl rfl | exact Or.inr ⟨rfl, rfl⟩ | (apply Or.inr; simp only [go_sem])) ?_; (simp (maxSteps := 2000000) (disch := omega) only [go_sem, Nat.reduceEqDiff, Nat.reduceAdd, Nat.reduceMul, Nat.reduceSub, Int.reduceToNat, Int.reduceAdd, Int.reduceSub, Int.reduceMul, Int.reduceNeg]; repeat ((first | refine vIf_t ?_ | refine vIf_f ?_); simp (maxSteps := 2000000) (disch := omega) only [go_sem, Nat.reduceEqDiff, Nat.reduceAdd, Nat.reduceMul, Nat.reduceSub, Int.reduceToNat, Int.reduceAdd, Int.reduceSub, Int.reduceMul, Int.reduceNeg])))
  refine vIf_bne (fun h => ?_) (fun h => ?_)
  · (simp (maxSteps := 2000000) (disch := omega) only [go_sem, Nat.reduceEqDiff, Nat.reduceAdd, Nat.reduceMul, Nat.reduceSub, Int.reduceToNat, Int.reduceAdd, Int.reduceSub, Int.reduceMul, Int.reduceNeg]; repeat ((first | refine vIf_t ?_ | refine vIf_f ?_); simp (maxSteps := 2000000) (disch := omega) only [go_sem, Nat.reduceEqDiff, Nat.reduceAdd, Nat.reduceMul, Nat.reduceSub, Int.reduceToNat, Int.reduceAdd, Int.reduceSub, Int.reduceMul, Int.reduceNeg]))
    (refine retK_of ?_; (simp (maxSteps := 2000000) (disch := omega) only [go_sem, Nat.reduceEqDiff, Nat.reduceAdd, Nat.reduceMul, Nat.reduceSub, Int.reduceToNat, Int.reduceAdd, Int.reduceSub, Int.reduceMul, Int.reduceNeg]; repeat ((first | refine vIf_t ?_ | refine vIf_f ?_); simp (maxSteps := 2000000) (disch := omega) only [go_sem, Nat.reduceEqDiff, Nat.reduceAdd, Nat.reduceMul, Nat.reduceSub, Int.reduceToNat, Int.reduceAdd, Int.reduceSub, Int.reduceMul, Int.reduceNeg])))
    simp [aaN, aaD, h]
  · obtain ⟨f, hi⟩ := vaC_0 h
    have hvn := f.vn
    have h12 := f.n12
    have hp := l05Knot_ok c x f
    obtain ⟨u1, u2⟩ := up_bd f x
    have hfr := frSI_ok (upV c x) (upL c x) u1 u2
    have eN : aaN c x = fq (upV c x).toNat (upV c x).toNat (upL c x).toNat := by rw [aaN, if_pos h]
    have eD : aaD c x = fq (upL c x).toNat (upV c x).toNat (upL c x).toNat := by rw [aaD, if_pos h]
    obtain ⟨k, hkd⟩ : ∃ k, k = knt c x := ⟨_, rfl⟩
    have hk := (knt_ok f x).lt
    have ek : ((k : Int) + 1).toNat = k + 1 := by omega
    have d1 : upV c x = gi c.vl (k + 1) - gi c.vl k := by rw [hkd]; rfl
    have d2 : upL c x = gi c.lv (k + 1) - gi c.lv k := by rw [hkd]; rfl
    unfold Cv.cells at hp
    rw [← hkd] at hp hk
    rw [← eN, ← eD, d1, d2] at hfr
    rw [d1] at u1
    rw [d2] at u2
    (simp (maxSteps := 2000000) (disch := omega) only [go_sem, Nat.reduceEqDiff, Nat.reduceAdd, Nat.reduceMul, Nat.reduceSub, Int.reduceToNat, Int.reduceAdd, Int.reduceSub, Int.reduceMul, Int.reduceNeg]; repeat ((first | refine vIf_t ?_ | refine vIf_f ?_); simp (maxSteps := 2000000) (disch := omega) only [go_sem, Nat.reduceEqDiff, Nat.reduceAdd, Nat.reduceMul, Nat.reduceSub, Int.reduceToNat, Int.reduceAdd, Int.reduceSub, Int.reduceMul, Int.reduceNeg]))
    (refine vCallX_of ?_; (simp (maxSteps := 2000000) (disch := omega) only [go_sem, Nat.reduceEqDiff, Nat.reduceAdd, Nat.reduceMul, Nat.reduceSub, Int.reduceToNat, Int.reduceAdd, Int.reduceSub, Int.reduceMul, Int.reduceNeg]; repeat ((first | refine vIf_t ?_ | refine vIf_f ?_); simp (maxSteps := 2000000) (disch := omega) only [go_sem, Nat.reduceEqDiff, Nat.reduceAdd, Nat.reduceMul, Nat.reduceSub, Int.reduceToNat, Int.reduceAdd, Int.reduceSub, Int.reduceMul, Int.reduceNeg])); refine vCall_eq (hp) (by simp (disch := omega) only [go_sem, Nat.reduceAdd]) rfl (by first | exact Or.inl rfl | exact Or.inr ⟨rfl, rfl⟩ | (apply Or.inr; simp only [go_sem])) ?_; (simp (maxSteps := 2000000) (disch := omega) only [go_sem, Nat.reduceEqDiff, Nat.reduceAdd, Nat.reduceMul, Nat.reduceSub, Int.reduceToNat, Int.reduceAdd, Int.reduceSub, Int.reduceMul, Int.reduceNeg]; repeat ((first | refine vIf_t ?_ | refine vIf_f ?_); simp (maxSteps := 2000000) (disch := omega) only [go_sem, Nat.reduceEqDiff, Nat.reduceAdd, Nat.reduceMul, Nat.reduceSub, Int.reduceToNat, Int.reduceAdd, Int.reduceSub, Int.reduceMul, Int.reduceNeg])))
    (refine vDraw_sch 24 [0, 1, 2, 3, 4, 5, 6, 7, 8, 9, 10, 11, 12, 13, 14, 15, 16, 17, 18, 19, 20, 21, 22, 23] mixed (by kernel_rfl) ?_; simp only [List.cons_append, List.nil_append, List.map_cons, List.map_nil, nthO_zero, nthO_succ, List.drop_succ_cons, List.drop_zero, List.drop_nil]; (simp (maxSteps := 2000000) (disch := omega) only [go_sem, Nat.reduceEqDiff, Nat.reduceAdd, Nat.reduceMul, Nat.reduceSub, Int.reduceToNat, Int.reduceAdd, Int.reduceSub, Int.reduceMul, Int.reduceNeg]; repeat ((first | refine vIf_t ?_ | refine vIf_f ?_); simp (maxSteps := 2000000) (disch := omega) only [go_sem, Nat.reduceEqDiff, Nat.reduceAdd, Nat.reduceMul, Nat.reduceSub, Int.reduceToNat, Int.reduceAdd, Int.reduceSub, Int.reduceMul, Int.reduceNeg])))
    (try (simp (maxSteps := 2000000) (disch := omega) only [go_sem, Nat.reduceEqDiff, Nat.reduceAdd, Nat.reduceMul, Nat.reduceSub, Int.reduceToNat, Int.reduceAdd, Int.reduceSub, Int.reduceMul, Int.reduceNeg, ek]; repeat ((first | refine vIf_t ?_ | refine vIf_f ?_); simp (maxSteps := 2000000) (disch := omega) only [go_sem, Nat.reduceEqDiff, Nat.reduceAdd, Nat.reduceMul, Nat.reduceSub, Int.reduceToNat, Int.reduceAdd, Int.reduceSub, Int.reduceMul, Int.reduceNeg, ek])))
    (refine vCallX_of ?_; (simp (maxSteps := 2000000) (disch := omega) only [go_sem, Nat.reduceEqDiff, Nat.reduceAdd, Nat.reduceMul, Nat.reduceSub, Int.reduceToNat, Int.reduceAdd, Int.reduceSub, Int.reduceMul, Int.reduceNeg]; repeat ((first | refine vIf_t ?_ | refine vIf_f ?_); simp (maxSteps := 2000000) (disch := omega) only [go_sem, Nat.reduceEqDiff, Nat.reduceAdd, Nat.reduceMul, Nat.reduceSub, Int.reduceToNat, Int.reduceAdd, Int.reduceSub, Int.reduceMul, Int.reduceNeg])); refine vCall_eq (hfr) (by simp (disch := omega) only [go_sem, Nat.reduceAdd]) rfl (by first | exact Or.inl rfl | exact Or.inr ⟨rfl, rfl⟩ | (apply Or.inr; simp only [go_sem])) ?_; (simp (maxSteps := 2000000) (disch := omega) only [go_sem, Nat.reduceEqDiff, Nat.reduceAdd, Nat.reduceMul, Nat.reduceSub, Int.reduceToNat, Int.reduceAdd, Int.reduceSub, Int.reduceMul, Int.reduceNeg]; repeat ((first | refine vIf_t ?_ | refine vIf_f ?_); simp (maxSteps := 2000000) (disch := omega) only [go_sem, Nat.reduceEqDiff, Nat.reduceAdd, Nat.reduceMul, Nat.reduceSub, Int.reduceToNat, Int.reduceAdd, Int.reduceSub, Int.reduceMul, Int.reduceNeg])))
    (refine retK_of ?_; (simp (maxSteps := 2000000) (disch := omega) only [go_sem, Nat.reduceEqDiff, Nat.reduceAdd, Nat.reduceMul, Nat.reduceSub, Int.reduceToNat, Int.reduceAdd, Int.reduceSub, Int.reduceMul, Int.reduceNeg]; repeat ((first | refine vIf_t ?_ | refine vIf_f ?_); simp (maxSteps := 2000000) (disch := omega) only [go_sem, Nat.reduceEqDiff, Nat.reduceAdd, Nat.reduceMul, Nat.reduceSub, Int.reduceToNat, Int.reduceAdd, Int.reduceSub, Int.reduceMul, Int.reduceNeg])))
    rw [h]
end Go.Proofs.Ytohnhkolckjgiaa

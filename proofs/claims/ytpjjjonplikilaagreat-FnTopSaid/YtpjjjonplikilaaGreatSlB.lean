/- parts of the proof of the law, sliced: what it needs of the texts Wat2, X4, CurveP, Wat3, Wat4, Bal3, Bal4, Pum3, Tbl. Conditions: none. -/
import Derived.Test.YtpjjjonplikilaaGreatSlA
import Derived.Test.YtpjjjonplikilaaGreatAgZ
import Derived.Test.YtpjjjonplikilaaGreatAgT
set_option linter.unusedVariables false
set_option linter.unusedSimpArgs false
namespace Go.Proofs.YtpjjjonplikilaaGreat
open Go.AG

/-- valid amounts -/
def flB (n : Int) : Bool := decide (0 ≤ n ∧ n ≤ 10000000)
def wtB (p : Wt) : Bool := flB p.rain && (flB p.seep && (flB p.evap && (flB p.pump && flB p.slu)))
def wtN (p : Wt) : Int := p.rain + p.seep - p.evap - p.pump - p.slu
structure WtF (p : Wt) : Prop where
  rain : 0 ≤ p.rain ∧ p.rain ≤ 10000000
  seep : 0 ≤ p.seep ∧ p.seep ≤ 10000000
  evap : 0 ≤ p.evap ∧ p.evap ≤ 10000000
  pump : 0 ≤ p.pump ∧ p.pump ≤ 10000000
  slu : 0 ≤ p.slu ∧ p.slu ≤ 10000000
theorem wtB_f {p : Wt} (h : wtB p = true) : WtF p := by
  simp only [wtB, flB, Bool.and_eq_true, decide_eq_true_eq] at h
  exact ⟨h.1, h.2.1, h.2.2.1, h.2.2.2.1, h.2.2.2.2⟩
theorem wtN_bd {p : Wt} (f : WtF p) : -30000000 ≤ wtN p ∧ wtN p ≤ 20000000 := by
  have := f.rain; have := f.seep; have := f.evap; have := f.pump; have := f.slu
  unfold wtN
  omega
theorem isFlow_ok (n : Int) : ACalls Tryz.prog 99 [I n] [] (fun r o => r = B (flB n) ∧ o = []) := by
  refine ACalls.of_vc Tryz.func99 rfl (by decide) 5 rfl [.tmp 2] rfl (by simp) ?_
  (repeat (first | simp (maxSteps := 2000000) (disch := omega) only [go_sem, ↓reduceIte] | with_reducible refine vIf_t ?_ | with_reducible refine vIf_f ?_))
  (refine vCallX_of ?_; (repeat (first | simp (maxSteps := 2000000) (disch := omega) only [go_sem, ↓reduceIte] | with_reducible refine vIf_t ?_ | with_reducible refine vIf_f ?_)); refine vCall_eq (in_ok n 0 10000000) (by simp (disch := omega) only [go_sem]) rfl (by first | exact Or.inl rfl | exact Or.inr ⟨rfl, rfl⟩ | (apply Or.inr; simp only [go_sem])) ?_; (repeat (first | simp (maxSteps := 2000000) (disch := omega) only [go_sem, ↓reduceIte] | with_reducible refine vIf_t ?_ | with_reducible refine vIf_f ?_)))
  (refine retK_of ?_; (repeat (first | simp (maxSteps := 2000000) (disch := omega) only [go_sem, ↓reduceIte] | with_reducible refine vIf_t ?_ | with_reducible refine vIf_f ?_)))
  rfl
theorem isVol_ok (n : Int) : ACalls Tryz.prog 64 [I n] [] (fun r o => r = B (decide (0 ≤ n ∧ n ≤ 1000000000)) ∧ o = []) := by
  refine ACalls.of_vc Tryz.func64 rfl (by decide) 5 rfl [.tmp 2] rfl (by simp) ?_
  (repeat (first | simp (maxSteps := 2000000) (disch := omega) only [go_sem, ↓reduceIte] | with_reducible refine vIf_t ?_ | with_reducible refine vIf_f ?_))
  (refine vCallX_of ?_; (repeat (first | simp (maxSteps := 2000000) (disch := omega) only [go_sem, ↓reduceIte] | with_reducible refine vIf_t ?_ | with_reducible refine vIf_f ?_)); refine vCall_eq (in_ok n 0 1000000000) (by simp (disch := omega) only [go_sem]) rfl (by first | exact Or.inl rfl | exact Or.inr ⟨rfl, rfl⟩ | (apply Or.inr; simp only [go_sem])) ?_; (repeat (first | simp (maxSteps := 2000000) (disch := omega) only [go_sem, ↓reduceIte] | with_reducible refine vIf_t ?_ | with_reducible refine vIf_f ?_)))
  (refine retK_of ?_; (repeat (first | simp (maxSteps := 2000000) (disch := omega) only [go_sem, ↓reduceIte] | with_reducible refine vIf_t ?_ | with_reducible refine vIf_f ?_)))
theorem l13Flow_ok (n : Int) : ACalls Tryz.prog 114 [I n] [] (fun r o => r = B (flB n) ∧ o = []) := by
  refine ACalls.of_vc Tryz.func114 rfl (by decide) 5 rfl [.tmp 2] rfl (by simp) ?_
  (repeat (first | simp (maxSteps := 2000000) (disch := omega) only [go_sem, ↓reduceIte] | with_reducible refine vIf_t ?_ | with_reducible refine vIf_f ?_))
  (refine vCallX_of ?_; (repeat (first | simp (maxSteps := 2000000) (disch := omega) only [go_sem, ↓reduceIte] | with_reducible refine vIf_t ?_ | with_reducible refine vIf_f ?_)); refine vCall_eq (inS_ok n 0 10000000) (by simp (disch := omega) only [go_sem]) rfl (by first | exact Or.inl rfl | exact Or.inr ⟨rfl, rfl⟩ | (apply Or.inr; simp only [go_sem])) ?_; (repeat (first | simp (maxSteps := 2000000) (disch := omega) only [go_sem, ↓reduceIte] | with_reducible refine vIf_t ?_ | with_reducible refine vIf_f ?_)))
  (refine retK_of ?_; (repeat (first | simp (maxSteps := 2000000) (disch := omega) only [go_sem, ↓reduceIte] | with_reducible refine vIf_t ?_ | with_reducible refine vIf_f ?_)))
  rfl
theorem amounts_ok (p : Wt) : ACalls Tryz.prog 98 [.agg p.cells] [] (fun r o => r = .ref 0 0 5 ∧ o = [oI [p.rain, p.seep, p.evap, p.pump, p.slu]]) := by
  refine ACalls.of_vc Tryz.func98 rfl (by decide) 14 rfl [.tmp 2] rfl (by simp) ?_
  unfold Wt.cells
  (repeat (first | simp (maxSteps := 2000000) (disch := omega) only [go_sem, ↓reduceIte] | with_reducible refine vIf_t ?_ | with_reducible refine vIf_f ?_))
  (refine retK_of ?_; (repeat (first | simp (maxSteps := 2000000) (disch := omega) only [go_sem, ↓reduceIte] | with_reducible refine vIf_t ?_ | with_reducible refine vIf_f ?_)))
theorem validWt_ok (p : Wt) : ACalls Tryz.prog 63 [.agg p.cells] [] (fun r o => r = B (wtB p) ∧ o = []) := by
  refine ACalls.of_vc Tryz.func63 rfl (by decide) 6 rfl [.tmp 2] rfl (by simp) ?_
  have ha := amounts_ok p
  have hl := all_ok 99 [] flB [p.rain, p.seep, p.evap, p.pump, p.slu] (fun x _ => isFlow_ok x) rfl (by simp)
  unfold Wt.cells at ha ⊢
  unfold iS at hl
  (repeat (first | simp (maxSteps := 2000000) (disch := omega) only [go_sem, ↓reduceIte] | with_reducible refine vIf_t ?_ | with_reducible refine vIf_f ?_))
  (refine vCallX_of ?_; (repeat (first | simp (maxSteps := 2000000) (disch := omega) only [go_sem, ↓reduceIte] | with_reducible refine vIf_t ?_ | with_reducible refine vIf_f ?_)); refine vCall_eq (ha) (by simp (disch := omega) only [go_sem]) rfl (by first | exact Or.inl rfl | exact Or.inr ⟨rfl, rfl⟩ | (apply Or.inr; simp only [go_sem])) ?_; (repeat (first | simp (maxSteps := 2000000) (disch := omega) only [go_sem, ↓reduceIte] | with_reducible refine vIf_t ?_ | with_reducible refine vIf_f ?_)))
  (refine vCallX_of ?_; (repeat (first | simp (maxSteps := 2000000) (disch := omega) only [go_sem, ↓reduceIte] | with_reducible refine vIf_t ?_ | with_reducible refine vIf_f ?_)); refine vCall_eq (hl) (by simp (disch := omega) only [go_sem]) rfl (by first | exact Or.inl rfl | exact Or.inr ⟨rfl, rfl⟩ | (apply Or.inr; simp only [go_sem])) ?_; (repeat (first | simp (maxSteps := 2000000) (disch := omega) only [go_sem, ↓reduceIte] | with_reducible refine vIf_t ?_ | with_reducible refine vIf_f ?_)))
  (refine retK_of ?_; (repeat (first | simp (maxSteps := 2000000) (disch := omega) only [go_sem, ↓reduceIte] | with_reducible refine vIf_t ?_ | with_reducible refine vIf_f ?_)))
  simp [wtB]
theorem net_ok (p : Wt) (f : WtF p) : ACalls Tryz.prog 32 [.agg p.cells] [] (fun r o => r = I (wtN p) ∧ o = []) := by
  refine ACalls.of_vc Tryz.func32 rfl (by decide) 17 rfl [.tmp 2] rfl (by simp) ?_
  obtain ⟨f1, f2, f3, f4, f5⟩ := f
  unfold Wt.cells
  (repeat (first | simp (maxSteps := 2000000) (disch := omega) only [go_sem, ↓reduceIte] | with_reducible refine vIf_t ?_ | with_reducible refine vIf_f ?_))
  (refine retK_of ?_; (repeat (first | simp (maxSteps := 2000000) (disch := omega) only [go_sem, ↓reduceIte] | with_reducible refine vIf_t ?_ | with_reducible refine vIf_f ?_)))
  rfl
theorem l13Net_ok (ds : List Wt) (k : Nat) (hk : k < ds.length) (f : WtF (gWt ds k)) : ACalls Tryz.prog 30 [.ip (cWt ds) (k * 5)] [] (fun r o => r = I (wtN (gWt ds k)) ∧ o = []) := by
  refine ACalls.of_vc Tryz.func30 rfl (by decide) 27 rfl [.tmp 2] rfl (by simp) ?_
  obtain ⟨f1, f2, f3, f4, f5⟩ := f
  (repeat (first | simp (maxSteps := 2000000) (disch := omega) only [go_sem, ↓reduceIte] | with_reducible refine vIf_t ?_ | with_reducible refine vIf_f ?_))
  (refine vDraw_of mixed (by kernel_rfl) ?_; (repeat (first | simp (maxSteps := 2000000) (disch := omega) only [go_sem, ↓reduceIte] | with_reducible refine vIf_t ?_ | with_reducible refine vIf_f ?_)))
  (refine retK_of ?_; (repeat (first | simp (maxSteps := 2000000) (disch := omega) only [go_sem, ↓reduceIte] | with_reducible refine vIf_t ?_ | with_reducible refine vIf_f ?_)))
  rfl
set_option maxHeartbeats 4000000 in
theorem l13Ok_ok (ds : List Wt) (k : Nat) (hk : k < ds.length) : ACalls Tryz.prog 100 [.ip (cWt ds) (k * 5)] [] (fun r o => r = B (wtB (gWt ds k)) ∧ o = []) := by
  refine ACalls.of_vc Tryz.func100 rfl (by decide) 36 rfl [.tmp 2] rfl (by simp) ?_
  obtain ⟨p, hp⟩ : ∃ p, p = gWt ds k := ⟨_, rfl⟩
  rw [← hp]
  (repeat (first | simp (maxSteps := 2000000) (disch := omega) only [go_sem, ↓reduceIte, ← hp] | with_reducible refine vIf_t ?_ | with_reducible refine vIf_f ?_))
  (refine vCallX_of ?_; (repeat (first | simp (maxSteps := 2000000) (disch := omega) only [go_sem, ↓reduceIte] | with_reducible refine vIf_t ?_ | with_reducible refine vIf_f ?_)); refine vCall_eq (l13Flow_ok p.rain) (by simp (disch := omega) only [go_sem]) rfl (by first | exact Or.inl rfl | exact Or.inr ⟨rfl, rfl⟩ | (apply Or.inr; simp only [go_sem])) ?_; (repeat (first | simp (maxSteps := 2000000) (disch := omega) only [go_sem, ↓reduceIte] | with_reducible refine vIf_t ?_ | with_reducible refine vIf_f ?_)))
  cases h1 : flB p.rain with
  | false =>
    (try (repeat (first | simp (maxSteps := 2000000) (disch := omega) only [go_sem, ↓reduceIte, h1] | with_reducible refine vIf_t ?_ | with_reducible refine vIf_f ?_)))
    (refine retK_of ?_; (repeat (first | simp (maxSteps := 2000000) (disch := omega) only [go_sem, ↓reduceIte] | with_reducible refine vIf_t ?_ | with_reducible refine vIf_f ?_)))
    simp [wtB, h1]
  | true =>
    (repeat (first | simp (maxSteps := 2000000) (disch := omega) only [go_sem, ↓reduceIte, h1, ← hp] | with_reducible refine vIf_t ?_ | with_reducible refine vIf_f ?_))
    (refine vCallX_of ?_; (repeat (first | simp (maxSteps := 2000000) (disch := omega) only [go_sem, ↓reduceIte] | with_reducible refine vIf_t ?_ | with_reducible refine vIf_f ?_)); refine vCall_eq (l13Flow_ok p.seep) (by simp (disch := omega) only [go_sem]) rfl (by first | exact Or.inl rfl | exact Or.inr ⟨rfl, rfl⟩ | (apply Or.inr; simp only [go_sem])) ?_; (repeat (first | simp (maxSteps := 2000000) (disch := omega) only [go_sem, ↓reduceIte] | with_reducible refine vIf_t ?_ | with_reducible refine vIf_f ?_)))
    cases h2 : flB p.seep with
    | false =>
      (try (repeat (first | simp (maxSteps := 2000000) (disch := omega) only [go_sem, ↓reduceIte, h2] | with_reducible refine vIf_t ?_ | with_reducible refine vIf_f ?_)))
      (refine retK_of ?_; (repeat (first | simp (maxSteps := 2000000) (disch := omega) only [go_sem, ↓reduceIte] | with_reducible refine vIf_t ?_ | with_reducible refine vIf_f ?_)))
      simp [wtB, h1, h2]
    | true =>
      (repeat (first | simp (maxSteps := 2000000) (disch := omega) only [go_sem, ↓reduceIte, h2, ← hp] | with_reducible refine vIf_t ?_ | with_reducible refine vIf_f ?_))
      (refine vCallX_of ?_; (repeat (first | simp (maxSteps := 2000000) (disch := omega) only [go_sem, ↓reduceIte] | with_reducible refine vIf_t ?_ | with_reducible refine vIf_f ?_)); refine vCall_eq (l13Flow_ok p.evap) (by simp (disch := omega) only [go_sem]) rfl (by first | exact Or.inl rfl | exact Or.inr ⟨rfl, rfl⟩ | (apply Or.inr; simp only [go_sem])) ?_; (repeat (first | simp (maxSteps := 2000000) (disch := omega) only [go_sem, ↓reduceIte] | with_reducible refine vIf_t ?_ | with_reducible refine vIf_f ?_)))
      cases h3 : flB p.evap with
      | false =>
        (try (repeat (first | simp (maxSteps := 2000000) (disch := omega) only [go_sem, ↓reduceIte, h3] | with_reducible refine vIf_t ?_ | with_reducible refine vIf_f ?_)))
        (refine retK_of ?_; (repeat (first | simp (maxSteps := 2000000) (disch := omega) only [go_sem, ↓reduceIte] | with_reducible refine vIf_t ?_ | with_reducible refine vIf_f ?_)))
        simp [wtB, h1, h2, h3]
      | true =>
        (repeat (first | simp (maxSteps := 2000000) (disch := omega) only [go_sem, ↓reduceIte, h3, ← hp] | with_reducible refine vIf_t ?_ | with_reducible refine vIf_f ?_))
        (refine vCallX_of ?_; (repeat (first | simp (maxSteps := 2000000) (disch := omega) only [go_sem, ↓reduceIte] | with_reducible refine vIf_t ?_ | with_reducible refine vIf_f ?_)); refine vCall_eq (l13Flow_ok p.pump) (by simp (disch := omega) only [go_sem]) rfl (by first | exact Or.inl rfl | exact Or.inr ⟨rfl, rfl⟩ | (apply Or.inr; simp only [go_sem])) ?_; (repeat (first | simp (maxSteps := 2000000) (disch := omega) only [go_sem, ↓reduceIte] | with_reducible refine vIf_t ?_ | with_reducible refine vIf_f ?_)))
        cases h4 : flB p.pump with
        | false =>
          (try (repeat (first | simp (maxSteps := 2000000) (disch := omega) only [go_sem, ↓reduceIte, h4] | with_reducible refine vIf_t ?_ | with_reducible refine vIf_f ?_)))
          (refine retK_of ?_; (repeat (first | simp (maxSteps := 2000000) (disch := omega) only [go_sem, ↓reduceIte] | with_reducible refine vIf_t ?_ | with_reducible refine vIf_f ?_)))
          simp [wtB, h1, h2, h3, h4]
        | true =>
          (repeat (first | simp (maxSteps := 2000000) (disch := omega) only [go_sem, ↓reduceIte, h4, ← hp] | with_reducible refine vIf_t ?_ | with_reducible refine vIf_f ?_))
          (refine vCallX_of ?_; (repeat (first | simp (maxSteps := 2000000) (disch := omega) only [go_sem, ↓reduceIte] | with_reducible refine vIf_t ?_ | with_reducible refine vIf_f ?_)); refine vCall_eq (l13Flow_ok p.slu) (by simp (disch := omega) only [go_sem]) rfl (by first | exact Or.inl rfl | exact Or.inr ⟨rfl, rfl⟩ | (apply Or.inr; simp only [go_sem])) ?_; (repeat (first | simp (maxSteps := 2000000) (disch := omega) only [go_sem, ↓reduceIte] | with_reducible refine vIf_t ?_ | with_reducible refine vIf_f ?_)))
          (refine retK_of ?_; (repeat (first | simp (maxSteps := 2000000) (disch := omega) only [go_sem, ↓reduceIte] | with_reducible refine vIf_t ?_ | with_reducible refine vIf_f ?_)))
          simp [wtB, h1, h2, h3, h4]
theorem allWt_snoc (q : Wt → Bool) (xs : List Wt) (k : Nat) (h : k < xs.length) (he : (xs.take k).all q = true) (hq : q (gWt xs k) = true) : (xs.take (k + 1)).all q = true := by
  rw [gWt_take_succ xs k h, List.all_append, he]; simp [hq]
theorem allWt_no (q : Wt → Bool) (xs : List Wt) (k : Nat) (h : k < xs.length) (hq : q (gWt xs k) = false) : xs.all q = false := by
  rw [List.all_eq_false]
  exact ⟨gWt xs k, gWt_mem xs k h, by simp [hq]⟩
theorem allWt_ok (f : FuncId) (caps : List V) (q : Wt → Bool) (xs : List Wt) (hf : ∀ x ∈ xs, ACalls Tryz.prog f (.agg x.cells :: caps) [] (fun r o => r = B (q x) ∧ o = [])) (hc : V.norefL caps = true) (hl : xs.length ≤ 10000000) :
    ACalls Tryz.prog 62 [.sl xs.length (cWt xs), .fn f caps] [] (fun r o => r = B (xs.all q) ∧ o = []) := by
  refine ACalls.of_vc Tryz.func62 rfl (by decide) 18 rfl [.tmp 4] rfl (by simp) ?_
  (repeat (first | simp (maxSteps := 2000000) (disch := omega) only [go_sem, ↓reduceIte] | with_reducible refine vIf_t ?_ | with_reducible refine vIf_f ?_))
  refine vcLoop_inv (fun k : Nat => k ≤ xs.length ∧ (xs.take k).all q = true) (fun k => ⟨18, 0, [(9, I k), (8, I xs.length), (7, .sl xs.length (cWt xs)), (1, .fn f caps)], []⟩) (fun k => xs.length - k) 0 (by simp) (by (repeat (first | simp (maxSteps := 2000000) (disch := omega) only [go_sem, ↓reduceIte, killL_noref _ _ hc] | with_reducible refine vIf_t ?_ | with_reducible refine vIf_f ?_)); all_goals (try simp)) ?_
  intro k ⟨hk, he⟩
  (repeat (first | simp (maxSteps := 2000000) (disch := omega) only [go_sem, ↓reduceIte] | with_reducible refine vIf_t ?_ | with_reducible refine vIf_f ?_))
  refine vIf_dec (fun h => ?_) (fun h => ?_)
  · have hq := hf (gWt xs k) (gWt_mem xs k (by omega))
    unfold Wt.cells at hq
    (repeat (first | simp (maxSteps := 2000000) (disch := omega) only [go_sem, ↓reduceIte] | with_reducible refine vIf_t ?_ | with_reducible refine vIf_f ?_))
    refine vCallX_of ?_
    (repeat (first | simp (maxSteps := 2000000) (disch := omega) only [go_sem, ↓reduceIte] | with_reducible refine vIf_t ?_ | with_reducible refine vIf_f ?_))
    refine vCall_eq hq (by (repeat (first | simp (maxSteps := 2000000) (disch := omega) only [go_sem, ↓reduceIte, frzL_noref _ _ hc] | with_reducible refine vIf_t ?_ | with_reducible refine vIf_f ?_))) (by (repeat (first | simp (maxSteps := 2000000) (disch := omega) only [go_sem, ↓reduceIte, hc] | with_reducible refine vIf_t ?_ | with_reducible refine vIf_f ?_))) (Or.inl (by (repeat (first | simp (maxSteps := 2000000) (disch := omega) only [go_sem, ↓reduceIte, hc] | with_reducible refine vIf_t ?_ | with_reducible refine vIf_f ?_)))) ?_
    (repeat (first | simp (maxSteps := 2000000) (disch := omega) only [go_sem, ↓reduceIte] | with_reducible refine vIf_t ?_ | with_reducible refine vIf_f ?_))
    refine vIf_not (fun h3 => ?_) (fun h3 => ?_)
    · (repeat (first | simp (maxSteps := 2000000) (disch := omega) only [go_sem, ↓reduceIte] | with_reducible refine vIf_t ?_ | with_reducible refine vIf_f ?_))
      (refine retK_of ?_; (repeat (first | simp (maxSteps := 2000000) (disch := omega) only [go_sem, ↓reduceIte] | with_reducible refine vIf_t ?_ | with_reducible refine vIf_f ?_)))
      rw [allWt_no q xs k (by omega) h3]
    · (repeat (first | simp (maxSteps := 2000000) (disch := omega) only [go_sem, ↓reduceIte] | with_reducible refine vIf_t ?_ | with_reducible refine vIf_f ?_))
      refine again (k + 1) ⟨by omega, allWt_snoc q xs k (by omega) he h3⟩ (by omega) ?_
      (repeat (first | simp (maxSteps := 2000000) (disch := omega) only [go_sem, ↓reduceIte, killL_noref _ _ hc] | with_reducible refine vIf_t ?_ | with_reducible refine vIf_f ?_))
  · (repeat (first | simp (maxSteps := 2000000) (disch := omega) only [go_sem, ↓reduceIte] | with_reducible refine vIf_t ?_ | with_reducible refine vIf_f ?_))
    (refine retK_of ?_; (repeat (first | simp (maxSteps := 2000000) (disch := omega) only [go_sem, ↓reduceIte] | with_reducible refine vIf_t ?_ | with_reducible refine vIf_f ?_)))
    rw [List.take_of_length_le (by omega)] at he
    simp [he]
/-- the code of a list of days with some volumes -/
def rcW (ds : List Wt) (v : Int) : Int := if ds.all wtB = true then if ds.length ≤ 100 ∧ (0 ≤ v ∧ v ≤ 1000000000) then 0 else 2 else 1
theorem rcW_0 {ds : List Wt} {v : Int} (h : rcW ds v = 0) : ds.all wtB = true ∧ ds.length ≤ 100 ∧ 0 ≤ v ∧ v ≤ 1000000000 := by
  unfold rcW at h
  split at h
  · rename_i h1
    split at h
    · rename_i h2; exact ⟨h1, h2⟩
    · omega
  · omega
theorem wt_all {ds : List Wt} (h : ds.all wtB = true) (k : Nat) (hk : k < ds.length) : WtF (gWt ds k) := wtB_f (List.all_eq_true.1 h _ (gWt_mem ds k hk))
theorem runCode_ok (ds : List Wt) (v : Int) (hl : ds.length ≤ 10000000) : ACalls Tryz.prog 25 [.sl ds.length (cWt ds), I v] [] (fun r o => r = I (rcW ds v) ∧ o = []) := by
  refine ACalls.of_vc Tryz.func25 rfl (by decide) 18 rfl [.tmp 4] rfl (by simp) ?_
  have ha := allWt_ok 63 [] wtB ds (fun x _ => validWt_ok x) rfl hl
  (repeat (first | simp (maxSteps := 2000000) (disch := omega) only [go_sem, ↓reduceIte] | with_reducible refine vIf_t ?_ | with_reducible refine vIf_f ?_))
  (refine vCallX_of ?_; (repeat (first | simp (maxSteps := 2000000) (disch := omega) only [go_sem, ↓reduceIte] | with_reducible refine vIf_t ?_ | with_reducible refine vIf_f ?_)); refine vCall_eq (ha) (by simp (disch := omega) only [go_sem]) rfl (by first | exact Or.inl rfl | exact Or.inr ⟨rfl, rfl⟩ | (apply Or.inr; simp only [go_sem])) ?_; (repeat (first | simp (maxSteps := 2000000) (disch := omega) only [go_sem, ↓reduceIte] | with_reducible refine vIf_t ?_ | with_reducible refine vIf_f ?_)))
  cases h1 : ds.all wtB with
  | false =>
    (try (repeat (first | simp (maxSteps := 2000000) (disch := omega) only [go_sem, ↓reduceIte, h1] | with_reducible refine vIf_t ?_ | with_reducible refine vIf_f ?_)))
    (refine retK_of ?_; (repeat (first | simp (maxSteps := 2000000) (disch := omega) only [go_sem, ↓reduceIte] | with_reducible refine vIf_t ?_ | with_reducible refine vIf_f ?_)))
    simp [rcW, h1]
  | true =>
    (try (repeat (first | simp (maxSteps := 2000000) (disch := omega) only [go_sem, ↓reduceIte, h1] | with_reducible refine vIf_t ?_ | with_reducible refine vIf_f ?_)))
    by_cases h2 : 100 < (ds.length : Int)
    · have h2b : decide (100 < (ds.length : Int)) = true := decide_eq_true h2
      (try (repeat (first | simp (maxSteps := 2000000) (disch := omega) only [go_sem, ↓reduceIte, h2b] | with_reducible refine vIf_t ?_ | with_reducible refine vIf_f ?_)))
      (refine retK_of ?_; (repeat (first | simp (maxSteps := 2000000) (disch := omega) only [go_sem, ↓reduceIte] | with_reducible refine vIf_t ?_ | with_reducible refine vIf_f ?_)))
      rw [rcW, if_pos h1, if_neg (by omega)]
    · have h2b : decide (100 < (ds.length : Int)) = false := decide_eq_false h2
      (try (repeat (first | simp (maxSteps := 2000000) (disch := omega) only [go_sem, ↓reduceIte, h2b] | with_reducible refine vIf_t ?_ | with_reducible refine vIf_f ?_)))
      (refine vCallX_of ?_; (repeat (first | simp (maxSteps := 2000000) (disch := omega) only [go_sem, ↓reduceIte] | with_reducible refine vIf_t ?_ | with_reducible refine vIf_f ?_)); refine vCall_eq (isVol_ok v) (by simp (disch := omega) only [go_sem]) rfl (by first | exact Or.inl rfl | exact Or.inr ⟨rfl, rfl⟩ | (apply Or.inr; simp only [go_sem])) ?_; (repeat (first | simp (maxSteps := 2000000) (disch := omega) only [go_sem, ↓reduceIte] | with_reducible refine vIf_t ?_ | with_reducible refine vIf_f ?_)))
      cases h3 : decide (0 ≤ v ∧ v ≤ 1000000000) with
      | false =>
        (try (repeat (first | simp (maxSteps := 2000000) (disch := omega) only [go_sem, ↓reduceIte, h3] | with_reducible refine vIf_t ?_ | with_reducible refine vIf_f ?_)))
        (refine retK_of ?_; (repeat (first | simp (maxSteps := 2000000) (disch := omega) only [go_sem, ↓reduceIte] | with_reducible refine vIf_t ?_ | with_reducible refine vIf_f ?_)))
        rw [rcW, if_pos h1, if_neg (by simp at h3; omega)]
      | true =>
        (try (repeat (first | simp (maxSteps := 2000000) (disch := omega) only [go_sem, ↓reduceIte, h3] | with_reducible refine vIf_t ?_ | with_reducible refine vIf_f ?_)))
        (refine retK_of ?_; (repeat (first | simp (maxSteps := 2000000) (disch := omega) only [go_sem, ↓reduceIte] | with_reducible refine vIf_t ?_ | with_reducible refine vIf_f ?_)))
        rw [rcW, if_pos h1, if_pos (by simp at h3; omega)]
set_option maxHeartbeats 1000000 in
theorem l13List_ok (ds : List Wt) (hl : ds.length ≤ 10000000) : ACalls Tryz.prog 65 [.sl ds.length (cWt ds)] [] (fun r o => r = I (rcW ds 0) ∧ o = []) := by
  refine ACalls.of_vc Tryz.func65 rfl (by decide) 18 rfl [.tmp 2] rfl (by simp) ?_
  (repeat (first | simp (maxSteps := 2000000) (disch := omega) only [go_sem, ↓reduceIte] | with_reducible refine vIf_t ?_ | with_reducible refine vIf_f ?_))
  refine vcLoop_inv (fun k : Nat => k ≤ ds.length ∧ (ds.take k).all wtB = true) (fun k => ⟨18, 0, [(3, I k), (0, .sl ds.length (cWt ds))], []⟩) (fun k => ds.length - k) 0 (by simp) (by ((repeat (first | simp (maxSteps := 2000000) (disch := omega) only [go_sem, ↓reduceIte] | with_reducible refine vIf_t ?_ | with_reducible refine vIf_f ?_)); all_goals (try simp); all_goals (try omega))) ?_
  intro k ⟨hk, he⟩
  (repeat (first | simp (maxSteps := 2000000) (disch := omega) only [go_sem, ↓reduceIte] | with_reducible refine vIf_t ?_ | with_reducible refine vIf_f ?_))
  refine vIf_dec (fun h => ?_) (fun h => ?_)
  · have hc := l13Ok_ok ds k (by omega)
    (repeat (first | simp (maxSteps := 2000000) (disch := omega) only [go_sem, ↓reduceIte] | with_reducible refine vIf_t ?_ | with_reducible refine vIf_f ?_))
    (refine vCallX_of ?_; (repeat (first | simp (maxSteps := 2000000) (disch := omega) only [go_sem, ↓reduceIte] | with_reducible refine vIf_t ?_ | with_reducible refine vIf_f ?_)); refine vCall_eq (hc) (by simp (disch := omega) only [go_sem]) rfl (by first | exact Or.inl rfl | exact Or.inr ⟨rfl, rfl⟩ | (apply Or.inr; simp only [go_sem])) ?_; (repeat (first | simp (maxSteps := 2000000) (disch := omega) only [go_sem, ↓reduceIte] | with_reducible refine vIf_t ?_ | with_reducible refine vIf_f ?_)))
    cases h1 : wtB (gWt ds k) with
    | false =>
      (try (repeat (first | simp (maxSteps := 2000000) (disch := omega) only [go_sem, ↓reduceIte, h1] | with_reducible refine vIf_t ?_ | with_reducible refine vIf_f ?_)))
      (refine retK_of ?_; (repeat (first | simp (maxSteps := 2000000) (disch := omega) only [go_sem, ↓reduceIte] | with_reducible refine vIf_t ?_ | with_reducible refine vIf_f ?_)))
      rw [rcW, allWt_no wtB ds k (by omega) h1]
      simp
    | true =>
      have ha2 := allWt_snoc wtB ds k (by omega) he h1
      (try (repeat (first | simp (maxSteps := 2000000) (disch := omega) only [go_sem, ↓reduceIte, h1] | with_reducible refine vIf_t ?_ | with_reducible refine vIf_f ?_)))
      refine again (k + 1) ⟨by omega, ha2⟩ (by omega) ?_
      ((repeat (first | simp (maxSteps := 2000000) (disch := omega) only [go_sem, ↓reduceIte] | with_reducible refine vIf_t ?_ | with_reducible refine vIf_f ?_)); all_goals (try simp); all_goals (try omega))
  · rw [show k = ds.length by omega, List.take_length] at he
    (repeat (first | simp (maxSteps := 2000000) (disch := omega) only [go_sem, ↓reduceIte] | with_reducible refine vIf_t ?_ | with_reducible refine vIf_f ?_))
    refine vIf_dec (fun h2 => ?_) (fun h2 => ?_)
    · (repeat (first | simp (maxSteps := 2000000) (disch := omega) only [go_sem, ↓reduceIte] | with_reducible refine vIf_t ?_ | with_reducible refine vIf_f ?_))
      (refine retK_of ?_; (repeat (first | simp (maxSteps := 2000000) (disch := omega) only [go_sem, ↓reduceIte] | with_reducible refine vIf_t ?_ | with_reducible refine vIf_f ?_)))
      rw [rcW, if_pos he, if_neg (by omega)]
    · (repeat (first | simp (maxSteps := 2000000) (disch := omega) only [go_sem, ↓reduceIte] | with_reducible refine vIf_t ?_ | with_reducible refine vIf_f ?_))
      (refine retK_of ?_; (repeat (first | simp (maxSteps := 2000000) (disch := omega) only [go_sem, ↓reduceIte] | with_reducible refine vIf_t ?_ | with_reducible refine vIf_f ?_)))
      rw [rcW, if_pos he, if_pos (by omega)]
end Go.Proofs.YtpjjjonplikilaaGreat
namespace Go.Proofs.YtpjjjonplikilaaGreat
open Go.AG

def rok (xs : List Int) (lo hi : Int) (j : Nat) : Bool := decide (lo ≤ gi xs j ∧ gi xs j ≤ hi) && !(decide (0 < j ∧ gi xs j ≤ gi xs ((j : Int)-1).toNat))
theorem rok_yes (xs : List Int) (lo hi : Int) (k : Nat) (h1 : lo ≤ gi xs k ∧ gi xs k ≤ hi) (h2 : (k : Int) ≤ 0 ∨ gi xs ((k : Int) - 1).toNat < gi xs k) : rok xs lo hi k = true := by
  unfold rok
  rw [decide_eq_true h1, decide_eq_false (by omega)]
  rfl
theorem rok_no (xs : List Int) (lo hi : Int) (k : Nat) (h : ¬(lo ≤ gi xs k ∧ gi xs k ≤ hi) ∨ (0 < (k : Int) ∧ gi xs k ≤ gi xs ((k : Int) - 1).toNat)) : rok xs lo hi k = false := by
  unfold rok
  rcases h with h | h
  · rw [decide_eq_false h]; rfl
  · rw [decide_eq_true (p := 0 < k ∧ _) ⟨by omega, h.2⟩]; simp
theorem rok_snoc (xs : List Int) (lo hi : Int) (k : Nat) (he : ∀ j, j < k → rok xs lo hi j = true) (h : rok xs lo hi k = true) : ∀ j, j < k + 1 → rok xs lo hi j = true := by
  intro j hj
  rcases Nat.lt_succ_iff_lt_or_eq.1 hj with h1 | h1
  · exact he j h1
  · rw [h1]; exact h
def risesB (xs : List Int) (lo hi : Int) : Bool := decide (∀ j, j < xs.length → rok xs lo hi j = true)
theorem risesB_no (xs : List Int) (lo hi : Int) (k : Nat) (hk : k < xs.length) (h : rok xs lo hi k = false) : V.sc (.bool false) = B (risesB xs lo hi) := by
  have : risesB xs lo hi = false := by
    unfold risesB
    rw [decide_eq_false_iff_not]
    intro h2
    rw [h2 k hk] at h
    cases h
  rw [this]
theorem risesB_yes (xs : List Int) (lo hi : Int) (k : Nat) (hk : xs.length ≤ k) (h : ∀ j, j < k → rok xs lo hi j = true) : V.sc (.bool true) = B (risesB xs lo hi) := by
  have : risesB xs lo hi = true := by
    unfold risesB
    rw [decide_eq_true_eq]
    exact fun j hj => h j (by omega)
  rw [this]

theorem rise_ok (xs : List Int) (lo hi : Int) (hl : xs.length ≤ 10000000) : ACalls Tryz.prog 77 [iS xs, I lo, I hi] [] (fun r o => r = B (risesB xs lo hi) ∧ o = []) := by
  refine ACalls.of_vc Tryz.func77 rfl (by decide) 35 rfl [.tmp 6] rfl (by simp) ?_
  unfold iS
  (repeat (first | simp (maxSteps := 2000000) (disch := omega) only [go_sem, ↓reduceIte] | with_reducible refine vIf_t ?_ | with_reducible refine vIf_f ?_))
  refine vcLoop_inv (fun k : Nat => k ≤ xs.length ∧ ∀ j, j < k → rok xs lo hi j = true) (fun k => ⟨35, 0, [(11, I k), (9, .sl xs.length (ints xs)), (10, I xs.length), (0, .sl xs.length (ints xs)), (1, I lo), (2, I hi)], []⟩) (fun k => xs.length - k) 0 (by simp) (by (repeat (first | simp (maxSteps := 2000000) (disch := omega) only [go_sem, ↓reduceIte] | with_reducible refine vIf_t ?_ | with_reducible refine vIf_f ?_))) ?_
  intro k ⟨hk, he⟩
  (repeat (first | simp (maxSteps := 2000000) (disch := omega) only [go_sem, ↓reduceIte] | with_reducible refine vIf_t ?_ | with_reducible refine vIf_f ?_))
  refine vIf_dec (fun h => ?_) (fun h => ?_)
  · (repeat (first | simp (maxSteps := 2000000) (disch := omega) only [go_sem, ↓reduceIte] | with_reducible refine vIf_t ?_ | with_reducible refine vIf_f ?_))
    (refine vCallX_of ?_; (repeat (first | simp (maxSteps := 2000000) (disch := omega) only [go_sem, ↓reduceIte] | with_reducible refine vIf_t ?_ | with_reducible refine vIf_f ?_)); refine vCall_eq (in_ok (gi xs k) lo hi) (by simp (disch := omega) only [go_sem]) rfl (by first | exact Or.inl rfl | exact Or.inr ⟨rfl, rfl⟩ | (apply Or.inr; simp only [go_sem])) ?_; (repeat (first | simp (maxSteps := 2000000) (disch := omega) only [go_sem, ↓reduceIte] | with_reducible refine vIf_t ?_ | with_reducible refine vIf_f ?_)))
    repeat' (first | (with_reducible refine vGuard_any (fun h => ?_) (fun h => ?_) <;> (try simp only [ne_eq, Bool.not_eq_true, Bool.not_eq_false, decide_eq_true_eq, decide_eq_false_iff_not, Bool.not_eq_eq_eq_not, Bool.not_true, Bool.not_false, beq_iff_eq, bne_iff_ne, beq_eq_false_iff_ne, bne_eq_false_iff_eq, Bool.and_eq_true, Bool.and_eq_false_imp, Int.not_le, Int.not_lt, Nat.not_le, Nat.not_lt] at h) <;> ((repeat (first | simp (maxSteps := 2000000) (disch := omega) only [go_sem, ↓reduceIte, h] | with_reducible refine vIf_t ?_ | with_reducible refine vIf_f ?_)))) | (with_reducible refine vIf_bool (fun h => ?_) (fun h => ?_) <;> (try simp only [ne_eq, Bool.not_eq_true, Bool.not_eq_false, decide_eq_true_eq, decide_eq_false_iff_not, Bool.not_eq_eq_eq_not, Bool.not_true, Bool.not_false, beq_iff_eq, bne_iff_ne, beq_eq_false_iff_ne, bne_eq_false_iff_eq, Bool.and_eq_true, Bool.and_eq_false_imp, Int.not_le, Int.not_lt, Nat.not_le, Nat.not_lt] at h) <;> ((repeat (first | simp (maxSteps := 2000000) (disch := omega) only [go_sem, ↓reduceIte, h] | with_reducible refine vIf_t ?_ | with_reducible refine vIf_f ?_)))) | (with_reducible refine vqGuard_any (fun h => ?_) (fun h => ?_) <;> (try simp only [ne_eq, Bool.not_eq_true, Bool.not_eq_false, decide_eq_true_eq, decide_eq_false_iff_not, Bool.not_eq_eq_eq_not, Bool.not_true, Bool.not_false, beq_iff_eq, bne_iff_ne, beq_eq_false_iff_ne, bne_eq_false_iff_eq, Bool.and_eq_true, Bool.and_eq_false_imp, Int.not_le, Int.not_lt, Nat.not_le, Nat.not_lt] at h) <;> ((repeat (first | simp (maxSteps := 2000000) (disch := omega) only [go_sem, ↓reduceIte, h] | with_reducible refine vIf_t ?_ | with_reducible refine vIf_f ?_)))) | (with_reducible refine retK_of ?_; (repeat (first | simp (maxSteps := 2000000) (disch := omega) only [go_sem, ↓reduceIte] | with_reducible refine vIf_t ?_ | with_reducible refine vIf_f ?_))))
    any_goals (exact risesB_no xs lo hi k (by omega) (rok_no xs lo hi k (by omega)))
    all_goals (refine again (k + 1) ⟨by omega, rok_snoc xs lo hi k he (rok_yes xs lo hi k (by omega) (by omega))⟩ (by omega) ?_; (repeat (first | simp (maxSteps := 2000000) (disch := omega) only [go_sem, ↓reduceIte] | with_reducible refine vIf_t ?_ | with_reducible refine vIf_f ?_)))
  · (repeat (first | simp (maxSteps := 2000000) (disch := omega) only [go_sem, ↓reduceIte] | with_reducible refine vIf_t ?_ | with_reducible refine vIf_f ?_))
    (refine retK_of ?_; (repeat (first | simp (maxSteps := 2000000) (disch := omega) only [go_sem, ↓reduceIte] | with_reducible refine vIf_t ?_ | with_reducible refine vIf_f ?_)))
    exact risesB_yes xs lo hi k (by omega) he
end Go.Proofs.YtpjjjonplikilaaGreat
namespace Go.Proofs.YtpjjjonplikilaaGreat
open Go.AG

structure Cv where
  lv : List Int
  vl : List Int
  deriving Inhabited, DecidableEq
def Cv.cells (d : Cv) : List V := [.sl (d.lv).length (ints (d.lv)), .sl (d.vl).length (ints (d.vl))]
def gCv (ds : List Cv) (i : Nat) : Cv := ds.getD i default
theorem gCv_set_same (ds : List Cv) (i : Nat) (d : Cv) (h : i < ds.length) : gCv (ds.set i d) i = d := by simp [gCv, h]
attribute [go_sem] gCv_set_same
def hi' (c : Cv) : Int := gi c.lv (c.lv.length - 1)
end Go.Proofs.YtpjjjonplikilaaGreat
namespace Go.Proofs.YtpjjjonplikilaaGreat
open Go.AG

/-- the volume after k days -/
def vsK (s : Int) (ds : List Wt) : Nat → Int
  | 0 => s
  | k + 1 => vsK s ds k + wtN (gWt ds k)
def vlK (s : Int) (ds : List Wt) : Nat → List Int
  | 0 => []
  | k + 1 => vlK s ds k ++ [vsK s ds (k + 1)]
theorem vlK_len (s : Int) (ds : List Wt) (k : Nat) : (vlK s ds k).length = k := by
  induction k with
  | zero => rfl
  | succ k ih => simp [vlK, ih]
theorem vlK_get (s : Int) (ds : List Wt) (k j : Nat) (h : j < k) : gi (vlK s ds k) j = vsK s ds (j + 1) := by
  induction k with
  | zero => omega
  | succ k ih =>
    have hl := vlK_len s ds k
    simp only [vlK]
    by_cases e : j = k
    · subst e
      have := gi_append_right (vlK s ds j) [vsK s ds (j + 1)] j (by omega)
      rw [this, hl, Nat.sub_self]
      rfl
    · rw [gi_append_left _ _ _ (by omega)]
      exact ih (by omega)
theorem vsK_bd {s : Int} {ds : List Wt} (h : ds.all wtB = true) (k : Nat) (hk : k ≤ ds.length) : s - 30000000 * k ≤ vsK s ds k ∧ vsK s ds k ≤ s + 20000000 * k := by
  induction k with
  | zero => simp [vsK]
  | succ k ih =>
    have := ih (by omega)
    have := wtN_bd (wt_all h k (by omega))
    simp only [vsK]
    omega
set_option maxHeartbeats 1000000 in
theorem volumes_ok (s : Int) (ds : List Wt) (h : ds.all wtB = true) (hl : ds.length ≤ 100) (hs : -1 ≤ s ∧ s ≤ 1000000001) : ACalls Tryz.prog 26 [I s, .sl ds.length (cWt ds)] [] (fun r o => r = .ref 0 0 ds.length ∧ o = [oI (vlK s ds ds.length)]) := by
  refine ACalls.of_vc Tryz.func26 rfl (by decide) 25 rfl [.tmp 4] rfl (by simp) ?_
  (repeat (first | simp (maxSteps := 2000000) (disch := omega) only [go_sem, ↓reduceIte] | with_reducible refine vIf_t ?_ | with_reducible refine vIf_f ?_))
  refine vcLoop_invF (fun k : Nat => k ≤ ds.length) (fun k => ⟨25, 0, [(11, I k), (5, .ref 0 0 k), (0, I (vsK s ds k)), (9, .sl ds.length (cWt ds)), (10, I ds.length)], [oI (vlK s ds k)]⟩) (fun k => ds.length - k) 0 (by omega) (by simp only [vsK, vlK]; (first | (refine leF_s ?_; ((repeat (first | simp (maxSteps := 2000000) (disch := omega) only [go_sem, ↓reduceIte] | with_reducible refine vIf_t ?_ | with_reducible refine vIf_f ?_)); all_goals (try simp); all_goals (try omega)); done) | (refine leF_p ?_; ((repeat (first | simp (maxSteps := 2000000) (disch := omega) only [go_sem, ↓reduceIte] | with_reducible refine vIf_t ?_ | with_reducible refine vIf_f ?_)); all_goals (try simp); all_goals (try omega)); done))) ?_
  intro k hk
  have hlen := vlK_len s ds k
  (repeat (first | simp (maxSteps := 2000000) (disch := omega) only [go_sem, ↓reduceIte] | with_reducible refine vIf_t ?_ | with_reducible refine vIf_f ?_))
  refine vIf_dec (fun h2 => ?_) (fun h2 => ?_)
  · have hf := wt_all h k (by omega)
    have hn := net_ok (gWt ds k) hf
    have hb := vsK_bd (s := s) h k hk
    have hw := wtN_bd hf
    unfold Wt.cells at hn
    (repeat (first | simp (maxSteps := 2000000) (disch := omega) only [go_sem, ↓reduceIte] | with_reducible refine vIf_t ?_ | with_reducible refine vIf_f ?_))
    (refine vCallX_of ?_; (repeat (first | simp (maxSteps := 2000000) (disch := omega) only [go_sem, ↓reduceIte] | with_reducible refine vIf_t ?_ | with_reducible refine vIf_f ?_)); refine vCall_eq (hn) (by simp (disch := omega) only [go_sem]) rfl (by first | exact Or.inl rfl | exact Or.inr ⟨rfl, rfl⟩ | (apply Or.inr; simp only [go_sem])) ?_; (repeat (first | simp (maxSteps := 2000000) (disch := omega) only [go_sem, ↓reduceIte] | with_reducible refine vIf_t ?_ | with_reducible refine vIf_f ?_)))
    refine againF (k + 1) (by omega) (by omega) ?_
    simp only [vlK, vsK]
    (first | (refine leF_s ?_; ((repeat (first | simp (maxSteps := 2000000) (disch := omega) only [go_sem, ↓reduceIte] | with_reducible refine vIf_t ?_ | with_reducible refine vIf_f ?_)); all_goals (try simp); all_goals (try omega)); done) | (refine leF_p ?_; ((repeat (first | simp (maxSteps := 2000000) (disch := omega) only [go_sem, ↓reduceIte] | with_reducible refine vIf_t ?_ | with_reducible refine vIf_f ?_)); all_goals (try simp); all_goals (try omega)); done))
  · (repeat (first | simp (maxSteps := 2000000) (disch := omega) only [go_sem, ↓reduceIte] | with_reducible refine vIf_t ?_ | with_reducible refine vIf_f ?_))
    (refine retK_of ?_; (repeat (first | simp (maxSteps := 2000000) (disch := omega) only [go_sem, ↓reduceIte] | with_reducible refine vIf_t ?_ | with_reducible refine vIf_f ?_)))
    rw [show k = ds.length by omega]
    exact ⟨rfl, rfl⟩
/-- the code of a run up to a limit -/
def rcM (ds : List Wt) (s m : Int) : Int := if ds.all wtB = true then if ds.length ≤ 100 ∧ (0 ≤ s ∧ s ≤ 1000000000) ∧ (0 ≤ m ∧ m ≤ 1000000000) then 0 else 2 else 1
theorem rcM_max (ds : List Wt) (s m : Int) : (if rcW ds s < rcW ds m then rcW ds m else rcW ds s) = rcM ds s m := by
  unfold rcW rcM
  by_cases h : ds.all wtB = true
  · rw [if_pos h, if_pos h, if_pos h]
    by_cases h1 : ds.length ≤ 100 <;> by_cases h2 : 0 ≤ s ∧ s ≤ 1000000000 <;> by_cases h3 : 0 ≤ m ∧ m ≤ 1000000000 <;> simp only [h1, h2, h3, and_self, and_true, true_and, and_false, false_and, if_true, if_false] <;> rfl
  · rw [if_neg h, if_neg h, if_neg h]; rfl
theorem rcM_0 {ds : List Wt} {s m : Int} (h : rcM ds s m = 0) : ds.all wtB = true ∧ ds.length ≤ 100 ∧ (0 ≤ s ∧ s ≤ 1000000000) ∧ (0 ≤ m ∧ m ≤ 1000000000) := by
  unfold rcM at h
  split at h
  · rename_i h1
    split at h
    · rename_i h2; exact ⟨h1, h2⟩
    · omega
  · omega
theorem l13Start_ok (s : Int) (ds : List Wt) (hl : ds.length ≤ 10000000) : ACalls Tryz.prog 29 [I s, .sl ds.length (cWt ds)] [] (fun r o => r = I (rcW ds s) ∧ o = []) := by
  refine ACalls.of_vc Tryz.func29 rfl (by decide) 16 rfl [.tmp 4] rfl (by simp) ?_
  have e : rcW ds s = if rcW ds 0 = 0 then if 0 ≤ s ∧ s ≤ 1000000000 then 0 else 2 else rcW ds 0 := by
    unfold rcW
    by_cases h : ds.all wtB = true
    · rw [if_pos h, if_pos h]
      by_cases h1 : ds.length ≤ 100 <;> by_cases h2 : 0 ≤ s ∧ s ≤ 1000000000 <;> simp [h1, h2]
    · rw [if_neg h, if_neg h]; rfl
  have hc := l13List_ok ds hl
  (repeat (first | simp (maxSteps := 2000000) (disch := omega) only [go_sem, ↓reduceIte] | with_reducible refine vIf_t ?_ | with_reducible refine vIf_f ?_))
  (refine vCallX_of ?_; (repeat (first | simp (maxSteps := 2000000) (disch := omega) only [go_sem, ↓reduceIte] | with_reducible refine vIf_t ?_ | with_reducible refine vIf_f ?_)); refine vCall_eq (hc) (by simp (disch := omega) only [go_sem]) rfl (by first | exact Or.inl rfl | exact Or.inr ⟨rfl, rfl⟩ | (apply Or.inr; simp only [go_sem])) ?_; (repeat (first | simp (maxSteps := 2000000) (disch := omega) only [go_sem, ↓reduceIte] | with_reducible refine vIf_t ?_ | with_reducible refine vIf_f ?_)))
  by_cases h : rcW ds 0 = 0
  · have hb : (rcW ds 0 == 0) = true := by simpa using h
    rw [if_pos h] at e
    (repeat (first | simp (maxSteps := 2000000) (disch := omega) only [go_sem, ↓reduceIte, hb] | with_reducible refine vIf_t ?_ | with_reducible refine vIf_f ?_))
    (refine vCallX_of ?_; (repeat (first | simp (maxSteps := 2000000) (disch := omega) only [go_sem, ↓reduceIte] | with_reducible refine vIf_t ?_ | with_reducible refine vIf_f ?_)); refine vCall_eq (inS_ok s 0 1000000000) (by simp (disch := omega) only [go_sem]) rfl (by first | exact Or.inl rfl | exact Or.inr ⟨rfl, rfl⟩ | (apply Or.inr; simp only [go_sem])) ?_; (repeat (first | simp (maxSteps := 2000000) (disch := omega) only [go_sem, ↓reduceIte] | with_reducible refine vIf_t ?_ | with_reducible refine vIf_f ?_)))
    cases h2 : decide (0 ≤ s ∧ s ≤ 1000000000) with
    | true =>
      (try (repeat (first | simp (maxSteps := 2000000) (disch := omega) only [go_sem, ↓reduceIte, h2] | with_reducible refine vIf_t ?_ | with_reducible refine vIf_f ?_)))
      (refine retK_of ?_; (repeat (first | simp (maxSteps := 2000000) (disch := omega) only [go_sem, ↓reduceIte] | with_reducible refine vIf_t ?_ | with_reducible refine vIf_f ?_)))
      rw [e, if_pos (of_decide_eq_true h2), h]
    | false =>
      (try (repeat (first | simp (maxSteps := 2000000) (disch := omega) only [go_sem, ↓reduceIte, h2] | with_reducible refine vIf_t ?_ | with_reducible refine vIf_f ?_)))
      (refine retK_of ?_; (repeat (first | simp (maxSteps := 2000000) (disch := omega) only [go_sem, ↓reduceIte] | with_reducible refine vIf_t ?_ | with_reducible refine vIf_f ?_)))
      rw [e, if_neg (of_decide_eq_false h2)]
  · have hb : (rcW ds 0 == 0) = false := by simpa using h
    rw [if_neg h] at e
    (try (repeat (first | simp (maxSteps := 2000000) (disch := omega) only [go_sem, ↓reduceIte, hb] | with_reducible refine vIf_t ?_ | with_reducible refine vIf_f ?_)))
    (refine retK_of ?_; (repeat (first | simp (maxSteps := 2000000) (disch := omega) only [go_sem, ↓reduceIte] | with_reducible refine vIf_t ?_ | with_reducible refine vIf_f ?_)))
    rw [e]
end Go.Proofs.YtpjjjonplikilaaGreat
namespace Go.Proofs.YtpjjjonplikilaaGreat
open Go.AG

/-- the sums of all amounts of the first k days -/
def smW (ds : List Wt) : Nat → Wt
  | 0 => ⟨0, 0, 0, 0, 0⟩
  | k + 1 => ⟨(smW ds k).rain + (gWt ds k).rain, (smW ds k).seep + (gWt ds k).seep, (smW ds k).evap + (gWt ds k).evap, (smW ds k).pump + (gWt ds k).pump, (smW ds k).slu + (gWt ds k).slu⟩
structure SmF (p : Wt) (k : Nat) : Prop where
  rain : 0 ≤ p.rain ∧ p.rain ≤ 10000000 * k
  seep : 0 ≤ p.seep ∧ p.seep ≤ 10000000 * k
  evap : 0 ≤ p.evap ∧ p.evap ≤ 10000000 * k
  pump : 0 ≤ p.pump ∧ p.pump ≤ 10000000 * k
  slu : 0 ≤ p.slu ∧ p.slu ≤ 10000000 * k
theorem smW_bd {ds : List Wt} (h : ds.all wtB = true) (k : Nat) (hk : k ≤ ds.length) : SmF (smW ds k) k := by
  induction k with
  | zero => exact ⟨by simp [smW], by simp [smW], by simp [smW], by simp [smW], by simp [smW]⟩
  | succ k ih =>
    obtain ⟨a, b, c, d, e⟩ := ih (by omega)
    obtain ⟨a1, b1, c1, d1, e1⟩ := wt_all h k (by omega)
    refine ⟨?_, ?_, ?_, ?_, ?_⟩ <;> simp only [smW] <;> omega
set_option maxRecDepth 20000 in
set_option maxHeartbeats 4000000 in
theorem sumOf_ok (ds : List Wt) (h : ds.all wtB = true) (hl : ds.length ≤ 100) : ACalls Tryz.prog 31 [.sl ds.length (cWt ds)] [] (fun r o => r = .agg (smW ds ds.length).cells ∧ o = []) := by
  refine ACalls.of_vc Tryz.func31 rfl (by decide) 41 rfl [.cell 2 76] rfl (by simp) ?_
  (repeat (first | simp (maxSteps := 2000000) (disch := omega) only [go_sem, ↓reduceIte] | with_reducible refine vIf_t ?_ | with_reducible refine vIf_f ?_))
  refine vcLoop_invF (fun k : Nat => k ≤ ds.length) (fun k => ⟨41, 0, [(9, I k), (3, .ptr 1 0), (7, .sl ds.length (cWt ds)), (2, .ptr 0 0), (8, I ds.length)], [some ⟨5, [I 0, I 0, I 0, I 0, I 0]⟩, some ⟨5, [I (smW ds k).rain, I (smW ds k).seep, I (smW ds k).evap, I (smW ds k).pump, I (smW ds k).slu]⟩]⟩) (fun k => ds.length - k) 0 (by omega) (by simp only [smW]; (first | (refine leF_s ?_; ((repeat (first | simp (maxSteps := 2000000) (disch := omega) only [go_sem, ↓reduceIte] | with_reducible refine vIf_t ?_ | with_reducible refine vIf_f ?_)); all_goals (try simp); all_goals (try omega)); done) | (refine leF_p ?_; ((repeat (first | simp (maxSteps := 2000000) (disch := omega) only [go_sem, ↓reduceIte] | with_reducible refine vIf_t ?_ | with_reducible refine vIf_f ?_)); all_goals (try simp); all_goals (try omega)); done))) ?_
  intro k hk
  (repeat (first | simp (maxSteps := 2000000) (disch := omega) only [go_sem, ↓reduceIte] | with_reducible refine vIf_t ?_ | with_reducible refine vIf_f ?_))
  refine vIf_dec (fun h2 => ?_) (fun h2 => ?_)
  · obtain ⟨a, b, c, d, e⟩ := smW_bd h k (by omega)
    obtain ⟨a1, b1, c1, d1, e1⟩ := wt_all h k (by omega)
    (repeat (first | simp (maxSteps := 2000000) (disch := omega) only [go_sem, ↓reduceIte] | with_reducible refine vIf_t ?_ | with_reducible refine vIf_f ?_))
    refine againF (k + 1) (by omega) (by omega) ?_
    simp only [smW]
    (first | (refine leF_s ?_; ((repeat (first | simp (maxSteps := 2000000) (disch := omega) only [go_sem, ↓reduceIte] | with_reducible refine vIf_t ?_ | with_reducible refine vIf_f ?_)); all_goals (try simp); all_goals (try omega)); done) | (refine leF_p ?_; ((repeat (first | simp (maxSteps := 2000000) (disch := omega) only [go_sem, ↓reduceIte] | with_reducible refine vIf_t ?_ | with_reducible refine vIf_f ?_)); all_goals (try simp); all_goals (try omega)); done))
  · (repeat (first | simp (maxSteps := 2000000) (disch := omega) only [go_sem, ↓reduceIte] | with_reducible refine vIf_t ?_ | with_reducible refine vIf_f ?_))
    (refine retK_of ?_; (repeat (first | simp (maxSteps := 2000000) (disch := omega) only [go_sem, ↓reduceIte] | with_reducible refine vIf_t ?_ | with_reducible refine vIf_f ?_)))
    rw [show k = ds.length by omega]
    rfl
end Go.Proofs.YtpjjjonplikilaaGreat
namespace Go.Proofs.YtpjjjonplikilaaGreat
open Go.AG Go.Lib

attribute [local go_sem] beq_self_eq_true bne_self_eq_false Bool.not_true
/-- the result of a run -/
def rbC (s : Int) (ds : List Wt) : Int := if rcW ds s = 0 then (if (vlK s ds ds.length).all (fun n => decide (0 ≤ n)) = true then 0 else 6) else rcW ds s
def rbL (s : Int) (ds : List Wt) : List Int := if rbC s ds = 0 then vlK s ds ds.length else []
theorem rb1_ok (n : Int) : ACalls Tryz.prog 28 [I n] [] (fun r o => r = B (decide (0 ≤ n)) ∧ o = []) := by
  refine ACalls.of_vc Tryz.func28 rfl (by decide) 5 rfl [.tmp 2] rfl (by simp) ?_
  (repeat (first | simp (maxSteps := 2000000) (disch := omega) only [go_sem, ↓reduceIte] | with_reducible refine vIf_t ?_ | with_reducible refine vIf_f ?_))
  (refine retK_of ?_; (repeat (first | simp (maxSteps := 2000000) (disch := omega) only [go_sem, ↓reduceIte] | with_reducible refine vIf_t ?_ | with_reducible refine vIf_f ?_)))
theorem runBal_ok (s : Int) (ds : List Wt) (hs : -1 ≤ s ∧ s ≤ 1000000001) (hl : ds.length ≤ 10000000) : ACalls Tryz.prog 6 [I s, .sl ds.length (cWt ds)] [] (fun r o => r = .tup [iS (rbL s ds), I (rbC s ds)] ∧ o = []) := by
  refine ACalls.of_vc Tryz.func6 rfl (by decide) 23 rfl [.tmp 4, .tmp 5] rfl (by simp) ?_
  have c1 := runCode_ok ds s hl
  by_cases h : rcW ds s = 0
  · obtain ⟨h1, h2, h3⟩ := rcW_0 h
    have c2 := volumes_ok s ds h1 h2 hs
    have hvl := vlK_len s ds ds.length
    have c3 := all_ok 28 [] (fun n => decide (0 ≤ n)) (vlK s ds ds.length) (fun x _ => rb1_ok x) rfl (by omega)
    unfold iS at c3
    rw [hvl] at c3
    rw [h] at c1
    have eC : rbC s ds = if (vlK s ds ds.length).all (fun n => decide (0 ≤ n)) = true then 0 else 6 := by unfold rbC; rw [if_pos h]
    cases ha : (vlK s ds ds.length).all (fun n => decide (0 ≤ n)) with
    | true =>
      rw [ha] at c3
      have e0 : rbC s ds = 0 := by rw [eC, ha]; rfl
      have eL : rbL s ds = vlK s ds ds.length := by unfold rbL; rw [if_pos e0]
      rw [e0, eL]
      (repeat (first | simp (maxSteps := 2000000) (disch := omega) only [go_sem, ↓reduceIte] | with_reducible refine vIf_t ?_ | with_reducible refine vIf_f ?_))
      (refine vCallX_of ?_; (repeat (first | simp (maxSteps := 2000000) (disch := omega) only [go_sem, ↓reduceIte] | with_reducible refine vIf_t ?_ | with_reducible refine vIf_f ?_)); refine vCall_eq (c1) (by simp (disch := omega) only [go_sem]) rfl (by first | exact Or.inl rfl | exact Or.inr ⟨rfl, rfl⟩ | (apply Or.inr; simp only [go_sem])) ?_; (repeat (first | simp (maxSteps := 2000000) (disch := omega) only [go_sem, ↓reduceIte] | with_reducible refine vIf_t ?_ | with_reducible refine vIf_f ?_)))
      (refine vCallX_io [] ?_; (repeat (first | simp (maxSteps := 2000000) (disch := omega) only [go_sem, ↓reduceIte] | with_reducible refine vIf_t ?_ | with_reducible refine vIf_f ?_)); refine vCallIO_eq (c2) (by simp (disch := omega) only [go_sem]) (by simp (disch := omega) only [go_sem]) (by first | rfl | (simp (disch := omega) only [go_sem])) (by first | rfl | (simp (disch := omega) only [go_sem])) (by first | rfl | (simp (disch := omega) only [go_sem])) (by first | (simp (disch := omega) only [go_sem]) | skip) ?_; (repeat (first | simp (maxSteps := 2000000) (disch := omega) only [go_sem, ↓reduceIte] | with_reducible refine vIf_t ?_ | with_reducible refine vIf_f ?_)))
      (refine vCallX_of ?_; (repeat (first | simp (maxSteps := 2000000) (disch := omega) only [go_sem, ↓reduceIte] | with_reducible refine vIf_t ?_ | with_reducible refine vIf_f ?_)); refine vCall_eq (c3) (by simp (disch := omega) only [go_sem]) rfl (by first | exact Or.inl rfl | exact Or.inr ⟨rfl, rfl⟩ | (apply Or.inr; simp only [go_sem])) ?_; (repeat (first | simp (maxSteps := 2000000) (disch := omega) only [go_sem, ↓reduceIte] | with_reducible refine vIf_t ?_ | with_reducible refine vIf_f ?_)))
      refine retK_frz (.step 0 ⟨1, ints (vlK s ds ds.length)⟩ rfl (by (repeat (first | simp (maxSteps := 2000000) (disch := omega) only [go_sem, ↓reduceIte] | with_reducible refine vIf_t ?_ | with_reducible refine vIf_f ?_))) (.refl _)) ?_
      (repeat (first | simp (maxSteps := 2000000) (disch := omega) only [go_sem, ↓reduceIte] | with_reducible refine vIf_t ?_ | with_reducible refine vIf_f ?_))
      simp [iS, hvl]
    | false =>
      rw [ha] at c3
      have e0 : rbC s ds = 6 := by rw [eC, ha]; rfl
      have eL : rbL s ds = [] := by unfold rbL; rw [if_neg (by omega)]
      rw [e0, eL]
      (repeat (first | simp (maxSteps := 2000000) (disch := omega) only [go_sem, ↓reduceIte] | with_reducible refine vIf_t ?_ | with_reducible refine vIf_f ?_))
      (refine vCallX_of ?_; (repeat (first | simp (maxSteps := 2000000) (disch := omega) only [go_sem, ↓reduceIte] | with_reducible refine vIf_t ?_ | with_reducible refine vIf_f ?_)); refine vCall_eq (c1) (by simp (disch := omega) only [go_sem]) rfl (by first | exact Or.inl rfl | exact Or.inr ⟨rfl, rfl⟩ | (apply Or.inr; simp only [go_sem])) ?_; (repeat (first | simp (maxSteps := 2000000) (disch := omega) only [go_sem, ↓reduceIte] | with_reducible refine vIf_t ?_ | with_reducible refine vIf_f ?_)))
      (refine vCallX_io [] ?_; (repeat (first | simp (maxSteps := 2000000) (disch := omega) only [go_sem, ↓reduceIte] | with_reducible refine vIf_t ?_ | with_reducible refine vIf_f ?_)); refine vCallIO_eq (c2) (by simp (disch := omega) only [go_sem]) (by simp (disch := omega) only [go_sem]) (by first | rfl | (simp (disch := omega) only [go_sem])) (by first | rfl | (simp (disch := omega) only [go_sem])) (by first | rfl | (simp (disch := omega) only [go_sem])) (by first | (simp (disch := omega) only [go_sem]) | skip) ?_; (repeat (first | simp (maxSteps := 2000000) (disch := omega) only [go_sem, ↓reduceIte] | with_reducible refine vIf_t ?_ | with_reducible refine vIf_f ?_)))
      (refine vCallX_of ?_; (repeat (first | simp (maxSteps := 2000000) (disch := omega) only [go_sem, ↓reduceIte] | with_reducible refine vIf_t ?_ | with_reducible refine vIf_f ?_)); refine vCall_eq (c3) (by simp (disch := omega) only [go_sem]) rfl (by first | exact Or.inl rfl | exact Or.inr ⟨rfl, rfl⟩ | (apply Or.inr; simp only [go_sem])) ?_; (repeat (first | simp (maxSteps := 2000000) (disch := omega) only [go_sem, ↓reduceIte] | with_reducible refine vIf_t ?_ | with_reducible refine vIf_f ?_)))
      refine retK_frz (.step 1 ⟨1, ints []⟩ rfl (by (repeat (first | simp (maxSteps := 2000000) (disch := omega) only [go_sem, ↓reduceIte] | with_reducible refine vIf_t ?_ | with_reducible refine vIf_f ?_))) (.refl _)) ?_
      (repeat (first | simp (maxSteps := 2000000) (disch := omega) only [go_sem, ↓reduceIte] | with_reducible refine vIf_t ?_ | with_reducible refine vIf_f ?_))
      try rfl
  · have hne : (rcW ds s != 0) = true := by simpa using h
    have e0 : rbC s ds = rcW ds s := by unfold rbC; rw [if_neg h]
    have eL : rbL s ds = [] := by unfold rbL; rw [if_neg (by omega)]
    rw [eL, e0]
    (repeat (first | simp (maxSteps := 2000000) (disch := omega) only [go_sem, ↓reduceIte] | with_reducible refine vIf_t ?_ | with_reducible refine vIf_f ?_))
    (refine vCallX_of ?_; (repeat (first | simp (maxSteps := 2000000) (disch := omega) only [go_sem, ↓reduceIte] | with_reducible refine vIf_t ?_ | with_reducible refine vIf_f ?_)); refine vCall_eq (c1) (by simp (disch := omega) only [go_sem]) rfl (by first | exact Or.inl rfl | exact Or.inr ⟨rfl, rfl⟩ | (apply Or.inr; simp only [go_sem])) ?_; (repeat (first | simp (maxSteps := 2000000) (disch := omega) only [go_sem, ↓reduceIte] | with_reducible refine vIf_t ?_ | with_reducible refine vIf_f ?_)))
    (try (repeat (first | simp (maxSteps := 2000000) (disch := omega) only [go_sem, ↓reduceIte, hne] | with_reducible refine vIf_t ?_ | with_reducible refine vIf_f ?_)))
    refine retK_frz (.step 0 ⟨1, ints []⟩ rfl (by (repeat (first | simp (maxSteps := 2000000) (disch := omega) only [go_sem, ↓reduceIte] | with_reducible refine vIf_t ?_ | with_reducible refine vIf_f ?_))) (.refl _)) ?_
    (repeat (first | simp (maxSteps := 2000000) (disch := omega) only [go_sem, ↓reduceIte] | with_reducible refine vIf_t ?_ | with_reducible refine vIf_f ?_))
    try rfl
theorem vlK_neg {s : Int} {ds : List Wt} {k : Nat} (hk : k < ds.length) (h : vsK s ds (k + 1) < 0) : (vlK s ds ds.length).all (fun n => decide (0 ≤ n)) = false := by
  rw [List.all_eq_false]
  have hm := gi_mem (vlK s ds ds.length) k (by rw [vlK_len]; exact hk)
  rw [vlK_get s ds ds.length k hk] at hm
  exact ⟨_, hm, by simp; omega⟩
theorem vlK_all {s : Int} {ds : List Wt} (h : ∀ j, j < ds.length → 0 ≤ vsK s ds (j + 1)) : (vlK s ds ds.length).all (fun n => decide (0 ≤ n)) = true := by
  rw [List.all_eq_true]
  intro x hx
  obtain ⟨j, hj, rfl⟩ := List.mem_iff_getElem.1 hx
  have hjl : j < ds.length := by rwa [vlK_len] at hj
  have e : (vlK s ds ds.length)[j] = gi (vlK s ds ds.length) j := by simp [gi, hj]
  rw [e, vlK_get s ds ds.length j hjl]
  exact decide_eq_true (h j hjl)
set_option maxRecDepth 20000 in
set_option maxHeartbeats 1000000 in
theorem runBalS_ok (s : Int) (ds : List Wt) (hs : -1 ≤ s ∧ s ≤ 1000000001) (hl : ds.length ≤ 10000000) : ACalls Tryz.prog 7 [I s, .sl ds.length (cWt ds)] [] (fun r o => r = .tup [iS (rbL s ds), I (rbC s ds)] ∧ o = []) := by
  refine ACalls.leT (Q := fun r o => (r = .tup [iS (rbL s ds), I (rbC s ds)] ∧ o = []) ∨ (r = .tup [nilS, I (rbC s ds)] ∧ rbL s ds = [] ∧ o = [])) ?_ ?_
  rotate_left
  · intro r o hq
    rcases hq with ⟨rfl, rfl⟩ | ⟨rfl, h, rfl⟩
    · exact ⟨_, leR_refl _, rfl, rfl⟩
    · rw [h]; exact ⟨_, leR_nil2 _, rfl, rfl⟩
  refine ACalls.of_vc Tryz.func7 rfl (by decide) 35 rfl [.tmp 4, .tmp 5] rfl (by simp) ?_
  have c1 := l13Start_ok s ds hl
  by_cases h : rcW ds s = 0
  · obtain ⟨h1, h2, h3⟩ := rcW_0 h
    have eC : rbC s ds = if (vlK s ds ds.length).all (fun n => decide (0 ≤ n)) = true then 0 else 6 := by unfold rbC; rw [if_pos h]
    rw [h] at c1
    (repeat (first | simp (maxSteps := 2000000) (disch := omega) only [go_sem, ↓reduceIte] | with_reducible refine vIf_t ?_ | with_reducible refine vIf_f ?_))
    (refine vCallX_of ?_; (repeat (first | simp (maxSteps := 2000000) (disch := omega) only [go_sem, ↓reduceIte] | with_reducible refine vIf_t ?_ | with_reducible refine vIf_f ?_)); refine vCall_eq (c1) (by simp (disch := omega) only [go_sem]) rfl (by first | exact Or.inl rfl | exact Or.inr ⟨rfl, rfl⟩ | (apply Or.inr; simp only [go_sem])) ?_; (repeat (first | simp (maxSteps := 2000000) (disch := omega) only [go_sem, ↓reduceIte] | with_reducible refine vIf_t ?_ | with_reducible refine vIf_f ?_)))
    refine vcLoop_invF (fun k : Nat => k ≤ ds.length ∧ ∀ j, j < k → 0 ≤ vsK s ds (j + 1)) (fun k => ⟨35, 0, [(8, I k), (7, .ref 0 0 k), (1, .sl ds.length (cWt ds)), (0, I (vsK s ds k))], [oI (vlK s ds k)]⟩) (fun k => ds.length - k) 0 ⟨by omega, by omega⟩ (by rw [show vsK s ds 0 = s from rfl, show vlK s ds 0 = [] from rfl]; (first | (refine leF_s ?_; ((repeat (first | simp (maxSteps := 2000000) (disch := omega) only [go_sem, ↓reduceIte] | with_reducible refine vIf_t ?_ | with_reducible refine vIf_f ?_)); all_goals (try simp); all_goals (try omega)); done) | (refine leF_p ?_; ((repeat (first | simp (maxSteps := 2000000) (disch := omega) only [go_sem, ↓reduceIte] | with_reducible refine vIf_t ?_ | with_reducible refine vIf_f ?_)); all_goals (try simp); all_goals (try omega)); done))) ?_
    rintro k ⟨hk, hp⟩
    have hlen := vlK_len s ds k
    have hb := vsK_bd h1 k hk (s := s)
    (repeat (first | simp (maxSteps := 2000000) (disch := omega) only [go_sem, ↓reduceIte] | with_reducible refine vIf_t ?_ | with_reducible refine vIf_f ?_))
    refine vIf_dec (fun h5 => ?_) (fun h5 => ?_)
    · have hkl : k < ds.length := by omega
      have hf := wt_all h1 k hkl
      have hc := l13Net_ok ds k hkl hf
      have hw := wtN_bd hf
      have e1 : vsK s ds (k + 1) = vsK s ds k + wtN (gWt ds k) := rfl
      have e2 : vlK s ds (k + 1) = vlK s ds k ++ [vsK s ds (k + 1)] := rfl
      (repeat (first | simp (maxSteps := 2000000) (disch := omega) only [go_sem, ↓reduceIte] | with_reducible refine vIf_t ?_ | with_reducible refine vIf_f ?_))
      (refine vCallX_of ?_; (repeat (first | simp (maxSteps := 2000000) (disch := omega) only [go_sem, ↓reduceIte] | with_reducible refine vIf_t ?_ | with_reducible refine vIf_f ?_)); refine vCall_eq (hc) (by simp (disch := omega) only [go_sem]) rfl (by first | exact Or.inl rfl | exact Or.inr ⟨rfl, rfl⟩ | (apply Or.inr; simp only [go_sem])) ?_; (repeat (first | simp (maxSteps := 2000000) (disch := omega) only [go_sem, ↓reduceIte] | with_reducible refine vIf_t ?_ | with_reducible refine vIf_f ?_)))
      by_cases hn : vsK s ds k + wtN (gWt ds k) < 0
      · have hd : decide (vsK s ds k + wtN (gWt ds k) < 0) = true := decide_eq_true hn
        have e6 : rbC s ds = 6 := by rw [eC, vlK_neg hkl (by rw [e1]; exact hn)]; rfl
        have eL : rbL s ds = [] := by unfold rbL; rw [if_neg (by omega)]
        rw [e6, eL]
        (try (repeat (first | simp (maxSteps := 2000000) (disch := omega) only [go_sem, ↓reduceIte, hd] | with_reducible refine vIf_t ?_ | with_reducible refine vIf_f ?_)))
        (refine retK_of ?_; (repeat (first | simp (maxSteps := 2000000) (disch := omega) only [go_sem, ↓reduceIte] | with_reducible refine vIf_t ?_ | with_reducible refine vIf_f ?_)))
        try simp
      · have hd : decide (vsK s ds k + wtN (gWt ds k) < 0) = false := decide_eq_false hn
        (try (repeat (first | simp (maxSteps := 2000000) (disch := omega) only [go_sem, ↓reduceIte, hd] | with_reducible refine vIf_t ?_ | with_reducible refine vIf_f ?_)))
        refine againF (k + 1) ⟨by omega, fun j hj => ?_⟩ (by omega) ?_
        · by_cases e : j = k
          · subst e; rw [e1]; omega
          · exact hp j (by omega)
        · rw [e2, e1]
          (first | (refine leF_s ?_; ((repeat (first | simp (maxSteps := 2000000) (disch := omega) only [go_sem, ↓reduceIte] | with_reducible refine vIf_t ?_ | with_reducible refine vIf_f ?_)); all_goals (try simp); all_goals (try omega)); done) | (refine leF_p ?_; ((repeat (first | simp (maxSteps := 2000000) (disch := omega) only [go_sem, ↓reduceIte] | with_reducible refine vIf_t ?_ | with_reducible refine vIf_f ?_)); all_goals (try simp); all_goals (try omega)); done))
    · have ek : k = ds.length := by omega
      subst ek
      have e0 : rbC s ds = 0 := by rw [eC, vlK_all hp]; rfl
      have eL : rbL s ds = vlK s ds ds.length := by unfold rbL; rw [if_pos e0]
      rw [e0, eL]
      (repeat (first | simp (maxSteps := 2000000) (disch := omega) only [go_sem, ↓reduceIte] | with_reducible refine vIf_t ?_ | with_reducible refine vIf_f ?_))
      refine retK_frz (.step 0 ⟨1, ints (vlK s ds ds.length)⟩ rfl (by (repeat (first | simp (maxSteps := 2000000) (disch := omega) only [go_sem, ↓reduceIte] | with_reducible refine vIf_t ?_ | with_reducible refine vIf_f ?_))) (.refl _)) ?_
      (repeat (first | simp (maxSteps := 2000000) (disch := omega) only [go_sem, ↓reduceIte] | with_reducible refine vIf_t ?_ | with_reducible refine vIf_f ?_))
      simp [iS, hlen]
  · have hne : (rcW ds s != 0) = true := by simpa using h
    have e0 : rbC s ds = rcW ds s := by unfold rbC; rw [if_neg h]
    have eL : rbL s ds = [] := by unfold rbL; rw [if_neg (by omega)]
    rw [eL, e0]
    (repeat (first | simp (maxSteps := 2000000) (disch := omega) only [go_sem, ↓reduceIte] | with_reducible refine vIf_t ?_ | with_reducible refine vIf_f ?_))
    (refine vCallX_of ?_; (repeat (first | simp (maxSteps := 2000000) (disch := omega) only [go_sem, ↓reduceIte] | with_reducible refine vIf_t ?_ | with_reducible refine vIf_f ?_)); refine vCall_eq (c1) (by simp (disch := omega) only [go_sem]) rfl (by first | exact Or.inl rfl | exact Or.inr ⟨rfl, rfl⟩ | (apply Or.inr; simp only [go_sem])) ?_; (repeat (first | simp (maxSteps := 2000000) (disch := omega) only [go_sem, ↓reduceIte] | with_reducible refine vIf_t ?_ | with_reducible refine vIf_f ?_)))
    (try (repeat (first | simp (maxSteps := 2000000) (disch := omega) only [go_sem, ↓reduceIte, hne] | with_reducible refine vIf_t ?_ | with_reducible refine vIf_f ?_)))
    (refine retK_of ?_; (repeat (first | simp (maxSteps := 2000000) (disch := omega) only [go_sem, ↓reduceIte] | with_reducible refine vIf_t ?_ | with_reducible refine vIf_f ?_)))
    try simp
end Go.Proofs.YtpjjjonplikilaaGreat
namespace Go.Proofs.YtpjjjonplikilaaGreat
open Go.AG Go.Lib

attribute [local go_sem] beq_self_eq_true bne_self_eq_false Bool.not_true
structure SmG (p : Wt) : Prop where
  rain : 0 ≤ p.rain ∧ p.rain ≤ 1000000000
  seep : 0 ≤ p.seep ∧ p.seep ≤ 1000000000
  evap : 0 ≤ p.evap ∧ p.evap ≤ 1000000000
  pump : 0 ≤ p.pump ∧ p.pump ≤ 1000000000
  slu : 0 ≤ p.slu ∧ p.slu ≤ 1000000000
theorem smG_of {ds : List Wt} (h : ds.all wtB = true) (hl : ds.length ≤ 100) : SmG (smW ds ds.length) := by
  obtain ⟨a, b, c, d, e⟩ := smW_bd h ds.length (Nat.le_refl _)
  exact ⟨by omega, by omega, by omega, by omega, by omega⟩
theorem netG_ok (p : Wt) (f : SmG p) : ACalls Tryz.prog 32 [.agg p.cells] [] (fun r o => r = I (wtN p) ∧ o = []) := by
  refine ACalls.of_vc Tryz.func32 rfl (by decide) 17 rfl [.tmp 2] rfl (by simp) ?_
  obtain ⟨f1, f2, f3, f4, f5⟩ := f
  unfold Wt.cells
  (repeat (first | simp (maxSteps := 2000000) (disch := omega) only [go_sem, ↓reduceIte] | with_reducible refine vIf_t ?_ | with_reducible refine vIf_f ?_))
  (refine retK_of ?_; (repeat (first | simp (maxSteps := 2000000) (disch := omega) only [go_sem, ↓reduceIte] | with_reducible refine vIf_t ?_ | with_reducible refine vIf_f ?_)))
  rfl
def ceV (s m : Int) (ds : List Wt) : Int := if rcM ds s m = 0 then m - s - wtN (smW ds ds.length) else 0
set_option maxRecDepth 20000 in
set_option maxHeartbeats 1000000 in
theorem closing_ok (s m : Int) (ds : List Wt) (hl : ds.length ≤ 10000000) : ACalls Tryz.prog 9 [I s, I m, .sl ds.length (cWt ds)] [] (fun r o => r = .tup [I (ceV s m ds), I (rcM ds s m)] ∧ o = []) := by
  refine ACalls.of_vc Tryz.func9 rfl (by decide) 26 rfl [.tmp 6, .tmp 7] rfl (by simp) ?_
  have c1 := runCode_ok ds s hl
  have c2 := runCode_ok ds m hl
  have em := rcM_max ds s m
  (repeat (first | simp (maxSteps := 2000000) (disch := omega) only [go_sem, ↓reduceIte] | with_reducible refine vIf_t ?_ | with_reducible refine vIf_f ?_))
  (refine vCallX_of ?_; (repeat (first | simp (maxSteps := 2000000) (disch := omega) only [go_sem, ↓reduceIte] | with_reducible refine vIf_t ?_ | with_reducible refine vIf_f ?_)); refine vCall_eq (c1) (by simp (disch := omega) only [go_sem]) rfl (by first | exact Or.inl rfl | exact Or.inr ⟨rfl, rfl⟩ | (apply Or.inr; simp only [go_sem])) ?_; (repeat (first | simp (maxSteps := 2000000) (disch := omega) only [go_sem, ↓reduceIte] | with_reducible refine vIf_t ?_ | with_reducible refine vIf_f ?_)))
  (refine vCallX_of ?_; (repeat (first | simp (maxSteps := 2000000) (disch := omega) only [go_sem, ↓reduceIte] | with_reducible refine vIf_t ?_ | with_reducible refine vIf_f ?_)); refine vCall_eq (c2) (by simp (disch := omega) only [go_sem]) rfl (by first | exact Or.inl rfl | exact Or.inr ⟨rfl, rfl⟩ | (apply Or.inr; simp only [go_sem])) ?_; (repeat (first | simp (maxSteps := 2000000) (disch := omega) only [go_sem, ↓reduceIte] | with_reducible refine vIf_t ?_ | with_reducible refine vIf_f ?_)))
  (try (repeat (first | simp (maxSteps := 2000000) (disch := omega) only [go_sem, ↓reduceIte, em] | with_reducible refine vIf_t ?_ | with_reducible refine vIf_f ?_)))
  refine vIf_bne (fun h => ?_) (fun h => ?_)
  · (repeat (first | simp (maxSteps := 2000000) (disch := omega) only [go_sem, ↓reduceIte] | with_reducible refine vIf_t ?_ | with_reducible refine vIf_f ?_))
    (refine retK_of ?_; (repeat (first | simp (maxSteps := 2000000) (disch := omega) only [go_sem, ↓reduceIte] | with_reducible refine vIf_t ?_ | with_reducible refine vIf_f ?_)))
    rw [ceV, if_neg h]
  · have h1 := (rcM_0 h).1
    have h2 := (rcM_0 h).2.1
    have h3 := (rcM_0 h).2.2.1
    have h4 := (rcM_0 h).2.2.2
    have hsm := sumOf_ok ds h1 h2
    have hg := smG_of h1 h2
    have hn := netG_ok _ hg
    have e : ceV s m ds = m - s - wtN (smW ds ds.length) := by rw [ceV, if_pos h]
    have hb : -3000000000 ≤ wtN (smW ds ds.length) ∧ wtN (smW ds ds.length) ≤ 3000000000 := by
      obtain ⟨a, b, c, d, e⟩ := hg
      unfold wtN; omega
    rw [e, h]
    unfold Wt.cells at hsm hn
    (repeat (first | simp (maxSteps := 2000000) (disch := omega) only [go_sem, ↓reduceIte] | with_reducible refine vIf_t ?_ | with_reducible refine vIf_f ?_))
    (refine vCallX_of ?_; (repeat (first | simp (maxSteps := 2000000) (disch := omega) only [go_sem, ↓reduceIte] | with_reducible refine vIf_t ?_ | with_reducible refine vIf_f ?_)); refine vCall_eq (hsm) (by simp (disch := omega) only [go_sem]) rfl (by first | exact Or.inl rfl | exact Or.inr ⟨rfl, rfl⟩ | (apply Or.inr; simp only [go_sem])) ?_; (repeat (first | simp (maxSteps := 2000000) (disch := omega) only [go_sem, ↓reduceIte] | with_reducible refine vIf_t ?_ | with_reducible refine vIf_f ?_)))
    (refine vCallX_of ?_; (repeat (first | simp (maxSteps := 2000000) (disch := omega) only [go_sem, ↓reduceIte] | with_reducible refine vIf_t ?_ | with_reducible refine vIf_f ?_)); refine vCall_eq (hn) (by simp (disch := omega) only [go_sem]) rfl (by first | exact Or.inl rfl | exact Or.inr ⟨rfl, rfl⟩ | (apply Or.inr; simp only [go_sem])) ?_; (repeat (first | simp (maxSteps := 2000000) (disch := omega) only [go_sem, ↓reduceIte] | with_reducible refine vIf_t ?_ | with_reducible refine vIf_f ?_)))
    (refine retK_of ?_; (repeat (first | simp (maxSteps := 2000000) (disch := omega) only [go_sem, ↓reduceIte] | with_reducible refine vIf_t ?_ | with_reducible refine vIf_f ?_)))
end Go.Proofs.YtpjjjonplikilaaGreat
namespace Go.Proofs.YtpjjjonplikilaaGreat
open Go.AG

attribute [local go_sem] beq_self_eq_true bne_self_eq_false Bool.not_true Bool.not_false
/-- the water before each hour -/
def waF (l : List Int) (w : Int) (xs : List Int) : Nat → Int
  | 0 => w
  | k + 1 => waF l w xs k + (gi l k - gi xs k)
theorem waF_cons (i : Int) (r : List Int) (w x : Int) (xs : List Int) (k : Nat) : waF (i :: r) w (x :: xs) (k + 1) = waF r (w + (i - x)) xs k := by
  induction k with
  | zero => simp [waF, gi]
  | succ k ih =>
    rw [waF, ih, waF]
    simp [gi]
theorem gi_cons0 (x : Int) (xs : List Int) : gi (x :: xs) 0 = x := by simp [gi]
theorem gi_cons1 (x : Int) (xs : List Int) (k : Nat) : gi (x :: xs) (k + 1) = gi xs k := by simp [gi]
theorem PlanOk_iff {lo hi cap : Int} : ∀ (l : List Int) (w : Int) (xs : List Int), PlanOk lo hi cap l w xs ↔ xs.length = l.length ∧ (∀ k, k < xs.length → 0 ≤ gi xs k ∧ gi xs k ≤ cap) ∧ ∀ k, k < xs.length → lo ≤ waF l w xs (k + 1) ∧ waF l w xs (k + 1) ≤ hi
  | [], w, [] => by simp [PlanOk]
  | [], _, _ :: _ => by simp [PlanOk]
  | _ :: _, _, [] => by simp [PlanOk]
  | i :: r, w, x :: xs => by
    have ih := PlanOk_iff (lo := lo) (hi := hi) (cap := cap) r (w + i - x) xs
    have e : w + i - x = w + (i - x) := by omega
    constructor
    · rintro ⟨h1, h2, h3⟩
      obtain ⟨a, b, c⟩ := ih.1 h3
      refine ⟨by simp [a], fun k hk => ?_, fun k hk => ?_⟩
      · cases k with
        | zero => rw [gi_cons0]; exact h1
        | succ k => rw [gi_cons1]; exact b k (by simpa using hk)
      · cases k with
        | zero => rw [waF_cons, waF]; omega
        | succ k => rw [waF_cons, ← e]; exact c k (by simpa using hk)
    · rintro ⟨a, b, c⟩
      have b0 := b 0 (by simp)
      have c0 := c 0 (by simp)
      rw [gi_cons0] at b0
      rw [waF_cons, waF] at c0
      refine ⟨b0, by omega, ih.2 ⟨by simpa using a, fun k hk => ?_, fun k hk => ?_⟩⟩
      · have := b (k + 1) (by simpa using hk); rwa [gi_cons1] at this
      · have := c (k + 1) (by simpa using hk); rwa [waF_cons, ← e] at this
/-- the water after each hour -/
def waL (p : Pm) (xs : List Int) (n : Nat) : List Int := (List.range n).map fun i => waF p.inf p.st xs (i + 1)
theorem waL_len (p : Pm) (xs : List Int) (n : Nat) : (waL p xs n).length = n := by simp [waL]
theorem waL_snoc (p : Pm) (xs : List Int) (n : Nat) : waL p xs (n + 1) = waL p xs n ++ [waF p.inf p.st xs (n + 1)] := by simp [waL, List.range_succ]
theorem waF_bd {p : Pm} (f : PmF p) {xs : List Int} (hx : ∀ k, k < xs.length → 0 ≤ gi xs k ∧ gi xs k ≤ 40) : ∀ k, k ≤ xs.length → k ≤ p.inf.length → -40 * (k : Int) ≤ waF p.inf p.st xs k ∧ waF p.inf p.st xs k ≤ 300 + 40 * k := by
  intro k
  induction k with
  | zero => intro _ _; have := f.a; have := f.b; have := f.c; have := f.d; simp only [waF]; omega
  | succ k ih =>
    intro h1 h2
    have h3 := ih (by omega) (by omega)
    have h4 := hx k (by omega)
    have h5 := f.infg k (by omega)
    simp only [waF]
    omega
def kpB (p : Pm) (xs : List Int) : Bool := (waL p xs xs.length).all fun n => decide (p.lo ≤ n ∧ n ≤ p.hi)
theorem kpB_iff (p : Pm) (xs : List Int) : kpB p xs = true ↔ ∀ k, k < xs.length → p.lo ≤ waF p.inf p.st xs (k + 1) ∧ waF p.inf p.st xs (k + 1) ≤ p.hi := by
  simp [kpB, waL, List.all_eq_true]
/-! the program -/
set_option maxHeartbeats 1000000 in
theorem after_ok (p : Pm) (f : PmF p) (xs : List Int) (hx : ∀ k, k < xs.length → 0 ≤ gi xs k ∧ gi xs k ≤ 40) (hl : xs.length = p.inf.length) : ACalls Tryz.prog 86 [.agg (pmC p), iS xs] [] (fun r o => r = .ref 0 0 (waL p xs xs.length).length ∧ o = [oI (waL p xs xs.length)]) := by
  refine ACalls.of_vc Tryz.func86 rfl (by decide) 34 rfl [.tmp 4] rfl (by simp) ?_
  have n := f.n
  unfold pmC iS
  (repeat (first | simp (maxSteps := 2000000) (disch := omega) only [go_sem, ↓reduceIte] | with_reducible refine vIf_t ?_ | with_reducible refine vIf_f ?_))
  refine vcLoop_invF (fun k : Nat => k ≤ xs.length) (fun k => ⟨34, 0, [(14, I k), (2, .ptr 0 0), (5, .ref 1 0 k), (6, I (waF p.inf p.st xs k)), (12, .sl xs.length (ints xs)), (13, I xs.length)], [some ⟨6, pmC p⟩, oI (waL p xs k)]⟩) (fun k => xs.length - k) 0 (by omega) (by unfold pmC iS; rw [show waL p xs 0 = [] from rfl, show waF p.inf p.st xs 0 = p.st from rfl]; (first | (refine leF_s ?_; ((repeat (first | simp (maxSteps := 2000000) (disch := omega) only [go_sem, ↓reduceIte] | with_reducible refine vIf_t ?_ | with_reducible refine vIf_f ?_)); all_goals (try simp); all_goals (try omega)); done) | (refine leF_p ?_; ((repeat (first | simp (maxSteps := 2000000) (disch := omega) only [go_sem, ↓reduceIte] | with_reducible refine vIf_t ?_ | with_reducible refine vIf_f ?_)); all_goals (try simp); all_goals (try omega)); done))) ?_
  intro k hk
  have hb := waF_bd f hx k hk (by omega)
  have wl := waL_len p xs k
  unfold pmC iS
  (repeat (first | simp (maxSteps := 2000000) (disch := omega) only [go_sem, ↓reduceIte] | with_reducible refine vIf_t ?_ | with_reducible refine vIf_f ?_))
  refine vIf_dec (fun h => ?_) (fun h => ?_)
  · have hkl : k < xs.length := by omega
    have h4 := hx k (by omega)
    have h5 := f.infg k (by omega)
    have e := waL_snoc p xs k
    have e2 : waF p.inf p.st xs (k + 1) = waF p.inf p.st xs k + (gi p.inf k - gi xs k) := rfl
    rw [e2] at e
    (repeat (first | simp (maxSteps := 2000000) (disch := omega) only [go_sem, ↓reduceIte, wl] | with_reducible refine vIf_t ?_ | with_reducible refine vIf_f ?_))
    refine againF (k + 1) (by omega) (by omega) (by rw [e, e2]; (first | (refine leF_s ?_; ((repeat (first | simp (maxSteps := 2000000) (disch := omega) only [go_sem, ↓reduceIte] | with_reducible refine vIf_t ?_ | with_reducible refine vIf_f ?_)); all_goals (try simp); all_goals (try omega)); done) | (refine leF_p ?_; ((repeat (first | simp (maxSteps := 2000000) (disch := omega) only [go_sem, ↓reduceIte] | with_reducible refine vIf_t ?_ | with_reducible refine vIf_f ?_)); all_goals (try simp); all_goals (try omega)); done)))
  · have ek : k = xs.length := by omega
    subst ek
    (repeat (first | simp (maxSteps := 2000000) (disch := omega) only [go_sem, ↓reduceIte, wl] | with_reducible refine vIf_t ?_ | with_reducible refine vIf_f ?_))
    (refine retK_of ?_; (repeat (first | simp (maxSteps := 2000000) (disch := omega) only [go_sem, ↓reduceIte] | with_reducible refine vIf_t ?_ | with_reducible refine vIf_f ?_)))
theorem isPlan1_ok (p : Pm) (x : Int) : ACalls Tryz.prog 87 [I x, .ip (pmC p) 0] [] (fun r o => r = B (decide (p.lo ≤ x ∧ x ≤ p.hi)) ∧ o = []) := by
  refine ACalls.of_vc Tryz.func87 rfl (by decide) 10 rfl [.tmp 3] rfl (by simp) ?_
  have h := in_ok x p.lo p.hi
  unfold pmC iS
  (repeat (first | simp (maxSteps := 2000000) (disch := omega) only [go_sem, ↓reduceIte] | with_reducible refine vIf_t ?_ | with_reducible refine vIf_f ?_))
  (refine vCallX_of ?_; (repeat (first | simp (maxSteps := 2000000) (disch := omega) only [go_sem, ↓reduceIte] | with_reducible refine vIf_t ?_ | with_reducible refine vIf_f ?_)); refine vCall_eq (h) (by simp (disch := omega) only [go_sem]) rfl (by first | exact Or.inl rfl | exact Or.inr ⟨rfl, rfl⟩ | (apply Or.inr; simp only [go_sem])) ?_; (repeat (first | simp (maxSteps := 2000000) (disch := omega) only [go_sem, ↓reduceIte] | with_reducible refine vIf_t ?_ | with_reducible refine vIf_f ?_)))
  (refine retK_of ?_; (repeat (first | simp (maxSteps := 2000000) (disch := omega) only [go_sem, ↓reduceIte] | with_reducible refine vIf_t ?_ | with_reducible refine vIf_f ?_)))
set_option maxHeartbeats 1000000 in
theorem isPlan_ok (p : Pm) (f : PmF p) (xs : List Int) (hx : ∀ k, k < xs.length → 0 ≤ gi xs k ∧ gi xs k ≤ 40) (hl : xs.length = p.inf.length) : ACalls Tryz.prog 51 [.agg (pmC p), iS xs] [] (fun r o => r = B (kpB p xs) ∧ o = []) := by
  refine ACalls.of_vc Tryz.func51 rfl (by decide) 10 rfl [.tmp 4] rfl (by simp) ?_
  have n := f.n
  have ha := after_ok p f xs hx hl
  have wl := waL_len p xs xs.length
  have hall := all_ok 87 [.ip (pmC p) 0] (fun n => decide (p.lo ≤ n ∧ n ≤ p.hi)) (waL p xs xs.length) (fun x _ => isPlan1_ok p x) rfl (by omega)
  unfold kpB
  unfold pmC iS at *
  (repeat (first | simp (maxSteps := 2000000) (disch := omega) only [go_sem, ↓reduceIte] | with_reducible refine vIf_t ?_ | with_reducible refine vIf_f ?_))
  (refine vCallX_of ?_; (repeat (first | simp (maxSteps := 2000000) (disch := omega) only [go_sem, ↓reduceIte] | with_reducible refine vIf_t ?_ | with_reducible refine vIf_f ?_)); refine vCall_eq (ha) (by simp (disch := omega) only [go_sem]) rfl (by first | exact Or.inl rfl | exact Or.inr ⟨rfl, rfl⟩ | (apply Or.inr; simp only [go_sem])) ?_; (repeat (first | simp (maxSteps := 2000000) (disch := omega) only [go_sem, ↓reduceIte] | with_reducible refine vIf_t ?_ | with_reducible refine vIf_f ?_)))
  (refine vCallX_fz 0 _ rfl (by (repeat (first | simp (maxSteps := 2000000) (disch := omega) only [go_sem, ↓reduceIte] | with_reducible refine vIf_t ?_ | with_reducible refine vIf_f ?_))) ?_; (repeat (first | simp (maxSteps := 2000000) (disch := omega) only [go_sem, ↓reduceIte] | with_reducible refine vIf_t ?_ | with_reducible refine vIf_f ?_)); refine vCallX_fz 1 _ rfl (by (repeat (first | simp (maxSteps := 2000000) (disch := omega) only [go_sem, ↓reduceIte] | with_reducible refine vIf_t ?_ | with_reducible refine vIf_f ?_))) ?_; (repeat (first | simp (maxSteps := 2000000) (disch := omega) only [go_sem, ↓reduceIte] | with_reducible refine vIf_t ?_ | with_reducible refine vIf_f ?_)))
  (refine vCallX_of ?_; (repeat (first | simp (maxSteps := 2000000) (disch := omega) only [go_sem, ↓reduceIte] | with_reducible refine vIf_t ?_ | with_reducible refine vIf_f ?_)); refine vCall_eq (hall) (by simp (disch := omega) only [go_sem]) rfl (by first | exact Or.inl rfl | exact Or.inr ⟨rfl, rfl⟩ | (apply Or.inr; simp only [go_sem])) ?_; (repeat (first | simp (maxSteps := 2000000) (disch := omega) only [go_sem, ↓reduceIte] | with_reducible refine vIf_t ?_ | with_reducible refine vIf_f ?_)))
  (refine retK_of ?_; (repeat (first | simp (maxSteps := 2000000) (disch := omega) only [go_sem, ↓reduceIte] | with_reducible refine vIf_t ?_ | with_reducible refine vIf_f ?_)))
theorem planCode1_ok (p : Pm) (x : Int) : ACalls Tryz.prog 85 [I x, .ip (pmC p) 0] [] (fun r o => r = B (decide (0 ≤ x ∧ x ≤ p.cap)) ∧ o = []) := by
  refine ACalls.of_vc Tryz.func85 rfl (by decide) 8 rfl [.tmp 3] rfl (by simp) ?_
  have h := in_ok x 0 p.cap
  unfold pmC iS
  (repeat (first | simp (maxSteps := 2000000) (disch := omega) only [go_sem, ↓reduceIte] | with_reducible refine vIf_t ?_ | with_reducible refine vIf_f ?_))
  (refine vCallX_of ?_; (repeat (first | simp (maxSteps := 2000000) (disch := omega) only [go_sem, ↓reduceIte] | with_reducible refine vIf_t ?_ | with_reducible refine vIf_f ?_)); refine vCall_eq (h) (by simp (disch := omega) only [go_sem]) rfl (by first | exact Or.inl rfl | exact Or.inr ⟨rfl, rfl⟩ | (apply Or.inr; simp only [go_sem])) ?_; (repeat (first | simp (maxSteps := 2000000) (disch := omega) only [go_sem, ↓reduceIte] | with_reducible refine vIf_t ?_ | with_reducible refine vIf_f ?_)))
  (refine retK_of ?_; (repeat (first | simp (maxSteps := 2000000) (disch := omega) only [go_sem, ↓reduceIte] | with_reducible refine vIf_t ?_ | with_reducible refine vIf_f ?_)))
/-- the code of a pumping and a plan -/
def cpB (p : Pm) (xs : List Int) : Bool := xs.all fun x => decide (0 ≤ x ∧ x ≤ p.cap)
def pcC (p : Pm) (xs : List Int) : Int := if pmB p = true then if xs.length = p.inf.length ∧ cpB p xs = true then 0 else 2 else 1
theorem pcC_0 {p : Pm} {xs : List Int} (h : pcC p xs = 0) : PmF p ∧ xs.length = p.inf.length ∧ ∀ k, k < xs.length → 0 ≤ gi xs k ∧ gi xs k ≤ p.cap := by
  unfold pcC at h
  split at h
  · rename_i h1
    split at h
    · rename_i h2
      refine ⟨pmB_f h1, h2.1, fun k hk => ?_⟩
      have := List.all_eq_true.1 h2.2 _ (gi_mem xs k hk)
      exact of_decide_eq_true this
    · omega
  · omega
theorem pcC_of {p : Pm} {xs : List Int} (f : PmF p) (hl : xs.length = p.inf.length) (h : ∀ k, k < xs.length → 0 ≤ gi xs k ∧ gi xs k ≤ p.cap) : pcC p xs = 0 := by
  have hc : cpB p xs = true := by
    unfold cpB
    rw [List.all_eq_true]
    intro x hx
    obtain ⟨i, hi, rfl⟩ := List.mem_iff_getElem.1 hx
    rw [← gi_lt xs i hi]
    exact decide_eq_true (h i hi)
  unfold pcC
  rw [if_pos (pm_yes f), if_pos ⟨hl, hc⟩]
set_option maxHeartbeats 1000000 in
theorem planCode_ok (p : Pm) (hn : p.inf.length ≤ 10000000) (hm : p.pr.length ≤ 10000000) (xs : List Int) (hx : xs.length ≤ 10000000) : ACalls Tryz.prog 50 [.agg (pmC p), iS xs] [] (fun r o => r = I (pcC p xs) ∧ o = []) := by
  refine ACalls.of_vc Tryz.func50 rfl (by decide) 22 rfl [.tmp 4] rfl (by simp) ?_
  have hv := validPm_ok p hn hm
  have hall := all_ok 85 [.ip (pmC p) 0] (fun n => decide (0 ≤ n ∧ n ≤ p.cap)) xs (fun x _ => planCode1_ok p x) rfl hx
  rw [show (xs.all fun n => decide (0 ≤ n ∧ n ≤ p.cap)) = cpB p xs from rfl] at hall
  unfold pcC
  unfold pmC iS at *
  (repeat (first | simp (maxSteps := 2000000) (disch := omega) only [go_sem, ↓reduceIte] | with_reducible refine vIf_t ?_ | with_reducible refine vIf_f ?_))
  (refine vCallX_of ?_; (repeat (first | simp (maxSteps := 2000000) (disch := omega) only [go_sem, ↓reduceIte] | with_reducible refine vIf_t ?_ | with_reducible refine vIf_f ?_)); refine vCall_eq (hv) (by simp (disch := omega) only [go_sem]) rfl (by first | exact Or.inl rfl | exact Or.inr ⟨rfl, rfl⟩ | (apply Or.inr; simp only [go_sem])) ?_; (repeat (first | simp (maxSteps := 2000000) (disch := omega) only [go_sem, ↓reduceIte] | with_reducible refine vIf_t ?_ | with_reducible refine vIf_f ?_)))
  cases e1 : pmB p with
  | false =>
    (repeat (first | simp (maxSteps := 2000000) (disch := omega) only [go_sem, ↓reduceIte, e1] | with_reducible refine vIf_t ?_ | with_reducible refine vIf_f ?_))
    (refine retK_of ?_; (repeat (first | simp (maxSteps := 2000000) (disch := omega) only [go_sem, ↓reduceIte] | with_reducible refine vIf_t ?_ | with_reducible refine vIf_f ?_)))
  | true =>
    (repeat (first | simp (maxSteps := 2000000) (disch := omega) only [go_sem, ↓reduceIte, e1] | with_reducible refine vIf_t ?_ | with_reducible refine vIf_f ?_))
    by_cases e2 : xs.length = p.inf.length
    · have d2 : ((xs.length : Int) != (p.inf.length : Int)) = false := by simp; omega
      (repeat (first | simp (maxSteps := 2000000) (disch := omega) only [go_sem, ↓reduceIte, d2] | with_reducible refine vIf_t ?_ | with_reducible refine vIf_f ?_))
      (refine vCallX_fz 0 _ rfl (by (repeat (first | simp (maxSteps := 2000000) (disch := omega) only [go_sem, ↓reduceIte] | with_reducible refine vIf_t ?_ | with_reducible refine vIf_f ?_))) ?_; (repeat (first | simp (maxSteps := 2000000) (disch := omega) only [go_sem, ↓reduceIte] | with_reducible refine vIf_t ?_ | with_reducible refine vIf_f ?_)))
      (refine vCallX_of ?_; (repeat (first | simp (maxSteps := 2000000) (disch := omega) only [go_sem, ↓reduceIte] | with_reducible refine vIf_t ?_ | with_reducible refine vIf_f ?_)); refine vCall_eq (hall) (by simp (disch := omega) only [go_sem]) rfl (by first | exact Or.inl rfl | exact Or.inr ⟨rfl, rfl⟩ | (apply Or.inr; simp only [go_sem])) ?_; (repeat (first | simp (maxSteps := 2000000) (disch := omega) only [go_sem, ↓reduceIte] | with_reducible refine vIf_t ?_ | with_reducible refine vIf_f ?_)))
      cases e3 : cpB p xs with
      | true =>
        rw [if_pos ⟨e2, rfl⟩]
        (repeat (first | simp (maxSteps := 2000000) (disch := omega) only [go_sem, ↓reduceIte, e3] | with_reducible refine vIf_t ?_ | with_reducible refine vIf_f ?_))
        (refine retK_of ?_; (repeat (first | simp (maxSteps := 2000000) (disch := omega) only [go_sem, ↓reduceIte] | with_reducible refine vIf_t ?_ | with_reducible refine vIf_f ?_)))
      | false =>
        rw [if_neg (fun h => by cases h.2)]
        (repeat (first | simp (maxSteps := 2000000) (disch := omega) only [go_sem, ↓reduceIte, e3] | with_reducible refine vIf_t ?_ | with_reducible refine vIf_f ?_))
        (refine retK_of ?_; (repeat (first | simp (maxSteps := 2000000) (disch := omega) only [go_sem, ↓reduceIte] | with_reducible refine vIf_t ?_ | with_reducible refine vIf_f ?_)))
    · have d2 : ((xs.length : Int) != (p.inf.length : Int)) = true := by simp; omega
      rw [if_neg (fun h => e2 h.1)]
      (repeat (first | simp (maxSteps := 2000000) (disch := omega) only [go_sem, ↓reduceIte, d2] | with_reducible refine vIf_t ?_ | with_reducible refine vIf_f ?_))
      (refine retK_of ?_; (repeat (first | simp (maxSteps := 2000000) (disch := omega) only [go_sem, ↓reduceIte] | with_reducible refine vIf_t ?_ | with_reducible refine vIf_f ?_)))
set_option maxHeartbeats 1000000 in
theorem isPumpPlan_ok (p : Pm) (hn : p.inf.length ≤ 10000000) (hm : p.pr.length ≤ 10000000) (xs : List Int) (hx : xs.length ≤ 10000000) : ACalls Tryz.prog 19 [.agg (pmC p), iS xs] [] (fun r o => r = .tup [B (if pcC p xs = 0 then kpB p xs else false), I (pcC p xs)] ∧ o = []) := by
  refine ACalls.of_vc Tryz.func19 rfl (by decide) 16 rfl [.tmp 4, .tmp 5] rfl (by simp) ?_
  have hc := planCode_ok p hn hm xs hx
  by_cases h : pcC p xs = 0
  · obtain ⟨f, hl, hk⟩ := pcC_0 h
    have he := f.e
    have hp := isPlan_ok p f xs (fun k hk' => by have := hk k hk'; omega) hl
    rw [h] at hc ⊢
    rw [if_pos rfl]
    unfold pmC iS at *
    (repeat (first | simp (maxSteps := 2000000) (disch := omega) only [go_sem, ↓reduceIte] | with_reducible refine vIf_t ?_ | with_reducible refine vIf_f ?_))
    (refine vCallX_of ?_; (repeat (first | simp (maxSteps := 2000000) (disch := omega) only [go_sem, ↓reduceIte] | with_reducible refine vIf_t ?_ | with_reducible refine vIf_f ?_)); refine vCall_eq (hc) (by simp (disch := omega) only [go_sem]) rfl (by first | exact Or.inl rfl | exact Or.inr ⟨rfl, rfl⟩ | (apply Or.inr; simp only [go_sem])) ?_; (repeat (first | simp (maxSteps := 2000000) (disch := omega) only [go_sem, ↓reduceIte] | with_reducible refine vIf_t ?_ | with_reducible refine vIf_f ?_)))
    (refine vCallX_of ?_; (repeat (first | simp (maxSteps := 2000000) (disch := omega) only [go_sem, ↓reduceIte] | with_reducible refine vIf_t ?_ | with_reducible refine vIf_f ?_)); refine vCall_eq (hp) (by simp (disch := omega) only [go_sem]) rfl (by first | exact Or.inl rfl | exact Or.inr ⟨rfl, rfl⟩ | (apply Or.inr; simp only [go_sem])) ?_; (repeat (first | simp (maxSteps := 2000000) (disch := omega) only [go_sem, ↓reduceIte] | with_reducible refine vIf_t ?_ | with_reducible refine vIf_f ?_)))
    (refine retK_of ?_; (repeat (first | simp (maxSteps := 2000000) (disch := omega) only [go_sem, ↓reduceIte] | with_reducible refine vIf_t ?_ | with_reducible refine vIf_f ?_)))
  · have hb : (pcC p xs != 0) = true := by simpa using h
    rw [if_neg h]
    unfold pmC iS at *
    (repeat (first | simp (maxSteps := 2000000) (disch := omega) only [go_sem, ↓reduceIte] | with_reducible refine vIf_t ?_ | with_reducible refine vIf_f ?_))
    (refine vCallX_of ?_; (repeat (first | simp (maxSteps := 2000000) (disch := omega) only [go_sem, ↓reduceIte] | with_reducible refine vIf_t ?_ | with_reducible refine vIf_f ?_)); refine vCall_eq (hc) (by simp (disch := omega) only [go_sem]) rfl (by first | exact Or.inl rfl | exact Or.inr ⟨rfl, rfl⟩ | (apply Or.inr; simp only [go_sem])) ?_; (repeat (first | simp (maxSteps := 2000000) (disch := omega) only [go_sem, ↓reduceIte] | with_reducible refine vIf_t ?_ | with_reducible refine vIf_f ?_)))
    (repeat (first | simp (maxSteps := 2000000) (disch := omega) only [go_sem, ↓reduceIte, hb] | with_reducible refine vIf_t ?_ | with_reducible refine vIf_f ?_))
    (refine retK_of ?_; (repeat (first | simp (maxSteps := 2000000) (disch := omega) only [go_sem, ↓reduceIte] | with_reducible refine vIf_t ?_ | with_reducible refine vIf_f ?_)))
end Go.Proofs.YtpjjjonplikilaaGreat
namespace Go.Proofs.YtpjjjonplikilaaGreat
open Go.AG

/-- a table whose first rows are nil -/
def tbl (h : Nat) (ys : List V) : List V := List.replicate h (V.sc (.slice none 0 0)) ++ ys
theorem tbl_rep (h : Nat) : List.replicate h (V.sc (.slice none 0 0)) = tbl h [] := by simp [tbl]
theorem length_tbl (h : Nat) (ys : List V) : (tbl h ys).length = h + ys.length := by simp [tbl]
theorem tbl_wr (h : Nat) (ys : List V) (x : V) : wr (tbl (h + 1) ys) h [x] = tbl h (x :: ys) := by
  simp only [wr, tbl, List.length_singleton]
  rw [List.take_append_of_le_length (by simp), List.take_replicate, Nat.min_eq_left (by omega)]
  rw [List.drop_append_of_le_length (by simp), List.drop_replicate, Nat.sub_self]
  simp
theorem tbl_at0 (h : Nat) (y : V) (ys : List V) (K : V → Prop) : vAt (tbl h (y :: ys)) h K = K y := by simp [vAt, tbl]
theorem tbl_at1 (h : Nat) (y : V) (ys : List V) (K : V → Prop) : vAt (tbl h (y :: ys)) (h + 1) K = vAt ys 0 K := by
  simp only [vAt, tbl]
  rw [List.getElem?_append_right (by simp)]
  simp
theorem tbl_kill (p : Nat → Bool) (h : Nat) (ys : List V) : V.killL p (tbl h ys) = tbl h (V.killL p ys) := by simp [killL_eq, tbl, V.kill]
theorem tbl_frz (f : Nat → Option Ob) (h : Nat) (ys : List V) : V.frzL f (tbl h ys) = tbl h (V.frzL f ys) := by simp [frzL_eq, tbl, V.frz]
theorem tbl_ren (g : Nat → Nat) (h : Nat) (ys : List V) : V.renL g (tbl h ys) = tbl h (V.renL g ys) := by simp [renL_eq, tbl, V.ren]
theorem tbl_imm (h : Nat) (ys : List V) : V.immL (tbl h ys) = V.immL ys := by
  induction h with
  | zero => simp [tbl]
  | succ h ih => simp only [tbl, List.replicate_succ, List.cons_append] at ih ⊢; simpa [V.immL, V.imm] using ih
theorem tbl_one (h : Nat) (ys : List V) : V.oneL (tbl h ys) = V.oneL ys := by
  induction h with
  | zero => simp [tbl]
  | succ h ih => simp only [tbl, List.replicate_succ, List.cons_append] at ih ⊢; simpa [V.oneL, V.one, Value.oneCell'] using ih
theorem tbl_refs (h : Nat) (ys : List V) : V.norefL (tbl h ys) = V.norefL ys := by
  induction h with
  | zero => simp [tbl]
  | succ h ih => simp only [tbl, List.replicate_succ, List.cons_append] at ih ⊢; simpa [V.norefL, V.noref] using ih
theorem tbl_zero (ys : List V) : tbl 0 ys = ys := by simp [tbl]
theorem rws_cons (x : List Int) (xs : List (List Int)) : V.sl x.length (ints x) :: rws xs = rws (x :: xs) := by simp [rws, iS]
theorem i2n1 (k : Nat) : ((k : Int) + 1).toNat = k + 1 := by omega
theorem leF_fz {s t : AState} (l : Nat) (o : Ob) (ho : Live s.ob l o) (hi : V.immL o.cells = true) (h : leF { s with sl := trS (V.frz (oneF l o)) s.sl, ob := (trO (V.frz (oneF l o)) s.ob).set l none } t) : leF s t := by
  obtain ⟨s2, h1, h2⟩ := h
  exact ⟨s2, .step l o ho hi h1, h2⟩
attribute [go_sem] i2n1 tbl_rep length_tbl tbl_wr tbl_at0 tbl_at1 tbl_kill tbl_frz tbl_ren tbl_imm tbl_one tbl_refs tbl_zero
end Go.Proofs.YtpjjjonplikilaaGreat

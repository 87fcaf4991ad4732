/- runs of the control: what is asked of them -/
import Derived.Test.YtnphbdcdncmojaaDoorCtl4
import Derived.Test.YtnphbdcdncmojaaDoorIxs
set_option linter.unusedVariables false
set_option linter.unusedSimpArgs false
namespace Go.Proofs.YtnphbdcdncmojaaDoor
open Go.AG

theorem a2Inflows1_e {code : List Int} (g : SrOk code) : ACalls Tryd.prog 10 [bS code] []
    (fun r o => ∃ (xs : List Int), r = .ref 0 0 xs.length ∧ o = [oI xs] ∧ (∀ x ∈ xs, 0 ≤ x ∧ x < 600) ∧ 1 ≤ xs.length ∧ xs.length ≤ 12) := by
  refine ACalls.of_vc Tryd.func10 rfl (by decide) 22 rfl [.tmp 2] rfl (by simp) ?_
  have hf := from_e g
  unfold bS at hf ⊢
  (repeat (first | simp (maxSteps := 2000000) (disch := omega) only [go_sem, Nat.reduceEqDiff, Nat.reduceAdd, Nat.reduceMul, Nat.reduceSub, Int.reduceToNat, Int.reduceAdd, Int.reduceSub, Int.reduceMul, Int.reduceNeg] | refine vIf_t ?_ | refine vIf_f ?_))
  (refine vCallX_of ?_; (repeat (first | simp (maxSteps := 2000000) (disch := omega) only [go_sem, Nat.reduceEqDiff, Nat.reduceAdd, Nat.reduceMul, Nat.reduceSub, Int.reduceToNat, Int.reduceAdd, Int.reduceSub, Int.reduceMul, Int.reduceNeg] | refine vIf_t ?_ | refine vIf_f ?_)); refine vCall_eq (hf) (by simp (disch := omega) only [go_sem, Nat.reduceAdd]) rfl (by first | exact Or.inl rfl | exact Or.inr ⟨rfl, rfl⟩ | (apply Or.inr; simp only [go_sem])) ?_; (repeat (first | simp (maxSteps := 2000000) (disch := omega) only [go_sem, Nat.reduceEqDiff, Nat.reduceAdd, Nat.reduceMul, Nat.reduceSub, Int.reduceToNat, Int.reduceAdd, Int.reduceSub, Int.reduceMul, Int.reduceNeg] | refine vIf_t ?_ | refine vIf_f ?_)))
  (refine vCallX_io [0] ?_; (repeat (first | simp (maxSteps := 2000000) (disch := omega) only [go_sem, Nat.reduceEqDiff, Nat.reduceAdd, Nat.reduceMul, Nat.reduceSub, Int.reduceToNat, Int.reduceAdd, Int.reduceSub, Int.reduceMul, Int.reduceNeg] | refine vIf_t ?_ | refine vIf_f ?_)); refine vCallIO_ex (pick_e g 12 ⟨0, 0⟩ (by simp)) (by simp (disch := omega) only [go_sem, Nat.reduceAdd, Nat.reduceEqDiff]) (by simp (disch := omega) only [go_sem, Nat.reduceAdd, Nat.reduceEqDiff]) (by first | rfl | (simp (disch := omega) only [go_sem, Nat.reduceAdd, Nat.reduceEqDiff])) (by first | rfl | (simp (disch := omega) only [go_sem, Nat.reduceAdd, Nat.reduceEqDiff])) (by first | rfl | (simp (disch := omega) only [go_sem, Nat.reduceAdd, Nat.reduceEqDiff])) ?_); rintro _ _ ⟨v1, σ1, rfl, rfl, h1, h2, h3⟩; (refine ⟨by first | (simp (disch := omega) only [go_sem, Nat.reduceAdd, Nat.reduceEqDiff]) | trivial, ?_⟩; (repeat (first | simp (maxSteps := 2000000) (disch := omega) only [go_sem, Nat.reduceEqDiff, Nat.reduceAdd, Nat.reduceMul, Nat.reduceSub, Int.reduceToNat, Int.reduceAdd, Int.reduceSub, Int.reduceMul, Int.reduceNeg] | refine vIf_t ?_ | refine vIf_f ?_)))
  simp only at h3
  refine vcLoop_invF (fun x : List Int × Sr × Int => (∀ y ∈ x.1, 0 ≤ y ∧ y < 600) ∧ 0 ≤ x.2.2 ∧ (x.1.length : Int) + x.2.2 ≤ 12 ∧ 1 ≤ (x.1.length : Int) + x.2.2 ∧ x.2.1.pos ≤ 2 + 2 * x.1.length)
    (fun x => ⟨22, 0, [(3, .ptr 0 0), (4, .ref 1 0 x.1.length), (5, I x.2.2)], [srO code x.2.1, oI x.1]⟩) (fun x => x.2.2.toNat) ([], σ1, 1 + v1) ⟨by simp, by simp only; omega, by simp; omega, by simp; omega, by simp; omega⟩ (by (first | (refine leF_s ?_; ((repeat (first | simp (maxSteps := 2000000) (disch := omega) only [go_sem, Nat.reduceEqDiff, Nat.reduceAdd, Nat.reduceMul, Nat.reduceSub, Int.reduceToNat, Int.reduceAdd, Int.reduceSub, Int.reduceMul, Int.reduceNeg] | refine vIf_t ?_ | refine vIf_f ?_)); all_goals (try simp); all_goals (try omega)); done) | (refine leF_p ?_; ((repeat (first | simp (maxSteps := 2000000) (disch := omega) only [go_sem, Nat.reduceEqDiff, Nat.reduceAdd, Nat.reduceMul, Nat.reduceSub, Int.reduceToNat, Int.reduceAdd, Int.reduceSub, Int.reduceMul, Int.reduceNeg] | refine vIf_t ?_ | refine vIf_f ?_)); all_goals (try simp); all_goals (try omega)); done))) ?_
  rintro ⟨xs, σ', k⟩ hx
  obtain ⟨g1, g2, g3, g5, g4⟩ := hx
  simp only at g1 g2 g3 g4 g5
  (repeat (first | simp (maxSteps := 2000000) (disch := omega) only [go_sem, Nat.reduceEqDiff, Nat.reduceAdd, Nat.reduceMul, Nat.reduceSub, Int.reduceToNat, Int.reduceAdd, Int.reduceSub, Int.reduceMul, Int.reduceNeg] | refine vIf_t ?_ | refine vIf_f ?_))
  refine vIf_dec (fun h => ?_) (fun h => ?_)
  · (repeat (first | simp (maxSteps := 2000000) (disch := omega) only [go_sem, Nat.reduceEqDiff, Nat.reduceAdd, Nat.reduceMul, Nat.reduceSub, Int.reduceToNat, Int.reduceAdd, Int.reduceSub, Int.reduceMul, Int.reduceNeg] | refine vIf_t ?_ | refine vIf_f ?_))
    (refine vCallX_io [0] ?_; (repeat (first | simp (maxSteps := 2000000) (disch := omega) only [go_sem, Nat.reduceEqDiff, Nat.reduceAdd, Nat.reduceMul, Nat.reduceSub, Int.reduceToNat, Int.reduceAdd, Int.reduceSub, Int.reduceMul, Int.reduceNeg] | refine vIf_t ?_ | refine vIf_f ?_)); refine vCallIO_ex (pick_e g 600 σ' (by omega)) (by simp (disch := omega) only [go_sem, Nat.reduceAdd, Nat.reduceEqDiff]) (by simp (disch := omega) only [go_sem, Nat.reduceAdd, Nat.reduceEqDiff]) (by first | rfl | (simp (disch := omega) only [go_sem, Nat.reduceAdd, Nat.reduceEqDiff])) (by first | rfl | (simp (disch := omega) only [go_sem, Nat.reduceAdd, Nat.reduceEqDiff])) (by first | rfl | (simp (disch := omega) only [go_sem, Nat.reduceAdd, Nat.reduceEqDiff])) ?_); rintro _ _ ⟨v3, σ3, rfl, rfl, h7, h8, h9⟩; (refine ⟨by first | (simp (disch := omega) only [go_sem, Nat.reduceAdd, Nat.reduceEqDiff]) | trivial, ?_⟩; (repeat (first | simp (maxSteps := 2000000) (disch := omega) only [go_sem, Nat.reduceEqDiff, Nat.reduceAdd, Nat.reduceMul, Nat.reduceSub, Int.reduceToNat, Int.reduceAdd, Int.reduceSub, Int.reduceMul, Int.reduceNeg] | refine vIf_t ?_ | refine vIf_f ?_)))
    refine againF ((xs ++ [v3], σ3, k - 1)) ?_ ?_ (by (first | (refine leF_s ?_; ((repeat (first | simp (maxSteps := 2000000) (disch := omega) only [go_sem, Nat.reduceEqDiff, Nat.reduceAdd, Nat.reduceMul, Nat.reduceSub, Int.reduceToNat, Int.reduceAdd, Int.reduceSub, Int.reduceMul, Int.reduceNeg] | refine vIf_t ?_ | refine vIf_f ?_)); all_goals (try simp); all_goals (try omega)); done) | (refine leF_p ?_; ((repeat (first | simp (maxSteps := 2000000) (disch := omega) only [go_sem, Nat.reduceEqDiff, Nat.reduceAdd, Nat.reduceMul, Nat.reduceSub, Int.reduceToNat, Int.reduceAdd, Int.reduceSub, Int.reduceMul, Int.reduceNeg] | refine vIf_t ?_ | refine vIf_f ?_)); all_goals (try simp); all_goals (try omega)); done)))
    · refine ⟨?_, ?_, ?_, ?_, ?_⟩
      · intro y hy
        rcases List.mem_append.1 hy with h | h
        · exact g1 y h
        · rw [List.mem_singleton.1 h]; omega
      all_goals simp <;> omega
    · simp only; omega
  · (repeat (first | simp (maxSteps := 2000000) (disch := omega) only [go_sem, Nat.reduceEqDiff, Nat.reduceAdd, Nat.reduceMul, Nat.reduceSub, Int.reduceToNat, Int.reduceAdd, Int.reduceSub, Int.reduceMul, Int.reduceNeg] | refine vIf_t ?_ | refine vIf_f ?_))
    (refine retK_of ?_; (repeat (first | simp (maxSteps := 2000000) (disch := omega) only [go_sem, Nat.reduceEqDiff, Nat.reduceAdd, Nat.reduceMul, Nat.reduceSub, Int.reduceToNat, Int.reduceAdd, Int.reduceSub, Int.reduceMul, Int.reduceNeg] | refine vIf_t ?_ | refine vIf_f ?_)))
    exact ⟨xs, rfl, rfl, g1, by omega, by omega⟩
/-- a run goes on from its first hours -/
theorem rnK_pre {c : Cv} {w : Sw} {vol rate : Int} {xs : List Int} {k m : Nat} (hk : k ≤ m) {s t : Cs} (hs : rnK c w vol rate xs k = some s) (ht : rnK c w vol rate xs m = some t) : ∃ r, t.hs = s.hs ++ r := by
  induction m generalizing t with
  | zero =>
    obtain rfl : k = 0 := by omega
    rw [hs] at ht
    cases ht
    exact ⟨[], by simp⟩
  | succ m ih =>
    by_cases e : k = m + 1
    · subst e
      rw [hs] at ht
      cases ht
      exact ⟨[], by simp⟩
    · rw [rnK] at ht
      cases h1 : rnK c w vol rate xs m with
      | none => rw [h1] at ht; exact absurd ht (by simp)
      | some u =>
        rw [h1] at ht
        obtain ⟨r, hr⟩ := ih (by omega) h1
        simp only [Option.bind_some, stpC] at ht
        split at ht
        · exact absurd ht (by simp)
        · cases ht
          exact ⟨r ++ [⟨lvx c (voN rate u.vol (gi xs m) (rnW w (lvx c u.vol) u.run)), rnW w (lvx c u.vol) u.run⟩], by simp only; rw [hr, List.append_assoc]⟩
theorem swK_app (hs r : List Hr) (k : Nat) (hk : k ≤ hs.length) : swK (hs ++ r) k = swK hs k := by
  induction k with
  | zero => rfl
  | succ k ih => simp only [swK, ih (by omega), gHr_app_l hs r k (by omega)]
/-- switchings, hour by hour -/
def swL (hs : List Hr) : Bool := (swK hs hs.length).2
theorem swN_snoc (hs : List Hr) (y : Hr) : swN (hs ++ [y]) = (if (!(y.run == swL hs)) = true then swN hs + 1 else swN hs) ∧ swL (hs ++ [y]) = y.run := by
  have e : (hs ++ [y]).length = hs.length + 1 := by simp
  have g : gHr (hs ++ [y]) hs.length = y := by rw [gHr_app_r _ _ _ (Nat.le_refl _), Nat.sub_self]; rfl
  unfold swN swL
  rw [e]
  simp only [swK, swK_app hs [y] hs.length (Nat.le_refl _), g]
  refine ⟨?_, ?_⟩ <;> first | rfl | trivial
/-- hours with the pump running -/
def rcN (hs : List Hr) : Int := (ixs hs.length fun i => (gHr hs i).run).length
theorem ixs_congr {n : Nat} {p q : Nat → Bool} (h : ∀ i, i < n → p i = q i) : ixs n p = ixs n q := by
  have e : (List.range n).filter p = (List.range n).filter q := List.filter_congr fun x hx => h x (List.mem_range.1 hx)
  unfold ixs
  rw [e]
theorem rcN_snoc (hs : List Hr) (y : Hr) : rcN (hs ++ [y]) = if y.run = true then rcN hs + 1 else rcN hs := by
  have e : (hs ++ [y]).length = hs.length + 1 := by simp
  have g : gHr (hs ++ [y]) hs.length = y := by rw [gHr_app_r _ _ _ (Nat.le_refl _), Nat.sub_self]; rfl
  have e2 : ixs hs.length (fun i => (gHr (hs ++ [y]) i).run) = ixs hs.length fun i => (gHr hs i).run := ixs_congr fun i hi => by rw [gHr_app_l hs [y] i hi]
  unfold rcN
  rw [e]
  cases hy : y.run with
  | true => rw [ixs_yes (by rw [g]; exact hy), e2]; simp
  | false => rw [ixs_no (by rw [g]; exact hy), e2]; simp
theorem rcN_bd (hs : List Hr) : 0 ≤ rcN hs ∧ rcN hs ≤ hs.length := by
  have := ixs_len hs.length fun i => (gHr hs i).run
  unfold rcN
  omega
theorem runControlI_ok (c : Cv) (w : Sw) (vol rate : Int) (xs : List Int) (h : CtF c vol rate xs) (hok : okC c = true) (hw : okW w = true) :
    ACalls Tryd.prog 11 [.agg c.cells, .agg w.cells, I vol, I rate, .sl xs.length (ints xs)] []
    (fun r o => r = .tup [.sl (rnH c w vol rate xs).length (cHr (rnH c w vol rate xs)), I (if rnO c w vol rate xs = true then 0 else 10)] ∧ o = []) := by
  refine ACalls.of_vc Tryd.func11 rfl (by decide) 40 rfl [.tmp 10, .tmp 11] rfl (by simp) ?_
  obtain ⟨won, woff⟩ := w
  have hc := ctlCode_ok c [⟨won, woff⟩] vol [rate] xs h.f hok (by simp [hw]) (by simp) h.v (by simpa using h.r) (by simp) h.x h.n
  have hr := runControl_ok c ⟨won, woff⟩ vol rate xs h
  rw [show [(⟨won, woff⟩ : Sw)].length = 1 from rfl, show [rate].length = 1 from rfl] at hc
  unfold Cv.cells at hc hr ⊢
  unfold Sw.cells at hr ⊢
  (repeat (first | simp (maxSteps := 2000000) (disch := omega) only [go_sem, Nat.reduceEqDiff, Nat.reduceAdd, Nat.reduceMul, Nat.reduceSub, Int.reduceToNat, Int.reduceAdd, Int.reduceSub, Int.reduceMul, Int.reduceNeg] | refine vIf_t ?_ | refine vIf_f ?_))
  (refine vCallX_of ?_; (repeat (first | simp (maxSteps := 2000000) (disch := omega) only [go_sem, Nat.reduceEqDiff, Nat.reduceAdd, Nat.reduceMul, Nat.reduceSub, Int.reduceToNat, Int.reduceAdd, Int.reduceSub, Int.reduceMul, Int.reduceNeg] | refine vIf_t ?_ | refine vIf_f ?_)); refine vCall_eq (hc) (by simp (disch := omega) only [go_sem, Nat.reduceAdd]) rfl (by first | exact Or.inl rfl | exact Or.inr ⟨rfl, rfl⟩ | (apply Or.inr; simp only [go_sem])) ?_; (repeat (first | simp (maxSteps := 2000000) (disch := omega) only [go_sem, Nat.reduceEqDiff, Nat.reduceAdd, Nat.reduceMul, Nat.reduceSub, Int.reduceToNat, Int.reduceAdd, Int.reduceSub, Int.reduceMul, Int.reduceNeg] | refine vIf_t ?_ | refine vIf_f ?_)))
  (refine vCallX_of ?_; (repeat (first | simp (maxSteps := 2000000) (disch := omega) only [go_sem, Nat.reduceEqDiff, Nat.reduceAdd, Nat.reduceMul, Nat.reduceSub, Int.reduceToNat, Int.reduceAdd, Int.reduceSub, Int.reduceMul, Int.reduceNeg] | refine vIf_t ?_ | refine vIf_f ?_)); refine vCall_eq (hr) (by simp (disch := omega) only [go_sem, Nat.reduceAdd]) rfl (by first | exact Or.inl rfl | exact Or.inr ⟨rfl, rfl⟩ | (apply Or.inr; simp only [go_sem])) ?_; (repeat (first | simp (maxSteps := 2000000) (disch := omega) only [go_sem, Nat.reduceEqDiff, Nat.reduceAdd, Nat.reduceMul, Nat.reduceSub, Int.reduceToNat, Int.reduceAdd, Int.reduceSub, Int.reduceMul, Int.reduceNeg] | refine vIf_t ?_ | refine vIf_f ?_)))
  cases hO : rnO c ⟨won, woff⟩ vol rate xs with
  | false =>
    have e : rnH c ⟨won, woff⟩ vol rate xs = [] := by
      unfold rnO at hO
      unfold rnH
      cases hA : rnA c ⟨won, woff⟩ vol rate xs with
      | none => rfl
      | some s => rw [hA] at hO; cases hO
    (try (repeat (first | simp (maxSteps := 2000000) (disch := omega) only [go_sem, Nat.reduceEqDiff, Nat.reduceAdd, Nat.reduceMul, Nat.reduceSub, Int.reduceToNat, Int.reduceAdd, Int.reduceSub, Int.reduceMul, Int.reduceNeg, hO] | refine vIf_t ?_ | refine vIf_f ?_)))
    refine retK_frz (.step 5 ⟨2, cHr []⟩ rfl (by (repeat (first | simp (maxSteps := 2000000) (disch := omega) only [go_sem, Nat.reduceEqDiff, Nat.reduceAdd, Nat.reduceMul, Nat.reduceSub, Int.reduceToNat, Int.reduceAdd, Int.reduceSub, Int.reduceMul, Int.reduceNeg] | refine vIf_t ?_ | refine vIf_f ?_))) (.refl _)) ?_
    (repeat (first | simp (maxSteps := 2000000) (disch := omega) only [go_sem, Nat.reduceEqDiff, Nat.reduceAdd, Nat.reduceMul, Nat.reduceSub, Int.reduceToNat, Int.reduceAdd, Int.reduceSub, Int.reduceMul, Int.reduceNeg] | refine vIf_t ?_ | refine vIf_f ?_))
    rw [e]
    rfl
  | true =>
    (try (repeat (first | simp (maxSteps := 2000000) (disch := omega) only [go_sem, Nat.reduceEqDiff, Nat.reduceAdd, Nat.reduceMul, Nat.reduceSub, Int.reduceToNat, Int.reduceAdd, Int.reduceSub, Int.reduceMul, Int.reduceNeg, hO] | refine vIf_t ?_ | refine vIf_f ?_)))
    refine retK_frz (.step 4 ⟨2, cHr (rnH c ⟨won, woff⟩ vol rate xs)⟩ rfl (by (repeat (first | simp (maxSteps := 2000000) (disch := omega) only [go_sem, Nat.reduceEqDiff, Nat.reduceAdd, Nat.reduceMul, Nat.reduceSub, Int.reduceToNat, Int.reduceAdd, Int.reduceSub, Int.reduceMul, Int.reduceNeg] | refine vIf_t ?_ | refine vIf_f ?_))) (.refl _)) ?_
    (repeat (first | simp (maxSteps := 2000000) (disch := omega) only [go_sem, Nat.reduceEqDiff, Nat.reduceAdd, Nat.reduceMul, Nat.reduceSub, Int.reduceToNat, Int.reduceAdd, Int.reduceSub, Int.reduceMul, Int.reduceNeg] | refine vIf_t ?_ | refine vIf_f ?_))
theorem runsNow_ok (w : Sw) (lev : Int) (run : Bool) (hw : okW w = true) (hl : -2000 ≤ lev ∧ lev ≤ 2000) : ACalls Tryd.prog 15 [.agg w.cells, I lev, B run] [] (fun r o => r = .tup [B (rnW w lev run), I 0] ∧ o = []) := by
  refine ACalls.of_vc Tryd.func15 rfl (by decide) 20 rfl [.tmp 6, .tmp 7] rfl (by simp) ?_
  have h1 := validW_ok w
  have h2 := valLev_ok lev
  have h3 := runs_ok w lev run
  rw [hw] at h1
  rw [decide_eq_true hl] at h2
  unfold Sw.cells at h1 h3 ⊢
  (repeat (first | simp (maxSteps := 2000000) (disch := omega) only [go_sem, Nat.reduceEqDiff, Nat.reduceAdd, Nat.reduceMul, Nat.reduceSub, Int.reduceToNat, Int.reduceAdd, Int.reduceSub, Int.reduceMul, Int.reduceNeg] | refine vIf_t ?_ | refine vIf_f ?_))
  (refine vCallX_of ?_; (repeat (first | simp (maxSteps := 2000000) (disch := omega) only [go_sem, Nat.reduceEqDiff, Nat.reduceAdd, Nat.reduceMul, Nat.reduceSub, Int.reduceToNat, Int.reduceAdd, Int.reduceSub, Int.reduceMul, Int.reduceNeg] | refine vIf_t ?_ | refine vIf_f ?_)); refine vCall_eq (h1) (by simp (disch := omega) only [go_sem, Nat.reduceAdd]) rfl (by first | exact Or.inl rfl | exact Or.inr ⟨rfl, rfl⟩ | (apply Or.inr; simp only [go_sem])) ?_; (repeat (first | simp (maxSteps := 2000000) (disch := omega) only [go_sem, Nat.reduceEqDiff, Nat.reduceAdd, Nat.reduceMul, Nat.reduceSub, Int.reduceToNat, Int.reduceAdd, Int.reduceSub, Int.reduceMul, Int.reduceNeg] | refine vIf_t ?_ | refine vIf_f ?_)))
  (refine vCallX_of ?_; (repeat (first | simp (maxSteps := 2000000) (disch := omega) only [go_sem, Nat.reduceEqDiff, Nat.reduceAdd, Nat.reduceMul, Nat.reduceSub, Int.reduceToNat, Int.reduceAdd, Int.reduceSub, Int.reduceMul, Int.reduceNeg] | refine vIf_t ?_ | refine vIf_f ?_)); refine vCall_eq (h2) (by simp (disch := omega) only [go_sem, Nat.reduceAdd]) rfl (by first | exact Or.inl rfl | exact Or.inr ⟨rfl, rfl⟩ | (apply Or.inr; simp only [go_sem])) ?_; (repeat (first | simp (maxSteps := 2000000) (disch := omega) only [go_sem, Nat.reduceEqDiff, Nat.reduceAdd, Nat.reduceMul, Nat.reduceSub, Int.reduceToNat, Int.reduceAdd, Int.reduceSub, Int.reduceMul, Int.reduceNeg] | refine vIf_t ?_ | refine vIf_f ?_)))
  (refine vCallX_of ?_; (repeat (first | simp (maxSteps := 2000000) (disch := omega) only [go_sem, Nat.reduceEqDiff, Nat.reduceAdd, Nat.reduceMul, Nat.reduceSub, Int.reduceToNat, Int.reduceAdd, Int.reduceSub, Int.reduceMul, Int.reduceNeg] | refine vIf_t ?_ | refine vIf_f ?_)); refine vCall_eq (h3) (by simp (disch := omega) only [go_sem, Nat.reduceAdd]) rfl (by first | exact Or.inl rfl | exact Or.inr ⟨rfl, rfl⟩ | (apply Or.inr; simp only [go_sem])) ?_; (repeat (first | simp (maxSteps := 2000000) (disch := omega) only [go_sem, Nat.reduceEqDiff, Nat.reduceAdd, Nat.reduceMul, Nat.reduceSub, Int.reduceToNat, Int.reduceAdd, Int.reduceSub, Int.reduceMul, Int.reduceNeg] | refine vIf_t ?_ | refine vIf_f ?_)))
  (refine retK_of ?_; (repeat (first | simp (maxSteps := 2000000) (disch := omega) only [go_sem, Nat.reduceEqDiff, Nat.reduceAdd, Nat.reduceMul, Nat.reduceSub, Int.reduceToNat, Int.reduceAdd, Int.reduceSub, Int.reduceMul, Int.reduceNeg] | refine vIf_t ?_ | refine vIf_f ?_)))
theorem areHr1_ok (y : Hr) : ACalls Tryd.prog 127 [.agg y.cells] [] (fun r o => r = B (decide (-2000 ≤ y.lv ∧ y.lv ≤ 2000)) ∧ o = []) := by
  refine ACalls.of_vc Tryd.func127 rfl (by decide) 6 rfl [.tmp 2] rfl (by simp) ?_
  have h1 := valLev_ok y.lv
  unfold Hr.cells
  (repeat (first | simp (maxSteps := 2000000) (disch := omega) only [go_sem, Nat.reduceEqDiff, Nat.reduceAdd, Nat.reduceMul, Nat.reduceSub, Int.reduceToNat, Int.reduceAdd, Int.reduceSub, Int.reduceMul, Int.reduceNeg] | refine vIf_t ?_ | refine vIf_f ?_))
  (refine vCallX_of ?_; (repeat (first | simp (maxSteps := 2000000) (disch := omega) only [go_sem, Nat.reduceEqDiff, Nat.reduceAdd, Nat.reduceMul, Nat.reduceSub, Int.reduceToNat, Int.reduceAdd, Int.reduceSub, Int.reduceMul, Int.reduceNeg] | refine vIf_t ?_ | refine vIf_f ?_)); refine vCall_eq (h1) (by simp (disch := omega) only [go_sem, Nat.reduceAdd]) rfl (by first | exact Or.inl rfl | exact Or.inr ⟨rfl, rfl⟩ | (apply Or.inr; simp only [go_sem])) ?_; (repeat (first | simp (maxSteps := 2000000) (disch := omega) only [go_sem, Nat.reduceEqDiff, Nat.reduceAdd, Nat.reduceMul, Nat.reduceSub, Int.reduceToNat, Int.reduceAdd, Int.reduceSub, Int.reduceMul, Int.reduceNeg] | refine vIf_t ?_ | refine vIf_f ?_)))
  (refine retK_of ?_; (repeat (first | simp (maxSteps := 2000000) (disch := omega) only [go_sem, Nat.reduceEqDiff, Nat.reduceAdd, Nat.reduceMul, Nat.reduceSub, Int.reduceToNat, Int.reduceAdd, Int.reduceSub, Int.reduceMul, Int.reduceNeg] | refine vIf_t ?_ | refine vIf_f ?_)))
theorem areHr_ok (hs : List Hr) (hb : hsB hs) (hl : hs.length ≤ 200) : ACalls Tryd.prog 69 [.sl hs.length (cHr hs)] [] (fun r o => r = B true ∧ o = []) := by
  refine ACalls.of_vc Tryd.func69 rfl (by decide) 10 rfl [.tmp 2] rfl (by simp) ?_
  have ha := allHr_ok 127 [] (fun y => decide (-2000 ≤ y.lv ∧ y.lv ≤ 2000)) hs (fun x _ => areHr1_ok x) rfl (by omega)
  rw [show hs.all (fun y => decide (-2000 ≤ y.lv ∧ y.lv ≤ 2000)) = true from List.all_eq_true.2 fun y hy => decide_eq_true (hb y hy)] at ha
  have e : decide ((hs.length : Int) ≤ 200) = true := decide_eq_true (by omega)
  (repeat (first | simp (maxSteps := 2000000) (disch := omega) only [go_sem, Nat.reduceEqDiff, Nat.reduceAdd, Nat.reduceMul, Nat.reduceSub, Int.reduceToNat, Int.reduceAdd, Int.reduceSub, Int.reduceMul, Int.reduceNeg, e] | refine vIf_t ?_ | refine vIf_f ?_))
  (refine vCallX_of ?_; (repeat (first | simp (maxSteps := 2000000) (disch := omega) only [go_sem, Nat.reduceEqDiff, Nat.reduceAdd, Nat.reduceMul, Nat.reduceSub, Int.reduceToNat, Int.reduceAdd, Int.reduceSub, Int.reduceMul, Int.reduceNeg] | refine vIf_t ?_ | refine vIf_f ?_)); refine vCall_eq (ha) (by simp (disch := omega) only [go_sem, Nat.reduceAdd]) rfl (by first | exact Or.inl rfl | exact Or.inr ⟨rfl, rfl⟩ | (apply Or.inr; simp only [go_sem])) ?_; (repeat (first | simp (maxSteps := 2000000) (disch := omega) only [go_sem, Nat.reduceEqDiff, Nat.reduceAdd, Nat.reduceMul, Nat.reduceSub, Int.reduceToNat, Int.reduceAdd, Int.reduceSub, Int.reduceMul, Int.reduceNeg] | refine vIf_t ?_ | refine vIf_f ?_)))
  (refine retK_of ?_; (repeat (first | simp (maxSteps := 2000000) (disch := omega) only [go_sem, Nat.reduceEqDiff, Nat.reduceAdd, Nat.reduceMul, Nat.reduceSub, Int.reduceToNat, Int.reduceAdd, Int.reduceSub, Int.reduceMul, Int.reduceNeg] | refine vIf_t ?_ | refine vIf_f ?_)))
theorem countI_ok (hs : List Hr) (hb : hsB hs) (hl : hs.length ≤ 200) : ACalls Tryd.prog 16 [.sl hs.length (cHr hs)] [] (fun r o => r = .tup [I (swN hs), I 0] ∧ o = []) := by
  refine ACalls.of_vc Tryd.func16 rfl (by decide) 9 rfl [.tmp 2, .tmp 3] rfl (by simp) ?_
  have h1 := areHr_ok hs hb hl
  have h2 := switches_ok hs (by omega)
  (repeat (first | simp (maxSteps := 2000000) (disch := omega) only [go_sem, Nat.reduceEqDiff, Nat.reduceAdd, Nat.reduceMul, Nat.reduceSub, Int.reduceToNat, Int.reduceAdd, Int.reduceSub, Int.reduceMul, Int.reduceNeg] | refine vIf_t ?_ | refine vIf_f ?_))
  (refine vCallX_of ?_; (repeat (first | simp (maxSteps := 2000000) (disch := omega) only [go_sem, Nat.reduceEqDiff, Nat.reduceAdd, Nat.reduceMul, Nat.reduceSub, Int.reduceToNat, Int.reduceAdd, Int.reduceSub, Int.reduceMul, Int.reduceNeg] | refine vIf_t ?_ | refine vIf_f ?_)); refine vCall_eq (h1) (by simp (disch := omega) only [go_sem, Nat.reduceAdd]) rfl (by first | exact Or.inl rfl | exact Or.inr ⟨rfl, rfl⟩ | (apply Or.inr; simp only [go_sem])) ?_; (repeat (first | simp (maxSteps := 2000000) (disch := omega) only [go_sem, Nat.reduceEqDiff, Nat.reduceAdd, Nat.reduceMul, Nat.reduceSub, Int.reduceToNat, Int.reduceAdd, Int.reduceSub, Int.reduceMul, Int.reduceNeg] | refine vIf_t ?_ | refine vIf_f ?_)))
  (refine vCallX_of ?_; (repeat (first | simp (maxSteps := 2000000) (disch := omega) only [go_sem, Nat.reduceEqDiff, Nat.reduceAdd, Nat.reduceMul, Nat.reduceSub, Int.reduceToNat, Int.reduceAdd, Int.reduceSub, Int.reduceMul, Int.reduceNeg] | refine vIf_t ?_ | refine vIf_f ?_)); refine vCall_eq (h2) (by simp (disch := omega) only [go_sem, Nat.reduceAdd]) rfl (by first | exact Or.inl rfl | exact Or.inr ⟨rfl, rfl⟩ | (apply Or.inr; simp only [go_sem])) ?_; (repeat (first | simp (maxSteps := 2000000) (disch := omega) only [go_sem, Nat.reduceEqDiff, Nat.reduceAdd, Nat.reduceMul, Nat.reduceSub, Int.reduceToNat, Int.reduceAdd, Int.reduceSub, Int.reduceMul, Int.reduceNeg] | refine vIf_t ?_ | refine vIf_f ?_)))
  (refine retK_of ?_; (repeat (first | simp (maxSteps := 2000000) (disch := omega) only [go_sem, Nat.reduceEqDiff, Nat.reduceAdd, Nat.reduceMul, Nat.reduceSub, Int.reduceToNat, Int.reduceAdd, Int.reduceSub, Int.reduceMul, Int.reduceNeg] | refine vIf_t ?_ | refine vIf_f ?_)))
theorem hrRun1_ok (hs : List Hr) (i : Nat) (hi : i < hs.length) : ACalls Tryd.prog 74 [I i, .ip [.sl hs.length (cHr hs)] 0] [] (fun r o => r = B (gHr hs i).run ∧ o = []) := by
  refine ACalls.of_vc Tryd.func74 rfl (by decide) 9 rfl [.tmp 3] rfl (by simp) ?_
  (repeat (first | simp (maxSteps := 2000000) (disch := omega) only [go_sem, Nat.reduceEqDiff, Nat.reduceAdd, Nat.reduceMul, Nat.reduceSub, Int.reduceToNat, Int.reduceAdd, Int.reduceSub, Int.reduceMul, Int.reduceNeg] | refine vIf_t ?_ | refine vIf_f ?_))
  (refine retK_of ?_; (repeat (first | simp (maxSteps := 2000000) (disch := omega) only [go_sem, Nat.reduceEqDiff, Nat.reduceAdd, Nat.reduceMul, Nat.reduceSub, Int.reduceToNat, Int.reduceAdd, Int.reduceSub, Int.reduceMul, Int.reduceNeg] | refine vIf_t ?_ | refine vIf_f ?_)))
theorem szHr_ok (xs : List V) (n : Nat) : ACalls Tryd.prog 73 [.sl n xs] [] (fun r o => r = I n ∧ o = []) := by
  refine ACalls.of_vc Tryd.func73 rfl (by decide) 5 rfl [.tmp 2] rfl (by simp) ?_
  (repeat (first | simp (maxSteps := 2000000) (disch := omega) only [go_sem, Nat.reduceEqDiff, Nat.reduceAdd, Nat.reduceMul, Nat.reduceSub, Int.reduceToNat, Int.reduceAdd, Int.reduceSub, Int.reduceMul, Int.reduceNeg] | refine vIf_t ?_ | refine vIf_f ?_))
  (refine retK_of ?_; (repeat (first | simp (maxSteps := 2000000) (disch := omega) only [go_sem, Nat.reduceEqDiff, Nat.reduceAdd, Nat.reduceMul, Nat.reduceSub, Int.reduceToNat, Int.reduceAdd, Int.reduceSub, Int.reduceMul, Int.reduceNeg] | refine vIf_t ?_ | refine vIf_f ?_)))
theorem hrRunning_ok (hs : List Hr) (hb : hsB hs) (hl : hs.length ≤ 200) : ACalls Tryd.prog 17 [.sl hs.length (cHr hs)] [] (fun r o => r = .tup [I (rcN hs), I 0] ∧ o = []) := by
  refine ACalls.of_vc Tryd.func17 rfl (by decide) 12 rfl [.tmp 2, .tmp 3] rfl (by simp) ?_
  have h1 := areHr_ok hs hb hl
  have h2 := szHr_ok (cHr hs) hs.length
  have h3 := ixw_ok hs.length 74 [.ip [.sl hs.length (cHr hs)] 0] (fun i => (gHr hs i).run) (fun i hi => hrRun1_ok hs i hi) rfl (by omega)
  have h4 := size_ok (ints (ixs hs.length fun i => (gHr hs i).run)) (ixs hs.length fun i => (gHr hs i).run).length
  (repeat (first | simp (maxSteps := 2000000) (disch := omega) only [go_sem, Nat.reduceEqDiff, Nat.reduceAdd, Nat.reduceMul, Nat.reduceSub, Int.reduceToNat, Int.reduceAdd, Int.reduceSub, Int.reduceMul, Int.reduceNeg] | refine vIf_t ?_ | refine vIf_f ?_))
  (refine vCallX_of ?_; (repeat (first | simp (maxSteps := 2000000) (disch := omega) only [go_sem, Nat.reduceEqDiff, Nat.reduceAdd, Nat.reduceMul, Nat.reduceSub, Int.reduceToNat, Int.reduceAdd, Int.reduceSub, Int.reduceMul, Int.reduceNeg] | refine vIf_t ?_ | refine vIf_f ?_)); refine vCall_eq (h1) (by simp (disch := omega) only [go_sem, Nat.reduceAdd]) rfl (by first | exact Or.inl rfl | exact Or.inr ⟨rfl, rfl⟩ | (apply Or.inr; simp only [go_sem])) ?_; (repeat (first | simp (maxSteps := 2000000) (disch := omega) only [go_sem, Nat.reduceEqDiff, Nat.reduceAdd, Nat.reduceMul, Nat.reduceSub, Int.reduceToNat, Int.reduceAdd, Int.reduceSub, Int.reduceMul, Int.reduceNeg] | refine vIf_t ?_ | refine vIf_f ?_)))
  (refine vCallX_of ?_; (repeat (first | simp (maxSteps := 2000000) (disch := omega) only [go_sem, Nat.reduceEqDiff, Nat.reduceAdd, Nat.reduceMul, Nat.reduceSub, Int.reduceToNat, Int.reduceAdd, Int.reduceSub, Int.reduceMul, Int.reduceNeg] | refine vIf_t ?_ | refine vIf_f ?_)); refine vCall_eq (h2) (by simp (disch := omega) only [go_sem, Nat.reduceAdd]) rfl (by first | exact Or.inl rfl | exact Or.inr ⟨rfl, rfl⟩ | (apply Or.inr; simp only [go_sem])) ?_; (repeat (first | simp (maxSteps := 2000000) (disch := omega) only [go_sem, Nat.reduceEqDiff, Nat.reduceAdd, Nat.reduceMul, Nat.reduceSub, Int.reduceToNat, Int.reduceAdd, Int.reduceSub, Int.reduceMul, Int.reduceNeg] | refine vIf_t ?_ | refine vIf_f ?_)))
  (refine vCallX_of ?_; (repeat (first | simp (maxSteps := 2000000) (disch := omega) only [go_sem, Nat.reduceEqDiff, Nat.reduceAdd, Nat.reduceMul, Nat.reduceSub, Int.reduceToNat, Int.reduceAdd, Int.reduceSub, Int.reduceMul, Int.reduceNeg] | refine vIf_t ?_ | refine vIf_f ?_)); refine vCall_eq (h3) (by simp (disch := omega) only [go_sem, Nat.reduceAdd]) rfl (by first | exact Or.inl rfl | exact Or.inr ⟨rfl, rfl⟩ | (apply Or.inr; simp only [go_sem])) ?_; (repeat (first | simp (maxSteps := 2000000) (disch := omega) only [go_sem, Nat.reduceEqDiff, Nat.reduceAdd, Nat.reduceMul, Nat.reduceSub, Int.reduceToNat, Int.reduceAdd, Int.reduceSub, Int.reduceMul, Int.reduceNeg] | refine vIf_t ?_ | refine vIf_f ?_)))
  (refine vCallX_of ?_; (repeat (first | simp (maxSteps := 2000000) (disch := omega) only [go_sem, Nat.reduceEqDiff, Nat.reduceAdd, Nat.reduceMul, Nat.reduceSub, Int.reduceToNat, Int.reduceAdd, Int.reduceSub, Int.reduceMul, Int.reduceNeg] | refine vIf_t ?_ | refine vIf_f ?_)); refine vCall_eq (h4) (by simp (disch := omega) only [go_sem, Nat.reduceAdd]) rfl (by first | exact Or.inl rfl | exact Or.inr ⟨rfl, rfl⟩ | (apply Or.inr; simp only [go_sem])) ?_; (repeat (first | simp (maxSteps := 2000000) (disch := omega) only [go_sem, Nat.reduceEqDiff, Nat.reduceAdd, Nat.reduceMul, Nat.reduceSub, Int.reduceToNat, Int.reduceAdd, Int.reduceSub, Int.reduceMul, Int.reduceNeg] | refine vIf_t ?_ | refine vIf_f ?_)))
  (refine retK_of ?_; (repeat (first | simp (maxSteps := 2000000) (disch := omega) only [go_sem, Nat.reduceEqDiff, Nat.reduceAdd, Nat.reduceMul, Nat.reduceSub, Int.reduceToNat, Int.reduceAdd, Int.reduceSub, Int.reduceMul, Int.reduceNeg] | refine vIf_t ?_ | refine vIf_f ?_)))
  rfl
/-- the first of the highest hours so far -/
structure HMb (hs : List Hr) (k b : Nat) : Prop where
  lt : b < hs.length
  mx : ∀ j, j < k → (gHr hs j).lv ≤ (gHr hs b).lv
  fst : ∀ j, j < b → (gHr hs j).lv < (gHr hs b).lv
theorem HMb.start {hs : List Hr} (h : 0 < hs.length) : HMb hs 0 0 := ⟨h, fun j hj => by omega, fun j hj => by omega⟩
theorem HMb.yes {hs : List Hr} {k b : Nat} (h : HMb hs k b) (hk : k < hs.length) (hg : (gHr hs b).lv < (gHr hs k).lv) : HMb hs (k + 1) k :=
  ⟨hk, fun j hj => by
    by_cases e : j = k
    · subst e; exact Int.le_refl _
    · have := h.mx j (by omega); omega, fun j hj => by have := h.mx j hj; omega⟩
theorem HMb.no {hs : List Hr} {k b : Nat} (h : HMb hs k b) (hg : ¬ (gHr hs b).lv < (gHr hs k).lv) : HMb hs (k + 1) b :=
  ⟨h.lt, fun j hj => by
    by_cases e : j = k
    · subst e; omega
    · exact h.mx j (by omega), h.fst⟩
theorem highest_ok (hs : List Hr) (hb : hsB hs) (hl : hs.length ≤ 200) (h0 : 0 < hs.length) : ACalls Tryd.prog 18 [.sl hs.length (cHr hs)] [] (fun r o => ∃ b : Nat, HMb hs hs.length b ∧ r = .tup [I b, I 0] ∧ o = []) := by
  refine ACalls.of_vc Tryd.func18 rfl (by decide) 33 rfl [.tmp 2, .tmp 3] rfl (by simp) ?_
  have h1 := areHr_ok hs hb hl
  have hz : ((hs.length : Int) == 0) = false := by simp; intro e; rw [e] at h0; simp at h0
  (repeat (first | simp (maxSteps := 2000000) (disch := omega) only [go_sem, Nat.reduceEqDiff, Nat.reduceAdd, Nat.reduceMul, Nat.reduceSub, Int.reduceToNat, Int.reduceAdd, Int.reduceSub, Int.reduceMul, Int.reduceNeg] | refine vIf_t ?_ | refine vIf_f ?_))
  (refine vCallX_of ?_; (repeat (first | simp (maxSteps := 2000000) (disch := omega) only [go_sem, Nat.reduceEqDiff, Nat.reduceAdd, Nat.reduceMul, Nat.reduceSub, Int.reduceToNat, Int.reduceAdd, Int.reduceSub, Int.reduceMul, Int.reduceNeg] | refine vIf_t ?_ | refine vIf_f ?_)); refine vCall_eq (h1) (by simp (disch := omega) only [go_sem, Nat.reduceAdd]) rfl (by first | exact Or.inl rfl | exact Or.inr ⟨rfl, rfl⟩ | (apply Or.inr; simp only [go_sem])) ?_; (repeat (first | simp (maxSteps := 2000000) (disch := omega) only [go_sem, Nat.reduceEqDiff, Nat.reduceAdd, Nat.reduceMul, Nat.reduceSub, Int.reduceToNat, Int.reduceAdd, Int.reduceSub, Int.reduceMul, Int.reduceNeg] | refine vIf_t ?_ | refine vIf_f ?_)))
  (try (repeat (first | simp (maxSteps := 2000000) (disch := omega) only [go_sem, Nat.reduceEqDiff, Nat.reduceAdd, Nat.reduceMul, Nat.reduceSub, Int.reduceToNat, Int.reduceAdd, Int.reduceSub, Int.reduceMul, Int.reduceNeg, hz] | refine vIf_t ?_ | refine vIf_f ?_)))
  refine vcLoop_invF (fun x : Nat × Nat => x.1 ≤ hs.length ∧ HMb hs x.1 x.2) (fun x => ⟨33, 0, [(17, I x.1), (4, I x.2), (0, .sl hs.length (cHr hs)), (15, .sl hs.length (cHr hs)), (16, I hs.length)], []⟩) (fun x => hs.length - x.1) (0, 0) ⟨by simp, HMb.start h0⟩ (by (first | (refine leF_s ?_; ((repeat (first | simp (maxSteps := 2000000) (disch := omega) only [go_sem, Nat.reduceEqDiff, Nat.reduceAdd, Nat.reduceMul, Nat.reduceSub, Int.reduceToNat, Int.reduceAdd, Int.reduceSub, Int.reduceMul, Int.reduceNeg] | refine vIf_t ?_ | refine vIf_f ?_)); all_goals (try simp); all_goals (try omega)); done) | (refine leF_p ?_; ((repeat (first | simp (maxSteps := 2000000) (disch := omega) only [go_sem, Nat.reduceEqDiff, Nat.reduceAdd, Nat.reduceMul, Nat.reduceSub, Int.reduceToNat, Int.reduceAdd, Int.reduceSub, Int.reduceMul, Int.reduceNeg] | refine vIf_t ?_ | refine vIf_f ?_)); all_goals (try simp); all_goals (try omega)); done))) ?_
  rintro ⟨k, b⟩ ⟨hk, hm⟩
  simp only at hk hm
  have hbl := hm.lt
  (repeat (first | simp (maxSteps := 2000000) (disch := omega) only [go_sem, Nat.reduceEqDiff, Nat.reduceAdd, Nat.reduceMul, Nat.reduceSub, Int.reduceToNat, Int.reduceAdd, Int.reduceSub, Int.reduceMul, Int.reduceNeg] | refine vIf_t ?_ | refine vIf_f ?_))
  refine vIf_dec (fun h => ?_) (fun h => ?_)
  · (repeat (first | simp (maxSteps := 2000000) (disch := omega) only [go_sem, Nat.reduceEqDiff, Nat.reduceAdd, Nat.reduceMul, Nat.reduceSub, Int.reduceToNat, Int.reduceAdd, Int.reduceSub, Int.reduceMul, Int.reduceNeg] | refine vIf_t ?_ | refine vIf_f ?_))
    (refine vDraw_tail 7 mixed (by kernel_rfl) ?_; simp only [List.take_succ_cons, List.take_zero, List.drop_succ_cons, List.drop_zero]; (repeat (first | simp (maxSteps := 2000000) (disch := omega) only [go_sem, Nat.reduceEqDiff, Nat.reduceAdd, Nat.reduceMul, Nat.reduceSub, Int.reduceToNat, Int.reduceAdd, Int.reduceSub, Int.reduceMul, Int.reduceNeg] | refine vIf_t ?_ | refine vIf_f ?_)))
    refine vIf_dec (fun h7 => ?_) (fun h7 => ?_)
    · (repeat (first | simp (maxSteps := 2000000) (disch := omega) only [go_sem, Nat.reduceEqDiff, Nat.reduceAdd, Nat.reduceMul, Nat.reduceSub, Int.reduceToNat, Int.reduceAdd, Int.reduceSub, Int.reduceMul, Int.reduceNeg] | refine vIf_t ?_ | refine vIf_f ?_))
      refine againF ((k + 1, k)) ?_ ?_ (by (first | (refine leF_s ?_; ((repeat (first | simp (maxSteps := 2000000) (disch := omega) only [go_sem, Nat.reduceEqDiff, Nat.reduceAdd, Nat.reduceMul, Nat.reduceSub, Int.reduceToNat, Int.reduceAdd, Int.reduceSub, Int.reduceMul, Int.reduceNeg] | refine vIf_t ?_ | refine vIf_f ?_)); all_goals (try simp); all_goals (try omega)); done) | (refine leF_p ?_; ((repeat (first | simp (maxSteps := 2000000) (disch := omega) only [go_sem, Nat.reduceEqDiff, Nat.reduceAdd, Nat.reduceMul, Nat.reduceSub, Int.reduceToNat, Int.reduceAdd, Int.reduceSub, Int.reduceMul, Int.reduceNeg] | refine vIf_t ?_ | refine vIf_f ?_)); all_goals (try simp); all_goals (try omega)); done)))
      · exact ⟨by simp only; omega, hm.yes (by omega) h7⟩
      · simp only; omega
    · (repeat (first | simp (maxSteps := 2000000) (disch := omega) only [go_sem, Nat.reduceEqDiff, Nat.reduceAdd, Nat.reduceMul, Nat.reduceSub, Int.reduceToNat, Int.reduceAdd, Int.reduceSub, Int.reduceMul, Int.reduceNeg] | refine vIf_t ?_ | refine vIf_f ?_))
      refine againF ((k + 1, b)) ?_ ?_ (by (first | (refine leF_s ?_; ((repeat (first | simp (maxSteps := 2000000) (disch := omega) only [go_sem, Nat.reduceEqDiff, Nat.reduceAdd, Nat.reduceMul, Nat.reduceSub, Int.reduceToNat, Int.reduceAdd, Int.reduceSub, Int.reduceMul, Int.reduceNeg] | refine vIf_t ?_ | refine vIf_f ?_)); all_goals (try simp); all_goals (try omega)); done) | (refine leF_p ?_; ((repeat (first | simp (maxSteps := 2000000) (disch := omega) only [go_sem, Nat.reduceEqDiff, Nat.reduceAdd, Nat.reduceMul, Nat.reduceSub, Int.reduceToNat, Int.reduceAdd, Int.reduceSub, Int.reduceMul, Int.reduceNeg] | refine vIf_t ?_ | refine vIf_f ?_)); all_goals (try simp); all_goals (try omega)); done)))
      · exact ⟨by simp only; omega, hm.no h7⟩
      · simp only; omega
  · (repeat (first | simp (maxSteps := 2000000) (disch := omega) only [go_sem, Nat.reduceEqDiff, Nat.reduceAdd, Nat.reduceMul, Nat.reduceSub, Int.reduceToNat, Int.reduceAdd, Int.reduceSub, Int.reduceMul, Int.reduceNeg] | refine vIf_t ?_ | refine vIf_f ?_))
    (refine retK_of ?_; (repeat (first | simp (maxSteps := 2000000) (disch := omega) only [go_sem, Nat.reduceEqDiff, Nat.reduceAdd, Nat.reduceMul, Nat.reduceSub, Int.reduceToNat, Int.reduceAdd, Int.reduceSub, Int.reduceMul, Int.reduceNeg] | refine vIf_t ?_ | refine vIf_f ?_)))
    exact ⟨b, (show k = hs.length by omega) ▸ hm, rfl⟩
end Go.Proofs.YtnphbdcdncmojaaDoor

/- control of pumps: the run -/
import Derived.Test.YtnphbdcdncmojaaDoorCtl2
import Derived.Test.YtnphbdcdncmojaaDoorCurve6
set_option linter.unusedVariables false
set_option linter.unusedSimpArgs false
namespace Go.Proofs.YtnphbdcdncmojaaDoor
open Go.AG

theorem runs_ok (w : Sw) (lev : Int) (run : Bool) : ACalls Tryd.prog 68 [.agg w.cells, I lev, B run] [] (fun r o => r = B (rnW w lev run) ∧ o = []) := by
  refine ACalls.of_vc Tryd.func68 rfl (by decide) 16 rfl [.tmp 6] rfl (by simp) ?_
  unfold Sw.cells
  cases run with
  | true =>
    (try (repeat (first | simp (maxSteps := 2000000) (disch := omega) only [go_sem, Nat.reduceEqDiff, Nat.reduceAdd, Nat.reduceMul, Nat.reduceSub, Int.reduceToNat, Int.reduceAdd, Int.reduceSub, Int.reduceMul, Int.reduceNeg] | refine vIf_t ?_ | refine vIf_f ?_)))
    (refine retK_of ?_; (repeat (first | simp (maxSteps := 2000000) (disch := omega) only [go_sem, Nat.reduceEqDiff, Nat.reduceAdd, Nat.reduceMul, Nat.reduceSub, Int.reduceToNat, Int.reduceAdd, Int.reduceSub, Int.reduceMul, Int.reduceNeg] | refine vIf_t ?_ | refine vIf_f ?_)))
    rw [rnW, if_pos rfl]
  | false =>
    (try (repeat (first | simp (maxSteps := 2000000) (disch := omega) only [go_sem, Nat.reduceEqDiff, Nat.reduceAdd, Nat.reduceMul, Nat.reduceSub, Int.reduceToNat, Int.reduceAdd, Int.reduceSub, Int.reduceMul, Int.reduceNeg] | refine vIf_t ?_ | refine vIf_f ?_)))
    (refine retK_of ?_; (repeat (first | simp (maxSteps := 2000000) (disch := omega) only [go_sem, Nat.reduceEqDiff, Nat.reduceAdd, Nat.reduceMul, Nat.reduceSub, Int.reduceToNat, Int.reduceAdd, Int.reduceSub, Int.reduceMul, Int.reduceNeg] | refine vIf_t ?_ | refine vIf_f ?_)))
    rw [rnW, if_neg (by decide)]
theorem levx_ok (c : Cv) (v : Int) (f : CvF c) (hv : v ≤ gi c.vl (c.lv.length - 1)) : ACalls Tryd.prog 118 [.agg c.cells, I v] [] (fun r o => r = I (lvx c v) ∧ o = []) :=
  (level_ok c v f hv).mono fun r o ⟨x, h1, h2, h3⟩ => ⟨by rw [h2, lvx_eq f h1], h3⟩
theorem levelAtX_ok (c : Cv) (v : Int) (f : CvF c) (hok : okC c = true) (hv : 0 ≤ v ∧ v ≤ gi c.vl (c.lv.length - 1)) : ACalls Tryd.prog 14 [.agg c.cells, I v] [] (fun r o => r = .tup [I (lvx c v), I 0] ∧ o = []) := by
  have h2 := f.n2
  have h12 := f.n12
  have hvn := f.vn
  have hb := f.vb (c.lv.length - 1) (by omega)
  have e : laC c v = 0 := by rw [laC, if_pos hok, if_pos (by omega), if_neg (by omega)]
  exact (levelAtS_ok c v (by omega) (by omega)).mono fun r o ⟨x, h1, _, h3, h4⟩ => ⟨by rw [h3, lvx_eq f (h1 e), e], h4⟩
theorem stp_none {c : Cv} {w : Sw} {rate q : Int} {s : Cs} {b : Bool} (hb : rnW w (lvx c s.vol) s.run = b) (h : gi c.vl (c.lv.length - 1) < voN rate s.vol q b) : stpC c w rate s q = none := by
  unfold stpC; simp only [hb]; rw [if_pos h]
theorem stp_some {c : Cv} {w : Sw} {rate q : Int} {s : Cs} {b : Bool} {v : Int} (hb : rnW w (lvx c s.vol) s.run = b) (hv : voN rate s.vol q b = v) (h : ¬ gi c.vl (c.lv.length - 1) < v) : stpC c w rate s q = some ⟨v, b, s.hs ++ [⟨lvx c v, b⟩]⟩ := by
  unfold stpC; simp only [hb, hv]; rw [if_neg h]
theorem rnK_step {c : Cv} {w : Sw} {vol rate : Int} {xs : List Int} {k : Nat} {s : Cs} {t : Option Cs} (h : rnK c w vol rate xs k = some s) (h2 : stpC c w rate s (gi xs k) = t) : rnK c w vol rate xs (k + 1) = t := by
  rw [rnK, h]; exact h2
set_option maxRecDepth 10000 in
set_option maxHeartbeats 8000000 in
theorem runControl_ok (c : Cv) (w : Sw) (vol rate : Int) (xs : List Int) (h : CtF c vol rate xs) :
    ACalls Tryd.prog 60 [.agg c.cells, .agg w.cells, I vol, I rate, .sl xs.length (ints xs)] []
    (fun r o => r = .tup [.ref 0 0 (rnH c w vol rate xs).length, B (rnO c w vol rate xs)] ∧ o = [some ⟨2, cHr (rnH c w vol rate xs)⟩]) := by
  refine ACalls.of_vc Tryd.func60 rfl (by decide) 53 rfl [.tmp 10, .tmp 11] rfl (by simp) ?_
  have f := h.f
  have h2 := f.n2
  have h12 := f.n12
  have hvn := f.vn
  have hn := h.n
  have hr := h.r
  have hub := f.vb (c.lv.length - 1) (by omega)
  unfold Cv.cells Sw.cells
  (repeat (first | simp (maxSteps := 2000000) (disch := omega) only [go_sem, Nat.reduceEqDiff, Nat.reduceAdd, Nat.reduceMul, Nat.reduceSub, Int.reduceToNat, Int.reduceAdd, Int.reduceSub, Int.reduceMul, Int.reduceNeg] | refine vIf_t ?_ | refine vIf_f ?_))
  refine vcLoop_invF (fun x : Nat × Cs => x.1 ≤ xs.length ∧ rnK c w vol rate xs x.1 = some x.2)
    (fun x => ⟨53, 0, [(19, I x.1), (5, .ptr 0 0), (12, .ref 2 0 x.2.hs.length), (3, I rate), (2, I x.2.vol), (13, B x.2.run), (6, .ptr 1 0), (17, .sl xs.length (ints xs)), (18, I xs.length)], [some ⟨2, [.sl c.lv.length (ints c.lv), .sl c.vl.length (ints c.vl)]⟩, some ⟨2, [I w.on, I w.off]⟩, some ⟨2, cHr x.2.hs⟩]⟩) (fun x => xs.length - x.1) (0, ⟨vol, false, []⟩) ⟨by simp, rfl⟩ (by (first | (refine leF_s ?_; ((repeat (first | simp (maxSteps := 2000000) (disch := omega) only [go_sem, Nat.reduceEqDiff, Nat.reduceAdd, Nat.reduceMul, Nat.reduceSub, Int.reduceToNat, Int.reduceAdd, Int.reduceSub, Int.reduceMul, Int.reduceNeg] | refine vIf_t ?_ | refine vIf_f ?_)); all_goals (try simp); all_goals (try omega)); done) | (refine leF_p ?_; ((repeat (first | simp (maxSteps := 2000000) (disch := omega) only [go_sem, Nat.reduceEqDiff, Nat.reduceAdd, Nat.reduceMul, Nat.reduceSub, Int.reduceToNat, Int.reduceAdd, Int.reduceSub, Int.reduceMul, Int.reduceNeg] | refine vIf_t ?_ | refine vIf_f ?_)); all_goals (try simp); all_goals (try omega)); done))) ?_
  rintro ⟨k, s⟩ ⟨hk, hs⟩
  simp only at hk hs
  obtain ⟨b1, b2, b3⟩ := rnK_bd h k hk s hs
  (repeat (first | simp (maxSteps := 2000000) (disch := omega) only [go_sem, Nat.reduceEqDiff, Nat.reduceAdd, Nat.reduceMul, Nat.reduceSub, Int.reduceToNat, Int.reduceAdd, Int.reduceSub, Int.reduceMul, Int.reduceNeg] | refine vIf_t ?_ | refine vIf_f ?_))
  refine vIf_dec (fun hc => ?_) (fun hc => ?_)
  · have hkl : k < xs.length := by omega
    have hq := h.q k hkl
    have hl1 := levx_ok c s.vol f (by omega)
    have hru := runs_ok w (lvx c s.vol) s.run
    have hla := last_ok c.vl (by omega)
    rw [show gi c.vl (c.vl.length - 1) = gi c.vl (c.lv.length - 1) by rw [hvn]] at hla
    unfold Cv.cells at hl1
    unfold Sw.cells at hru
    (repeat (first | simp (maxSteps := 2000000) (disch := omega) only [go_sem, Nat.reduceEqDiff, Nat.reduceAdd, Nat.reduceMul, Nat.reduceSub, Int.reduceToNat, Int.reduceAdd, Int.reduceSub, Int.reduceMul, Int.reduceNeg] | refine vIf_t ?_ | refine vIf_f ?_))
    (refine vDraw_sch 5 [(0, false), (1, false), (2, false), (4, false), (3, false)] mixed (by kernel_rfl) ?_; simp only [List.cons_append, List.nil_append, List.map_cons, List.map_nil, nthO_zero, nthO_succ, List.drop_succ_cons, List.drop_zero, List.drop_nil]; (repeat (first | simp (maxSteps := 2000000) (disch := omega) only [go_sem, Nat.reduceEqDiff, Nat.reduceAdd, Nat.reduceMul, Nat.reduceSub, Int.reduceToNat, Int.reduceAdd, Int.reduceSub, Int.reduceMul, Int.reduceNeg] | refine vIf_t ?_ | refine vIf_f ?_)))
    (refine vsCallX_of ?_; (try (repeat (first | simp (maxSteps := 2000000) (disch := omega) only [go_sem, Nat.reduceEqDiff, Nat.reduceAdd, Nat.reduceMul, Nat.reduceSub, Int.reduceToNat, Int.reduceAdd, Int.reduceSub, Int.reduceMul, Int.reduceNeg] | refine vIf_t ?_ | refine vIf_f ?_))); refine vCall_eq (hl1) (by simp (disch := omega) only [go_sem, Nat.reduceAdd]) rfl (by first | exact Or.inl rfl | exact Or.inr ⟨rfl, rfl⟩ | (apply Or.inr; simp only [go_sem])) ?_; (try (repeat (first | simp (maxSteps := 2000000) (disch := omega) only [go_sem, Nat.reduceEqDiff, Nat.reduceAdd, Nat.reduceMul, Nat.reduceSub, Int.reduceToNat, Int.reduceAdd, Int.reduceSub, Int.reduceMul, Int.reduceNeg] | refine vIf_t ?_ | refine vIf_f ?_))))
    (try (repeat (first | simp (maxSteps := 2000000) (disch := omega) only [go_sem, Nat.reduceEqDiff, Nat.reduceAdd, Nat.reduceMul, Nat.reduceSub, Int.reduceToNat, Int.reduceAdd, Int.reduceSub, Int.reduceMul, Int.reduceNeg] | refine vIf_t ?_ | refine vIf_f ?_)))
    (refine vCallX_of ?_; (repeat (first | simp (maxSteps := 2000000) (disch := omega) only [go_sem, Nat.reduceEqDiff, Nat.reduceAdd, Nat.reduceMul, Nat.reduceSub, Int.reduceToNat, Int.reduceAdd, Int.reduceSub, Int.reduceMul, Int.reduceNeg] | refine vIf_t ?_ | refine vIf_f ?_)); refine vCall_eq (hru) (by simp (disch := omega) only [go_sem, Nat.reduceAdd]) rfl (by first | exact Or.inl rfl | exact Or.inr ⟨rfl, rfl⟩ | (apply Or.inr; simp only [go_sem])) ?_; (repeat (first | simp (maxSteps := 2000000) (disch := omega) only [go_sem, Nat.reduceEqDiff, Nat.reduceAdd, Nat.reduceMul, Nat.reduceSub, Int.reduceToNat, Int.reduceAdd, Int.reduceSub, Int.reduceMul, Int.reduceNeg] | refine vIf_t ?_ | refine vIf_f ?_)))
    cases hb : rnW w (lvx c s.vol) s.run with
    | true =>
      refine vIf_t ?_
      obtain ⟨v, hv⟩ : ∃ v, voN rate s.vol (gi xs k) true = v := ⟨_, rfl⟩
      have hv2 : (if 0 < s.vol + gi xs k - rate then s.vol + gi xs k - rate else 0) = v := by rw [← hv]; unfold voN; rw [if_pos rfl]; split <;> split <;> omega
      have hv3 : 0 ≤ v := by rw [← hv2]; split <;> omega
      (try (repeat (first | simp (maxSteps := 2000000) (disch := omega) only [go_sem, Nat.reduceEqDiff, Nat.reduceAdd, Nat.reduceMul, Nat.reduceSub, Int.reduceToNat, Int.reduceAdd, Int.reduceSub, Int.reduceMul, Int.reduceNeg, hv2] | refine vIf_t ?_ | refine vIf_f ?_)))
      (refine vCallX_of ?_; (repeat (first | simp (maxSteps := 2000000) (disch := omega) only [go_sem, Nat.reduceEqDiff, Nat.reduceAdd, Nat.reduceMul, Nat.reduceSub, Int.reduceToNat, Int.reduceAdd, Int.reduceSub, Int.reduceMul, Int.reduceNeg] | refine vIf_t ?_ | refine vIf_f ?_)); refine vCall_eq (hla) (by simp (disch := omega) only [go_sem, Nat.reduceAdd]) rfl (by first | exact Or.inl rfl | exact Or.inr ⟨rfl, rfl⟩ | (apply Or.inr; simp only [go_sem])) ?_; (repeat (first | simp (maxSteps := 2000000) (disch := omega) only [go_sem, Nat.reduceEqDiff, Nat.reduceAdd, Nat.reduceMul, Nat.reduceSub, Int.reduceToNat, Int.reduceAdd, Int.reduceSub, Int.reduceMul, Int.reduceNeg] | refine vIf_t ?_ | refine vIf_f ?_)))
      refine vIf_dec (fun h3 => ?_) (fun h3 => ?_)
      · have e := rnK_none (rnK_step hs (stp_none hb (by rw [hv]; exact h3))) (show k + 1 ≤ xs.length by omega)
        (repeat (first | simp (maxSteps := 2000000) (disch := omega) only [go_sem, Nat.reduceEqDiff, Nat.reduceAdd, Nat.reduceMul, Nat.reduceSub, Int.reduceToNat, Int.reduceAdd, Int.reduceSub, Int.reduceMul, Int.reduceNeg] | refine vIf_t ?_ | refine vIf_f ?_))
        (refine retK_of ?_; (repeat (first | simp (maxSteps := 2000000) (disch := omega) only [go_sem, Nat.reduceEqDiff, Nat.reduceAdd, Nat.reduceMul, Nat.reduceSub, Int.reduceToNat, Int.reduceAdd, Int.reduceSub, Int.reduceMul, Int.reduceNeg] | refine vIf_t ?_ | refine vIf_f ?_)))
        simp [rnH, rnO, rnA, e, cHr_nil]
      · have hl2 := levx_ok c v f (by omega)
        have e := rnK_step hs (stp_some hb hv h3)
        unfold Cv.cells at hl2
        (repeat (first | simp (maxSteps := 2000000) (disch := omega) only [go_sem, Nat.reduceEqDiff, Nat.reduceAdd, Nat.reduceMul, Nat.reduceSub, Int.reduceToNat, Int.reduceAdd, Int.reduceSub, Int.reduceMul, Int.reduceNeg] | refine vIf_t ?_ | refine vIf_f ?_))
        (refine vCallX_of ?_; (repeat (first | simp (maxSteps := 2000000) (disch := omega) only [go_sem, Nat.reduceEqDiff, Nat.reduceAdd, Nat.reduceMul, Nat.reduceSub, Int.reduceToNat, Int.reduceAdd, Int.reduceSub, Int.reduceMul, Int.reduceNeg] | refine vIf_t ?_ | refine vIf_f ?_)); refine vCall_eq (hl2) (by simp (disch := omega) only [go_sem, Nat.reduceAdd]) rfl (by first | exact Or.inl rfl | exact Or.inr ⟨rfl, rfl⟩ | (apply Or.inr; simp only [go_sem])) ?_; (repeat (first | simp (maxSteps := 2000000) (disch := omega) only [go_sem, Nat.reduceEqDiff, Nat.reduceAdd, Nat.reduceMul, Nat.reduceSub, Int.reduceToNat, Int.reduceAdd, Int.reduceSub, Int.reduceMul, Int.reduceNeg] | refine vIf_t ?_ | refine vIf_f ?_)))
        refine againF ((k + 1, ⟨v, true, s.hs ++ [⟨lvx c v, true⟩]⟩)) ?_ ?_ (by (first | (refine leF_s ?_; ((repeat (first | simp (maxSteps := 2000000) (disch := omega) only [go_sem, Nat.reduceEqDiff, Nat.reduceAdd, Nat.reduceMul, Nat.reduceSub, Int.reduceToNat, Int.reduceAdd, Int.reduceSub, Int.reduceMul, Int.reduceNeg] | refine vIf_t ?_ | refine vIf_f ?_)); all_goals (try simp); all_goals (try omega)); done) | (refine leF_p ?_; ((repeat (first | simp (maxSteps := 2000000) (disch := omega) only [go_sem, Nat.reduceEqDiff, Nat.reduceAdd, Nat.reduceMul, Nat.reduceSub, Int.reduceToNat, Int.reduceAdd, Int.reduceSub, Int.reduceMul, Int.reduceNeg] | refine vIf_t ?_ | refine vIf_f ?_)); all_goals (try simp); all_goals (try omega)); done)))
        · exact ⟨by simp only; omega, e⟩
        · simp only; omega
    | false =>
      refine vIf_f ?_
      obtain ⟨v, hv⟩ : ∃ v, voN rate s.vol (gi xs k) false = v := ⟨_, rfl⟩
      have hv2 : s.vol + gi xs k = v := by rw [← hv]; unfold voN; rw [if_neg (by decide)]
      have hv3 : 0 ≤ v := by omega
      (try (repeat (first | simp (maxSteps := 2000000) (disch := omega) only [go_sem, Nat.reduceEqDiff, Nat.reduceAdd, Nat.reduceMul, Nat.reduceSub, Int.reduceToNat, Int.reduceAdd, Int.reduceSub, Int.reduceMul, Int.reduceNeg, hv2] | refine vIf_t ?_ | refine vIf_f ?_)))
      (refine vCallX_of ?_; (repeat (first | simp (maxSteps := 2000000) (disch := omega) only [go_sem, Nat.reduceEqDiff, Nat.reduceAdd, Nat.reduceMul, Nat.reduceSub, Int.reduceToNat, Int.reduceAdd, Int.reduceSub, Int.reduceMul, Int.reduceNeg] | refine vIf_t ?_ | refine vIf_f ?_)); refine vCall_eq (hla) (by simp (disch := omega) only [go_sem, Nat.reduceAdd]) rfl (by first | exact Or.inl rfl | exact Or.inr ⟨rfl, rfl⟩ | (apply Or.inr; simp only [go_sem])) ?_; (repeat (first | simp (maxSteps := 2000000) (disch := omega) only [go_sem, Nat.reduceEqDiff, Nat.reduceAdd, Nat.reduceMul, Nat.reduceSub, Int.reduceToNat, Int.reduceAdd, Int.reduceSub, Int.reduceMul, Int.reduceNeg] | refine vIf_t ?_ | refine vIf_f ?_)))
      refine vIf_dec (fun h3 => ?_) (fun h3 => ?_)
      · have e := rnK_none (rnK_step hs (stp_none hb (by rw [hv]; exact h3))) (show k + 1 ≤ xs.length by omega)
        (repeat (first | simp (maxSteps := 2000000) (disch := omega) only [go_sem, Nat.reduceEqDiff, Nat.reduceAdd, Nat.reduceMul, Nat.reduceSub, Int.reduceToNat, Int.reduceAdd, Int.reduceSub, Int.reduceMul, Int.reduceNeg] | refine vIf_t ?_ | refine vIf_f ?_))
        (refine retK_of ?_; (repeat (first | simp (maxSteps := 2000000) (disch := omega) only [go_sem, Nat.reduceEqDiff, Nat.reduceAdd, Nat.reduceMul, Nat.reduceSub, Int.reduceToNat, Int.reduceAdd, Int.reduceSub, Int.reduceMul, Int.reduceNeg] | refine vIf_t ?_ | refine vIf_f ?_)))
        simp [rnH, rnO, rnA, e, cHr_nil]
      · have hl2 := levx_ok c v f (by omega)
        have e := rnK_step hs (stp_some hb hv h3)
        unfold Cv.cells at hl2
        (repeat (first | simp (maxSteps := 2000000) (disch := omega) only [go_sem, Nat.reduceEqDiff, Nat.reduceAdd, Nat.reduceMul, Nat.reduceSub, Int.reduceToNat, Int.reduceAdd, Int.reduceSub, Int.reduceMul, Int.reduceNeg] | refine vIf_t ?_ | refine vIf_f ?_))
        (refine vCallX_of ?_; (repeat (first | simp (maxSteps := 2000000) (disch := omega) only [go_sem, Nat.reduceEqDiff, Nat.reduceAdd, Nat.reduceMul, Nat.reduceSub, Int.reduceToNat, Int.reduceAdd, Int.reduceSub, Int.reduceMul, Int.reduceNeg] | refine vIf_t ?_ | refine vIf_f ?_)); refine vCall_eq (hl2) (by simp (disch := omega) only [go_sem, Nat.reduceAdd]) rfl (by first | exact Or.inl rfl | exact Or.inr ⟨rfl, rfl⟩ | (apply Or.inr; simp only [go_sem])) ?_; (repeat (first | simp (maxSteps := 2000000) (disch := omega) only [go_sem, Nat.reduceEqDiff, Nat.reduceAdd, Nat.reduceMul, Nat.reduceSub, Int.reduceToNat, Int.reduceAdd, Int.reduceSub, Int.reduceMul, Int.reduceNeg] | refine vIf_t ?_ | refine vIf_f ?_)))
        refine againF ((k + 1, ⟨v, false, s.hs ++ [⟨lvx c v, false⟩]⟩)) ?_ ?_ (by (first | (refine leF_s ?_; ((repeat (first | simp (maxSteps := 2000000) (disch := omega) only [go_sem, Nat.reduceEqDiff, Nat.reduceAdd, Nat.reduceMul, Nat.reduceSub, Int.reduceToNat, Int.reduceAdd, Int.reduceSub, Int.reduceMul, Int.reduceNeg] | refine vIf_t ?_ | refine vIf_f ?_)); all_goals (try simp); all_goals (try omega)); done) | (refine leF_p ?_; ((repeat (first | simp (maxSteps := 2000000) (disch := omega) only [go_sem, Nat.reduceEqDiff, Nat.reduceAdd, Nat.reduceMul, Nat.reduceSub, Int.reduceToNat, Int.reduceAdd, Int.reduceSub, Int.reduceMul, Int.reduceNeg] | refine vIf_t ?_ | refine vIf_f ?_)); all_goals (try simp); all_goals (try omega)); done)))
        · exact ⟨by simp only; omega, e⟩
        · simp only; omega
  · have ek : k = xs.length := by omega
    subst ek
    have e : rnA c w vol rate xs = some s := hs
    (repeat (first | simp (maxSteps := 2000000) (disch := omega) only [go_sem, Nat.reduceEqDiff, Nat.reduceAdd, Nat.reduceMul, Nat.reduceSub, Int.reduceToNat, Int.reduceAdd, Int.reduceSub, Int.reduceMul, Int.reduceNeg] | refine vIf_t ?_ | refine vIf_f ?_))
    (refine retK_of ?_; (repeat (first | simp (maxSteps := 2000000) (disch := omega) only [go_sem, Nat.reduceEqDiff, Nat.reduceAdd, Nat.reduceMul, Nat.reduceSub, Int.reduceToNat, Int.reduceAdd, Int.reduceSub, Int.reduceMul, Int.reduceNeg] | refine vIf_t ?_ | refine vIf_f ?_)))
    simp [rnH, rnO, e]
end Go.Proofs.YtnphbdcdncmojaaDoor

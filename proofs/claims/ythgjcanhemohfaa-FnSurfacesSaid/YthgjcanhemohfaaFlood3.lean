/- lands: floods: the program's walk -/
import Derived.Test.YthgjcanhemohfaaFlood2
import Derived.Test.YthgjcanhemohfaaArgs
set_option linter.unusedVariables false
set_option linter.unusedSimpArgs false
namespace Go.Proofs.Ythgjcanhemohfaa
open Go.AG

set_option maxRecDepth 100000 in
set_option maxHeartbeats 8000000 in
theorem flooded_ok (l : Ld) (c lv : Int) (hok : okL l = true) (hc : inC l c) :
    ACalls Try.prog 167 [.agg (lC l), I c, I lv, .sl 0 []] [] (fun r o => r = .ref 0 0 l.hs.length ∧ o = [some ⟨1, bls (wet l c lv)⟩]) := by
  refine ACalls.of_vc Try.func167 rfl (by decide) 82 rfl [.tmp 8] rfl (by simp) ?_
  have hcl := Cl.of2 hok hc
  have hfs := hcl.fs
  have hcb : 0 ≤ c ∧ c ≤ (l.hs.length : Int) - 1 := hc
  have hs : (List.replicate l.hs.length false).length = l.hs.length := by simp
  have hh0 := fun n => hasI_ok [] n (by simp)
  unfold iS at hh0
  unfold lC
  (repeat (first | simp (maxSteps := 2000000) (disch := omega) only [go_sem, ↓reduceIte, Nat.reduceEqDiff, Nat.reduceAdd, Nat.reduceMul, Nat.reduceSub, Int.reduceToNat, Int.reduceAdd, Int.reduceSub, Int.reduceMul, Int.reduceNeg] | with_reducible refine vIf_t ?_ | with_reducible refine vIf_f ?_))
  by_cases hlow : gi l.hs c.toNat < lv
  rotate_left
  · have hb : decide (lv ≤ gi l.hs c.toNat) = true := decide_eq_true (by omega)
    (repeat (first | simp (maxSteps := 2000000) (disch := omega) only [go_sem, ↓reduceIte, Nat.reduceEqDiff, Nat.reduceAdd, Nat.reduceMul, Nat.reduceSub, Int.reduceToNat, Int.reduceAdd, Int.reduceSub, Int.reduceMul, Int.reduceNeg, hb] | with_reducible refine vIf_t ?_ | with_reducible refine vIf_f ?_))
    (refine retK_of ?_; (repeat (first | simp (maxSteps := 2000000) (disch := omega) only [go_sem, ↓reduceIte, Nat.reduceEqDiff, Nat.reduceAdd, Nat.reduceMul, Nat.reduceSub, Int.reduceToNat, Int.reduceAdd, Int.reduceSub, Int.reduceMul, Int.reduceNeg] | with_reducible refine vIf_t ?_ | with_reducible refine vIf_f ?_)))
    rw [wet, if_neg hlow]
  have hb : decide (lv ≤ gi l.hs c.toNat) = false := decide_eq_false (by omega)
  (repeat (first | simp (maxSteps := 2000000) (disch := omega) only [go_sem, ↓reduceIte, Nat.reduceEqDiff, Nat.reduceAdd, Nat.reduceMul, Nat.reduceSub, Int.reduceToNat, Int.reduceAdd, Int.reduceSub, Int.reduceMul, Int.reduceNeg, hb] | with_reducible refine vIf_t ?_ | with_reducible refine vIf_f ?_))
  have hn0 : decide (c ∈ ([] : List Int)) = false := by simp
  (refine vCallX_of ?_; (repeat (first | simp (maxSteps := 2000000) (disch := omega) only [go_sem, ↓reduceIte, Nat.reduceEqDiff, Nat.reduceAdd, Nat.reduceMul, Nat.reduceSub, Int.reduceToNat, Int.reduceAdd, Int.reduceSub, Int.reduceMul, Int.reduceNeg] | with_reducible refine vIf_t ?_ | with_reducible refine vIf_f ?_)); refine vCall_eq (hh0 c) (by simp (disch := omega) only [go_sem, Nat.reduceAdd]) rfl (by first | exact Or.inl rfl | exact Or.inr ⟨rfl, rfl⟩ | (apply Or.inr; simp only [go_sem])) ?_; (repeat (first | simp (maxSteps := 2000000) (disch := omega) only [go_sem, ↓reduceIte, Nat.reduceEqDiff, Nat.reduceAdd, Nat.reduceMul, Nat.reduceSub, Int.reduceToNat, Int.reduceAdd, Int.reduceSub, Int.reduceMul, Int.reduceNeg] | with_reducible refine vIf_t ?_ | with_reducible refine vIf_f ?_)))
  (try (repeat (first | simp (maxSteps := 2000000) (disch := omega) only [go_sem, ↓reduceIte, Nat.reduceEqDiff, Nat.reduceAdd, Nat.reduceMul, Nat.reduceSub, Int.reduceToNat, Int.reduceAdd, Int.reduceSub, Int.reduceMul, Int.reduceNeg, hb, hn0] | with_reducible refine vIf_t ?_ | with_reducible refine vIf_f ?_)))
  obtain ⟨s, hsd⟩ : ∃ s, s = List.replicate l.hs.length false := ⟨_, rfl⟩
  have hwet : wet l c lv = (bfE l lv s c).1 := by rw [wet, if_pos hlow, hsd]
  simp only [← hsd] at hs ⊢
  refine vcLoop_inv (fun i : Nat => i ≤ (bfK l lv s c i).2.length) (fun i => ⟨82, 0, [(10, .ref 2 0 (bfK l lv s c i).2.length), (9, .ref 1 0 s.length), (3, .sl 0 []), (2, I lv), (4, .ptr 0 0), (11, I i)], [some ⟨3, lC l⟩, some ⟨1, bls (bfK l lv s c i).1⟩, oI (bfK l lv s c i).2]⟩) (fun i => l.hs.length + 2 - i) 0 (by simp [bfK]) (by (repeat (first | simp (maxSteps := 2000000) (disch := omega) only [go_sem, ↓reduceIte, Nat.reduceEqDiff, Nat.reduceAdd, Nat.reduceMul, Nat.reduceSub, Int.reduceToNat, Int.reduceAdd, Int.reduceSub, Int.reduceMul, Int.reduceNeg, lC, bfK, hs] | with_reducible refine vIf_t ?_ | with_reducible refine vIf_f ?_)); all_goals (try simp)) ?_
  intro i hi
  obtain ⟨hlL, hlS⟩ := bfK_len (lv := lv) hok hc hs i
  have hin := (bfK_ok (lv := lv) hok hc hs i).ins
  unfold lC oI
  (repeat (first | simp (maxSteps := 2000000) (disch := omega) only [go_sem, ↓reduceIte, Nat.reduceEqDiff, Nat.reduceAdd, Nat.reduceMul, Nat.reduceSub, Int.reduceToNat, Int.reduceAdd, Int.reduceSub, Int.reduceMul, Int.reduceNeg] | with_reducible refine vIf_t ?_ | with_reducible refine vIf_f ?_))
  refine vIf_dec (fun h1 => ?_) (fun h1 => ?_)
  · have hil : i < (bfK l lv s c i).2.length := by omega
    have hat := bfR_at (lv := lv) hok hc hs i hil
    have hci := hin _ (gi_mem _ _ hil)
    have hn := next_ok l (gi (bfK l lv s c i).2 i) (Cl.of2 hok hci)
    have hnl := nearK_len l (gi (bfK l lv s c i).2 i) 4
    have hnin := near_in l hok _ hci
    have hstep : bfK l lv s c (i + 1) = bfR l lv (bfK l lv s c i) (near l (gi (bfK l lv s c i).2 i)) := by
      show (if i < (bfK l lv s c i).2.length then _ else _) = _
      rw [if_pos hil]
    unfold lC at hn
    (repeat (first | simp (maxSteps := 2000000) (disch := omega) only [go_sem, ↓reduceIte, Nat.reduceEqDiff, Nat.reduceAdd, Nat.reduceMul, Nat.reduceSub, Int.reduceToNat, Int.reduceAdd, Int.reduceSub, Int.reduceMul, Int.reduceNeg] | with_reducible refine vIf_t ?_ | with_reducible refine vIf_f ?_))
    (refine vDraw_sch 8 [(0, false), (1, false), (2, false), (3, false), (4, false), (7, false), (5, false), (6, false)] mixed (by kernel_rfl) ?_; simp only [List.cons_append, List.nil_append, List.map_cons, List.map_nil, nthO_zero, nthO_succ, List.drop_succ_cons, List.drop_zero, List.drop_nil]; (repeat (first | simp (maxSteps := 2000000) (disch := omega) only [go_sem, ↓reduceIte, Nat.reduceEqDiff, Nat.reduceAdd, Nat.reduceMul, Nat.reduceSub, Int.reduceToNat, Int.reduceAdd, Int.reduceSub, Int.reduceMul, Int.reduceNeg] | with_reducible refine vIf_t ?_ | with_reducible refine vIf_f ?_)))
    (refine vsCallX_of ?_; (try (repeat (first | simp (maxSteps := 2000000) (disch := omega) only [go_sem, ↓reduceIte, Nat.reduceEqDiff, Nat.reduceAdd, Nat.reduceMul, Nat.reduceSub, Int.reduceToNat, Int.reduceAdd, Int.reduceSub, Int.reduceMul, Int.reduceNeg] | with_reducible refine vIf_t ?_ | with_reducible refine vIf_f ?_))); refine vCall_eq (hn) (by simp (disch := omega) only [go_sem, Nat.reduceAdd]) rfl (by first | exact Or.inl rfl | exact Or.inr ⟨rfl, rfl⟩ | (apply Or.inr; simp only [go_sem])) ?_; (try (repeat (first | simp (maxSteps := 2000000) (disch := omega) only [go_sem, ↓reduceIte, Nat.reduceEqDiff, Nat.reduceAdd, Nat.reduceMul, Nat.reduceSub, Int.reduceToNat, Int.reduceAdd, Int.reduceSub, Int.reduceMul, Int.reduceNeg] | with_reducible refine vIf_t ?_ | with_reducible refine vIf_f ?_))))
    obtain ⟨a, ha⟩ : ∃ a, a = bfK l lv s c i := ⟨_, rfl⟩
    simp only [← ha] at hat hnin hstep hnl ⊢
    obtain ⟨xs, hxs⟩ : ∃ xs, xs = near l (gi a.2 i) := ⟨_, rfl⟩
    have hxl : xs.length ≤ 4 := by rw [hxs]; exact hnl
    simp only [← hxs] at hat hnin hstep ⊢
    refine vcLoop_inv (fun k : Nat => k ≤ xs.length) (fun k => ⟨82, 0, [(49, I k), (48, I xs.length), (47, .ref 3 0 xs.length), (10, .ref 2 0 (bfR l lv a (xs.take k)).2.length), (9, .ref 1 0 s.length), (3, .sl 0 []), (2, I lv), (4, .ptr 0 0), (11, I i)], [some ⟨3, lC l⟩, some ⟨1, bls (bfR l lv a (xs.take k)).1⟩, oI (bfR l lv a (xs.take k)).2, oI xs]⟩) (fun k => xs.length - k) 0 (by omega) (by (repeat (first | simp (maxSteps := 2000000) (disch := omega) only [go_sem, ↓reduceIte, Nat.reduceEqDiff, Nat.reduceAdd, Nat.reduceMul, Nat.reduceSub, Int.reduceToNat, Int.reduceAdd, Int.reduceSub, Int.reduceMul, Int.reduceNeg, lC, bfR] | with_reducible refine vIf_t ?_ | with_reducible refine vIf_f ?_)); all_goals (try simp)) ?_
    intro k hk
    obtain ⟨hbl, hbL⟩ := hat k
    obtain ⟨b, hb2⟩ : ∃ b, b = bfR l lv a (xs.take k) := ⟨_, rfl⟩
    unfold lC oI
    simp only [← hb2] at hbl hbL ⊢
    (repeat (first | simp (maxSteps := 2000000) (disch := omega) only [go_sem, ↓reduceIte, Nat.reduceEqDiff, Nat.reduceAdd, Nat.reduceMul, Nat.reduceSub, Int.reduceToNat, Int.reduceAdd, Int.reduceSub, Int.reduceMul, Int.reduceNeg] | with_reducible refine vIf_t ?_ | with_reducible refine vIf_f ?_))
    refine vIf_dec (fun h2 => ?_) (fun h2 => ?_)
    · have hkl : k < xs.length := by omega
      have hx : inC l (gi xs k) := hnin _ (gi_mem _ _ hkl)
      have hxb : 0 ≤ gi xs k ∧ gi xs k ≤ (l.hs.length : Int) - 1 := hx
      have e := bfR_snoc l lv a xs k hkl
      rw [← hb2] at e
      (repeat (first | simp (maxSteps := 2000000) (disch := omega) only [go_sem, ↓reduceIte, Nat.reduceEqDiff, Nat.reduceAdd, Nat.reduceMul, Nat.reduceSub, Int.reduceToNat, Int.reduceAdd, Int.reduceSub, Int.reduceMul, Int.reduceNeg] | with_reducible refine vIf_t ?_ | with_reducible refine vIf_f ?_))
      cases hg : gb b.1 (gi xs k).toNat with
      | true =>
        rw [bfS_no1 hg] at e
        (repeat (first | simp (maxSteps := 2000000) (disch := omega) only [go_sem, ↓reduceIte, Nat.reduceEqDiff, Nat.reduceAdd, Nat.reduceMul, Nat.reduceSub, Int.reduceToNat, Int.reduceAdd, Int.reduceSub, Int.reduceMul, Int.reduceNeg, hg] | with_reducible refine vIf_t ?_ | with_reducible refine vIf_f ?_))
        refine again (k + 1) (by omega) (by omega) ?_
        rw [e]
        (repeat (first | simp (maxSteps := 2000000) (disch := omega) only [go_sem, ↓reduceIte, Nat.reduceEqDiff, Nat.reduceAdd, Nat.reduceMul, Nat.reduceSub, Int.reduceToNat, Int.reduceAdd, Int.reduceSub, Int.reduceMul, Int.reduceNeg, lC] | with_reducible refine vIf_t ?_ | with_reducible refine vIf_f ?_))
      | false =>
        by_cases h3 : gi l.hs (gi xs k).toNat < lv
        · have h3b : decide (gi l.hs (gi xs k).toNat < lv) = true := decide_eq_true h3
          have hnn : decide (gi xs k ∈ ([] : List Int)) = false := by simp
          rw [bfS_yes hg h3] at e
          (repeat (first | simp (maxSteps := 2000000) (disch := omega) only [go_sem, ↓reduceIte, Nat.reduceEqDiff, Nat.reduceAdd, Nat.reduceMul, Nat.reduceSub, Int.reduceToNat, Int.reduceAdd, Int.reduceSub, Int.reduceMul, Int.reduceNeg, hg, h3b] | with_reducible refine vIf_t ?_ | with_reducible refine vIf_f ?_))
          (refine vCallX_of ?_; (repeat (first | simp (maxSteps := 2000000) (disch := omega) only [go_sem, ↓reduceIte, Nat.reduceEqDiff, Nat.reduceAdd, Nat.reduceMul, Nat.reduceSub, Int.reduceToNat, Int.reduceAdd, Int.reduceSub, Int.reduceMul, Int.reduceNeg] | with_reducible refine vIf_t ?_ | with_reducible refine vIf_f ?_)); refine vCall_eq (hh0 (gi xs k)) (by simp (disch := omega) only [go_sem, Nat.reduceAdd]) rfl (by first | exact Or.inl rfl | exact Or.inr ⟨rfl, rfl⟩ | (apply Or.inr; simp only [go_sem])) ?_; (repeat (first | simp (maxSteps := 2000000) (disch := omega) only [go_sem, ↓reduceIte, Nat.reduceEqDiff, Nat.reduceAdd, Nat.reduceMul, Nat.reduceSub, Int.reduceToNat, Int.reduceAdd, Int.reduceSub, Int.reduceMul, Int.reduceNeg] | with_reducible refine vIf_t ?_ | with_reducible refine vIf_f ?_)))
          (repeat (first | simp (maxSteps := 2000000) (disch := omega) only [go_sem, ↓reduceIte, Nat.reduceEqDiff, Nat.reduceAdd, Nat.reduceMul, Nat.reduceSub, Int.reduceToNat, Int.reduceAdd, Int.reduceSub, Int.reduceMul, Int.reduceNeg, hg, h3b, hnn] | with_reducible refine vIf_t ?_ | with_reducible refine vIf_f ?_))
          refine again (k + 1) (by omega) (by omega) ?_
          rw [e]
          (repeat (first | simp (maxSteps := 2000000) (disch := omega) only [go_sem, ↓reduceIte, Nat.reduceEqDiff, Nat.reduceAdd, Nat.reduceMul, Nat.reduceSub, Int.reduceToNat, Int.reduceAdd, Int.reduceSub, Int.reduceMul, Int.reduceNeg, lC] | with_reducible refine vIf_t ?_ | with_reducible refine vIf_f ?_))
        · have h3b : decide (gi l.hs (gi xs k).toNat < lv) = false := decide_eq_false h3
          rw [bfS_no2 h3] at e
          (repeat (first | simp (maxSteps := 2000000) (disch := omega) only [go_sem, ↓reduceIte, Nat.reduceEqDiff, Nat.reduceAdd, Nat.reduceMul, Nat.reduceSub, Int.reduceToNat, Int.reduceAdd, Int.reduceSub, Int.reduceMul, Int.reduceNeg, hg, h3b] | with_reducible refine vIf_t ?_ | with_reducible refine vIf_f ?_))
          refine again (k + 1) (by omega) (by omega) ?_
          rw [e]
          (repeat (first | simp (maxSteps := 2000000) (disch := omega) only [go_sem, ↓reduceIte, Nat.reduceEqDiff, Nat.reduceAdd, Nat.reduceMul, Nat.reduceSub, Int.reduceToNat, Int.reduceAdd, Int.reduceSub, Int.reduceMul, Int.reduceNeg, lC] | with_reducible refine vIf_t ?_ | with_reducible refine vIf_f ?_))
    · have e : k = xs.length := by omega
      subst e
      rw [List.take_length, ← hstep] at hb2
      (repeat (first | simp (maxSteps := 2000000) (disch := omega) only [go_sem, ↓reduceIte, Nat.reduceEqDiff, Nat.reduceAdd, Nat.reduceMul, Nat.reduceSub, Int.reduceToNat, Int.reduceAdd, Int.reduceSub, Int.reduceMul, Int.reduceNeg] | with_reducible refine vIf_t ?_ | with_reducible refine vIf_f ?_))
      refine again (i + 1) ?_ (by omega) ?_
      · exact bfK_mono hil
      · rw [← hb2]
        (repeat (first | simp (maxSteps := 2000000) (disch := omega) only [go_sem, ↓reduceIte, Nat.reduceEqDiff, Nat.reduceAdd, Nat.reduceMul, Nat.reduceSub, Int.reduceToNat, Int.reduceAdd, Int.reduceSub, Int.reduceMul, Int.reduceNeg, lC] | with_reducible refine vIf_t ?_ | with_reducible refine vIf_f ?_))
  · have e := bfE_eq hok hc hs (i := i) (lv := lv) (by omega)
    (repeat (first | simp (maxSteps := 2000000) (disch := omega) only [go_sem, ↓reduceIte, Nat.reduceEqDiff, Nat.reduceAdd, Nat.reduceMul, Nat.reduceSub, Int.reduceToNat, Int.reduceAdd, Int.reduceSub, Int.reduceMul, Int.reduceNeg] | with_reducible refine vIf_t ?_ | with_reducible refine vIf_f ?_))
    (refine retK_of ?_; (repeat (first | simp (maxSteps := 2000000) (disch := omega) only [go_sem, ↓reduceIte, Nat.reduceEqDiff, Nat.reduceAdd, Nat.reduceMul, Nat.reduceSub, Int.reduceToNat, Int.reduceAdd, Int.reduceSub, Int.reduceMul, Int.reduceNeg] | with_reducible refine vIf_t ?_ | with_reducible refine vIf_f ?_)))
    rw [hwet, e]
    all_goals (try simp)
    exact hs
/-- how deep the water is -/
def dpt (l : Ld) (c lv : Int) (k : Nat) : Int := if gb (wet l c lv) k = true then lv - gi l.hs k else 0
def dpts (l : Ld) (c lv : Int) (n : Nat) : List Int := (List.range n).map (dpt l c lv)
theorem dpts_len (l : Ld) (c lv : Int) (n : Nat) : (dpts l c lv n).length = n := by simp [dpts]
theorem dpts_succ (l : Ld) (c lv : Int) (n : Nat) : dpts l c lv (n + 1) = dpts l c lv n ++ [dpt l c lv n] := by simp [dpts, List.range_succ]
theorem wet_len (l : Ld) (c lv : Int) (hok : okL l = true) (hc : inC l c) : (wet l c lv).length = l.hs.length := by
  unfold wet
  split
  · exact (bfK_len hok hc (by simp) _).2
  · simp
set_option maxHeartbeats 4000000 in
theorem l11Depths_ok (l : Ld) (c lv : Int) (hok : okL l = true) (hc : inC l c) (hlv : lvC lv) :
    ACalls Try.prog 125 [.ip (lC l) 0, I c, I lv] [] (fun r o => r = .ref 0 0 l.hs.length ∧ o = [oI (dpts l c lv l.hs.length)]) := by
  refine ACalls.of_vc Try.func125 rfl (by decide) 40 rfl [.tmp 6] rfl (by simp) ?_
  have hcl := Cl.of2 hok hc
  have hfs := hcl.fs
  have hw := l11Wet_ok l c lv hok hc
  have hwl := wet_len l c lv hok hc
  have hlv' : -2000 ≤ lv ∧ lv ≤ 2000 := hlv
  unfold lC at hw ⊢
  (repeat (first | simp (maxSteps := 2000000) (disch := omega) only [go_sem, ↓reduceIte, Nat.reduceEqDiff, Nat.reduceAdd, Nat.reduceMul, Nat.reduceSub, Int.reduceToNat, Int.reduceAdd, Int.reduceSub, Int.reduceMul, Int.reduceNeg] | with_reducible refine vIf_t ?_ | with_reducible refine vIf_f ?_))
  (refine vCallX_of ?_; (repeat (first | simp (maxSteps := 2000000) (disch := omega) only [go_sem, ↓reduceIte, Nat.reduceEqDiff, Nat.reduceAdd, Nat.reduceMul, Nat.reduceSub, Int.reduceToNat, Int.reduceAdd, Int.reduceSub, Int.reduceMul, Int.reduceNeg] | with_reducible refine vIf_t ?_ | with_reducible refine vIf_f ?_)); refine vCall_eq (hw) (by simp (disch := omega) only [go_sem, Nat.reduceAdd]) rfl (by first | exact Or.inl rfl | exact Or.inr ⟨rfl, rfl⟩ | (apply Or.inr; simp only [go_sem])) ?_; (repeat (first | simp (maxSteps := 2000000) (disch := omega) only [go_sem, ↓reduceIte, Nat.reduceEqDiff, Nat.reduceAdd, Nat.reduceMul, Nat.reduceSub, Int.reduceToNat, Int.reduceAdd, Int.reduceSub, Int.reduceMul, Int.reduceNeg] | with_reducible refine vIf_t ?_ | with_reducible refine vIf_f ?_)))
  refine vcLoop_inv (fun i : Nat => i ≤ l.hs.length) (fun i => ⟨40, 0, [(9, I i), (8, .ref 1 0 i), (7, .ref 0 0 l.hs.length), (2, I lv), (0, .ip (lC l) 0)], [some ⟨1, bls (wet l c lv)⟩, oI (dpts l c lv i)]⟩) (fun i => l.hs.length - i) 0 (by omega) (by (repeat (first | simp (maxSteps := 2000000) (disch := omega) only [go_sem, ↓reduceIte, Nat.reduceEqDiff, Nat.reduceAdd, Nat.reduceMul, Nat.reduceSub, Int.reduceToNat, Int.reduceAdd, Int.reduceSub, Int.reduceMul, Int.reduceNeg, lC] | with_reducible refine vIf_t ?_ | with_reducible refine vIf_f ?_)); simp [dpts]) ?_
  intro i hi
  have hdl := dpts_len l c lv i
  unfold lC oI
  (repeat (first | simp (maxSteps := 2000000) (disch := omega) only [go_sem, ↓reduceIte, Nat.reduceEqDiff, Nat.reduceAdd, Nat.reduceMul, Nat.reduceSub, Int.reduceToNat, Int.reduceAdd, Int.reduceSub, Int.reduceMul, Int.reduceNeg] | with_reducible refine vIf_t ?_ | with_reducible refine vIf_f ?_))
  refine vIf_dec (fun h1 => ?_) (fun h1 => ?_)
  · have hil : i < l.hs.length := by omega
    have hh := okL_h hok i hil
    (repeat (first | simp (maxSteps := 2000000) (disch := omega) only [go_sem, ↓reduceIte, Nat.reduceEqDiff, Nat.reduceAdd, Nat.reduceMul, Nat.reduceSub, Int.reduceToNat, Int.reduceAdd, Int.reduceSub, Int.reduceMul, Int.reduceNeg] | with_reducible refine vIf_t ?_ | with_reducible refine vIf_f ?_))
    refine vIf_bool (fun h2 => ?_) (fun h2 => ?_)
    · have e : dpt l c lv i = lv - gi l.hs i := if_pos h2
      (repeat (first | simp (maxSteps := 2000000) (disch := omega) only [go_sem, ↓reduceIte, Nat.reduceEqDiff, Nat.reduceAdd, Nat.reduceMul, Nat.reduceSub, Int.reduceToNat, Int.reduceAdd, Int.reduceSub, Int.reduceMul, Int.reduceNeg] | with_reducible refine vIf_t ?_ | with_reducible refine vIf_f ?_))
      refine again (i + 1) (by omega) (by omega) ?_
      rw [dpts_succ, e]
      (repeat (first | simp (maxSteps := 2000000) (disch := omega) only [go_sem, ↓reduceIte, Nat.reduceEqDiff, Nat.reduceAdd, Nat.reduceMul, Nat.reduceSub, Int.reduceToNat, Int.reduceAdd, Int.reduceSub, Int.reduceMul, Int.reduceNeg, lC] | with_reducible refine vIf_t ?_ | with_reducible refine vIf_f ?_))
    · have e : dpt l c lv i = 0 := if_neg (by rw [h2]; simp)
      (repeat (first | simp (maxSteps := 2000000) (disch := omega) only [go_sem, ↓reduceIte, Nat.reduceEqDiff, Nat.reduceAdd, Nat.reduceMul, Nat.reduceSub, Int.reduceToNat, Int.reduceAdd, Int.reduceSub, Int.reduceMul, Int.reduceNeg] | with_reducible refine vIf_t ?_ | with_reducible refine vIf_f ?_))
      refine again (i + 1) (by omega) (by omega) ?_
      rw [dpts_succ, e]
      (repeat (first | simp (maxSteps := 2000000) (disch := omega) only [go_sem, ↓reduceIte, Nat.reduceEqDiff, Nat.reduceAdd, Nat.reduceMul, Nat.reduceSub, Int.reduceToNat, Int.reduceAdd, Int.reduceSub, Int.reduceMul, Int.reduceNeg, lC] | with_reducible refine vIf_t ?_ | with_reducible refine vIf_f ?_))
  · have e : i = l.hs.length := by omega
    subst e
    (repeat (first | simp (maxSteps := 2000000) (disch := omega) only [go_sem, ↓reduceIte, Nat.reduceEqDiff, Nat.reduceAdd, Nat.reduceMul, Nat.reduceSub, Int.reduceToNat, Int.reduceAdd, Int.reduceSub, Int.reduceMul, Int.reduceNeg] | with_reducible refine vIf_t ?_ | with_reducible refine vIf_f ?_))
    (refine retK_of ?_; (repeat (first | simp (maxSteps := 2000000) (disch := omega) only [go_sem, ↓reduceIte, Nat.reduceEqDiff, Nat.reduceAdd, Nat.reduceMul, Nat.reduceSub, Int.reduceToNat, Int.reduceAdd, Int.reduceSub, Int.reduceMul, Int.reduceNeg] | with_reducible refine vIf_t ?_ | with_reducible refine vIf_f ?_)))
set_option maxHeartbeats 4000000 in
theorem depths_ok (l : Ld) (c lv : Int) (hok : okL l = true) (hc : inC l c) (hlv : lvC lv) :
    ACalls Try.prog 124 [.agg (lC l), I c, I lv] [] (fun r o => r = .ref 0 0 l.hs.length ∧ o = [oI (dpts l c lv l.hs.length)]) := by
  refine ACalls.of_vc Try.func124 rfl (by decide) 36 rfl [.tmp 6] rfl (by simp) ?_
  have hcl := Cl.of2 hok hc
  have hfs := hcl.fs
  have hw := (flooded_ok l c lv hok hc).arg (leA_same _ (leA_same _ (leA_same _ (leA_nilS leA_nil))))
  have hwl := wet_len l c lv hok hc
  have hlv' : -2000 ≤ lv ∧ lv ≤ 2000 := hlv
  unfold lC at hw ⊢
  (repeat (first | simp (maxSteps := 2000000) (disch := omega) only [go_sem, ↓reduceIte, Nat.reduceEqDiff, Nat.reduceAdd, Nat.reduceMul, Nat.reduceSub, Int.reduceToNat, Int.reduceAdd, Int.reduceSub, Int.reduceMul, Int.reduceNeg] | with_reducible refine vIf_t ?_ | with_reducible refine vIf_f ?_))
  (refine vCallX_of ?_; (repeat (first | simp (maxSteps := 2000000) (disch := omega) only [go_sem, ↓reduceIte, Nat.reduceEqDiff, Nat.reduceAdd, Nat.reduceMul, Nat.reduceSub, Int.reduceToNat, Int.reduceAdd, Int.reduceSub, Int.reduceMul, Int.reduceNeg] | with_reducible refine vIf_t ?_ | with_reducible refine vIf_f ?_)); refine vCall_eq (hw) (by simp (disch := omega) only [go_sem, Nat.reduceAdd]) rfl (by first | exact Or.inl rfl | exact Or.inr ⟨rfl, rfl⟩ | (apply Or.inr; simp only [go_sem])) ?_; (repeat (first | simp (maxSteps := 2000000) (disch := omega) only [go_sem, ↓reduceIte, Nat.reduceEqDiff, Nat.reduceAdd, Nat.reduceMul, Nat.reduceSub, Int.reduceToNat, Int.reduceAdd, Int.reduceSub, Int.reduceMul, Int.reduceNeg] | with_reducible refine vIf_t ?_ | with_reducible refine vIf_f ?_)))
  refine vcLoop_inv (fun i : Nat => i ≤ l.hs.length) (fun i => ⟨36, 0, [(17, I i), (7, .ref 1 0 i), (3, .ptr 0 0), (2, I lv), (15, .ref 2 0 l.hs.length), (16, I l.hs.length)], [some ⟨3, lC l⟩, oI (dpts l c lv i), some ⟨1, bls (wet l c lv)⟩]⟩) (fun i => l.hs.length - i) 0 (by omega) (by (repeat (first | simp (maxSteps := 2000000) (disch := omega) only [go_sem, ↓reduceIte, Nat.reduceEqDiff, Nat.reduceAdd, Nat.reduceMul, Nat.reduceSub, Int.reduceToNat, Int.reduceAdd, Int.reduceSub, Int.reduceMul, Int.reduceNeg, lC] | with_reducible refine vIf_t ?_ | with_reducible refine vIf_f ?_)); simp [dpts]) ?_
  intro i hi
  have hdl := dpts_len l c lv i
  unfold lC oI
  (repeat (first | simp (maxSteps := 2000000) (disch := omega) only [go_sem, ↓reduceIte, Nat.reduceEqDiff, Nat.reduceAdd, Nat.reduceMul, Nat.reduceSub, Int.reduceToNat, Int.reduceAdd, Int.reduceSub, Int.reduceMul, Int.reduceNeg] | with_reducible refine vIf_t ?_ | with_reducible refine vIf_f ?_))
  refine vIf_dec (fun h1 => ?_) (fun h1 => ?_)
  · have hil : i < l.hs.length := by omega
    have hh := okL_h hok i hil
    (repeat (first | simp (maxSteps := 2000000) (disch := omega) only [go_sem, ↓reduceIte, Nat.reduceEqDiff, Nat.reduceAdd, Nat.reduceMul, Nat.reduceSub, Int.reduceToNat, Int.reduceAdd, Int.reduceSub, Int.reduceMul, Int.reduceNeg] | with_reducible refine vIf_t ?_ | with_reducible refine vIf_f ?_))
    refine vIf_bool (fun h2 => ?_) (fun h2 => ?_)
    · have e : dpt l c lv i = lv - gi l.hs i := if_pos h2
      (repeat (first | simp (maxSteps := 2000000) (disch := omega) only [go_sem, ↓reduceIte, Nat.reduceEqDiff, Nat.reduceAdd, Nat.reduceMul, Nat.reduceSub, Int.reduceToNat, Int.reduceAdd, Int.reduceSub, Int.reduceMul, Int.reduceNeg] | with_reducible refine vIf_t ?_ | with_reducible refine vIf_f ?_))
      refine again (i + 1) (by omega) (by omega) ?_
      rw [dpts_succ, e]
      (repeat (first | simp (maxSteps := 2000000) (disch := omega) only [go_sem, ↓reduceIte, Nat.reduceEqDiff, Nat.reduceAdd, Nat.reduceMul, Nat.reduceSub, Int.reduceToNat, Int.reduceAdd, Int.reduceSub, Int.reduceMul, Int.reduceNeg, lC] | with_reducible refine vIf_t ?_ | with_reducible refine vIf_f ?_))
    · have e : dpt l c lv i = 0 := if_neg (by rw [h2]; simp)
      (repeat (first | simp (maxSteps := 2000000) (disch := omega) only [go_sem, ↓reduceIte, Nat.reduceEqDiff, Nat.reduceAdd, Nat.reduceMul, Nat.reduceSub, Int.reduceToNat, Int.reduceAdd, Int.reduceSub, Int.reduceMul, Int.reduceNeg] | with_reducible refine vIf_t ?_ | with_reducible refine vIf_f ?_))
      refine again (i + 1) (by omega) (by omega) ?_
      rw [dpts_succ, e]
      (repeat (first | simp (maxSteps := 2000000) (disch := omega) only [go_sem, ↓reduceIte, Nat.reduceEqDiff, Nat.reduceAdd, Nat.reduceMul, Nat.reduceSub, Int.reduceToNat, Int.reduceAdd, Int.reduceSub, Int.reduceMul, Int.reduceNeg, lC] | with_reducible refine vIf_t ?_ | with_reducible refine vIf_f ?_))
  · have e : i = l.hs.length := by omega
    subst e
    (repeat (first | simp (maxSteps := 2000000) (disch := omega) only [go_sem, ↓reduceIte, Nat.reduceEqDiff, Nat.reduceAdd, Nat.reduceMul, Nat.reduceSub, Int.reduceToNat, Int.reduceAdd, Int.reduceSub, Int.reduceMul, Int.reduceNeg] | with_reducible refine vIf_t ?_ | with_reducible refine vIf_f ?_))
    (refine retK_of ?_; (repeat (first | simp (maxSteps := 2000000) (disch := omega) only [go_sem, ↓reduceIte, Nat.reduceEqDiff, Nat.reduceAdd, Nat.reduceMul, Nat.reduceSub, Int.reduceToNat, Int.reduceAdd, Int.reduceSub, Int.reduceMul, Int.reduceNeg] | with_reducible refine vIf_t ?_ | with_reducible refine vIf_f ?_)))
end Go.Proofs.Ythgjcanhemohfaa

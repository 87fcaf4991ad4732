/- surfaces of a flooded land: the specification's walk -/
import Derived.Test.YthgjcanhemohfaaSpr1
import Derived.Test.YthgjcanhemohfaaBas
set_option linter.unusedVariables false
set_option linter.unusedSimpArgs false
namespace Go.Proofs.Ythgjcanhemohfaa
open Go.AG

attribute [local go_sem] beq_self_eq_true bne_self_eq_false Bool.not_true Bool.not_false
theorem usd_put (n : Nat) (L M : List Int) (x : Int) (h : 0 ≤ x ∧ x < n) (hm : ∀ y, y ∈ M ↔ y ∈ L ∨ y = x) : (usd n L).set x.toNat true = usd n M := by
  rw [usd_set n L x h]
  refine usd_ext n _ _ fun y _ _ => ?_
  rw [hm, List.mem_append, List.mem_singleton]
theorem spT_mem {a : Sp} {b : Int} (hb : b ∈ a.op) (x : Int) : x ∈ (spT a b).op ++ (spT a b).od ↔ x ∈ a.op ++ a.od := by
  show x ∈ a.op.erase b ++ (a.od ++ [b]) ↔ _
  simp only [List.mem_append, List.mem_singleton]
  constructor
  · rintro (h | h | rfl)
    · exact .inl (List.mem_of_mem_erase h)
    · exact .inr h
    · exact .inl hb
  · rintro (h | h)
    · by_cases e : x = b
      · exact .inr (.inr e)
      · exact .inl ((List.mem_erase_of_ne e).2 h)
    · exact .inr (.inl h)
set_option maxRecDepth 100000 in
set_option maxHeartbeats 16000000 in
theorem surfS_ok (l : Ld) (fr : List Int) (hok : okL l = true) (hfr : ∀ o ∈ fr, inC l o) (hfl : fr.length ≤ 1000) : ACalls Try.prog 112 [.ip (lC l) 0, .sl fr.length (ints fr)] [] (fun r o => r = .tup [.ref 0 0 l.hs.length, .ref 1 0 (spE l fr).od.length] ∧ o = [oI (spE l fr).out, oI (spE l fr).od]) := by
  refine ACalls.of_vc Try.func112 rfl (by decide) 146 rfl [.tmp 4, .tmp 5] rfl (by simp) ?_
  have hn : l.hs.length ≤ 144 := by
    simp only [okL, Bool.and_eq_true, decide_eq_true_eq] at hok
    obtain ⟨⟨⟨q1, q2⟩, q3⟩, q4⟩ := hok
    have := mul12 q1 q2
    omega
  unfold lC
  (repeat (first | simp (maxSteps := 2000000) (disch := omega) only [go_sem, ↓reduceIte, Nat.reduceEqDiff, Nat.reduceAdd, Nat.reduceMul, Nat.reduceSub, Int.reduceToNat, Int.reduceAdd, Int.reduceSub, Int.reduceMul, Int.reduceNeg] | with_reducible refine vIf_t ?_ | with_reducible refine vIf_f ?_))
  refine vcLoop_invF (fun k : Nat => k ≤ fr.length) (fun k => ⟨146, 0, [(11, I k), (1, .sl fr.length (ints fr)), (0, .ip (lC l) 0), (7, .ref 0 0 l.hs.length), (8, .ref 1 0 l.hs.length), (9, .ref 2 0 l.hs.length), (10, .ref 3 0 0), (6, I l.hs.length)], [oI (spI l (fr.take k)).out, some ⟨1, bls (usd l.hs.length (spI l (fr.take k)).op)⟩, some ⟨1, bls (usd l.hs.length [])⟩, oI []]⟩) (fun k => fr.length - k) 0 (by omega) (by rw [show spI l (fr.take 0) = ⟨List.replicate l.hs.length 0, [], []⟩ from rfl]; dsimp only; rw [usd_nil]; unfold lC; (first | (refine leF_s ?_; ((repeat (first | simp (maxSteps := 2000000) (disch := omega) only [go_sem, ↓reduceIte, Nat.reduceEqDiff, Nat.reduceAdd, Nat.reduceMul, Nat.reduceSub, Int.reduceToNat, Int.reduceAdd, Int.reduceSub, Int.reduceMul, Int.reduceNeg] | with_reducible refine vIf_t ?_ | with_reducible refine vIf_f ?_)); all_goals (try simp); all_goals (try omega)); done) | (refine leF_p ?_; ((repeat (first | simp (maxSteps := 2000000) (disch := omega) only [go_sem, ↓reduceIte, Nat.reduceEqDiff, Nat.reduceAdd, Nat.reduceMul, Nat.reduceSub, Int.reduceToNat, Int.reduceAdd, Int.reduceSub, Int.reduceMul, Int.reduceNeg] | with_reducible refine vIf_t ?_ | with_reducible refine vIf_f ?_)); all_goals (try simp); all_goals (try omega)); done))) ?_
  intro k hk
  have hI := (spI_ok hok (fr.take k) (fun o ho => hfr o (List.mem_of_mem_take ho))).1
  have hlen := hI.len
  have hsu := spI_succ l fr k
  generalize hA : spI l (fr.take k) = a at *
  have hul := usd_len l.hs.length a.op
  have hul0 := usd_len l.hs.length []
  unfold lC oI
  (repeat (first | simp (maxSteps := 2000000) (disch := omega) only [go_sem, ↓reduceIte, Nat.reduceEqDiff, Nat.reduceAdd, Nat.reduceMul, Nat.reduceSub, Int.reduceToNat, Int.reduceAdd, Int.reduceSub, Int.reduceMul, Int.reduceNeg] | with_reducible refine vIf_t ?_ | with_reducible refine vIf_f ?_))
  refine vIf_dec (fun h => ?_) (fun h => ?_)
  · have hkl : k < fr.length := by omega
    have hsu := hsu hkl
    have hc : inC l (gi fr k) := hfr _ (gi_mem _ _ hkl)
    have hcb : 0 ≤ gi fr k ∧ gi fr k ≤ (l.hs.length : Int) - 1 := hc
    generalize hce : gi fr k = c at *
    have hset : (usd l.hs.length a.op).set c.toNat true = usd l.hs.length (if c ∈ a.op then a.op else a.op ++ [c]) := usd_put _ _ _ _ (by omega) (fun y => by
      split
      · rename_i e
        exact ⟨.inl, fun q => q.elim id fun q => q ▸ e⟩
      · rw [List.mem_append, List.mem_singleton])
    (repeat (first | simp (maxSteps := 2000000) (disch := omega) only [go_sem, ↓reduceIte, Nat.reduceEqDiff, Nat.reduceAdd, Nat.reduceMul, Nat.reduceSub, Int.reduceToNat, Int.reduceAdd, Int.reduceSub, Int.reduceMul, Int.reduceNeg, hce, hlen, hul] | with_reducible refine vIf_t ?_ | with_reducible refine vIf_f ?_))
    (refine vDraw_sch 15 [(0, false), (1, false), (2, false), (3, false), (5, false), (6, false), (7, false), (9, false), (10, false), (11, false), (4, false), (8, false), (12, true), (13, false), (14, true)] mixed (by kernel_rfl) ?_; simp only [List.cons_append, List.nil_append, List.map_cons, List.map_nil, nthO_zero, nthO_succ, List.drop_succ_cons, List.drop_zero, List.drop_nil]; (repeat (first | simp (maxSteps := 2000000) (disch := omega) only [go_sem, ↓reduceIte, Nat.reduceEqDiff, Nat.reduceAdd, Nat.reduceMul, Nat.reduceSub, Int.reduceToNat, Int.reduceAdd, Int.reduceSub, Int.reduceMul, Int.reduceNeg] | with_reducible refine vIf_t ?_ | with_reducible refine vIf_f ?_)))
    (try (repeat (first | simp (maxSteps := 2000000) (disch := omega) only [go_sem, ↓reduceIte, Nat.reduceEqDiff, Nat.reduceAdd, Nat.reduceMul, Nat.reduceSub, Int.reduceToNat, Int.reduceAdd, Int.reduceSub, Int.reduceMul, Int.reduceNeg, hce, hlen, hul, hset] | with_reducible refine vIf_t ?_ | with_reducible refine vIf_f ?_)))
    refine againF (k + 1) (by omega) (by omega) ?_
    rw [hsu]
    unfold spP
    dsimp only
    try unfold lC
    (first | (refine leF_s ?_; ((repeat (first | simp (maxSteps := 2000000) (disch := omega) only [go_sem, ↓reduceIte, Nat.reduceEqDiff, Nat.reduceAdd, Nat.reduceMul, Nat.reduceSub, Int.reduceToNat, Int.reduceAdd, Int.reduceSub, Int.reduceMul, Int.reduceNeg] | with_reducible refine vIf_t ?_ | with_reducible refine vIf_f ?_)); all_goals (try simp); all_goals (try omega)); done) | (refine leF_p ?_; ((repeat (first | simp (maxSteps := 2000000) (disch := omega) only [go_sem, ↓reduceIte, Nat.reduceEqDiff, Nat.reduceAdd, Nat.reduceMul, Nat.reduceSub, Int.reduceToNat, Int.reduceAdd, Int.reduceSub, Int.reduceMul, Int.reduceNeg] | with_reducible refine vIf_t ?_ | with_reducible refine vIf_f ?_)); all_goals (try simp); all_goals (try omega)); done))
  have ek : k = fr.length := by omega
  subst ek
  rw [List.take_length] at hA
  subst hA
  clear hsu hI hk
  have hod0 := (spI_ok hok fr hfr).2
  (repeat (first | simp (maxSteps := 2000000) (disch := omega) only [go_sem, ↓reduceIte, Nat.reduceEqDiff, Nat.reduceAdd, Nat.reduceMul, Nat.reduceSub, Int.reduceToNat, Int.reduceAdd, Int.reduceSub, Int.reduceMul, Int.reduceNeg] | with_reducible refine vIf_t ?_ | with_reducible refine vIf_f ?_))
  refine vcLoop_invF (fun k : Nat => k ≤ l.hs.length) (fun k => ⟨146, 0, [(0, .ip (lC l) 0), (6, I l.hs.length), (7, .ref 0 0 l.hs.length), (8, .ref 1 0 l.hs.length), (9, .ref 2 0 l.hs.length), (10, .ref 3 0 (spK l fr k).od.length)], [oI (spK l fr k).out, some ⟨1, bls (usd l.hs.length ((spK l fr k).op ++ (spK l fr k).od))⟩, some ⟨1, bls (usd l.hs.length (spK l fr k).od)⟩, oI (spK l fr k).od]⟩) (fun k => l.hs.length - k) 0 (by omega) (by rw [show spK l fr 0 = spI l fr from rfl, hod0, List.append_nil]; unfold lC; (first | (refine leF_s ?_; ((repeat (first | simp (maxSteps := 2000000) (disch := omega) only [go_sem, ↓reduceIte, Nat.reduceEqDiff, Nat.reduceAdd, Nat.reduceMul, Nat.reduceSub, Int.reduceToNat, Int.reduceAdd, Int.reduceSub, Int.reduceMul, Int.reduceNeg] | with_reducible refine vIf_t ?_ | with_reducible refine vIf_f ?_)); all_goals (try simp); all_goals (try omega)); done) | (refine leF_p ?_; ((repeat (first | simp (maxSteps := 2000000) (disch := omega) only [go_sem, ↓reduceIte, Nat.reduceEqDiff, Nat.reduceAdd, Nat.reduceMul, Nat.reduceSub, Int.reduceToNat, Int.reduceAdd, Int.reduceSub, Int.reduceMul, Int.reduceNeg] | with_reducible refine vIf_t ?_ | with_reducible refine vIf_f ?_)); all_goals (try simp); all_goals (try omega)); done))) ?_
  intro k hk
  obtain ⟨hK1, hK2, hK3⟩ := spK_ok hok fr hfr k
  have hlen := hK1.len
  have hle := spK_len hK1
  have hKs : spK l fr (k + 1) = if (spK l fr k).op = [] then spK l fr k else spN l (spK l fr k) := rfl
  have hEe := spE_eq (l := l) (fr := fr) hk
  generalize hA : spK l fr k = a at *
  have hul := usd_len l.hs.length (a.op ++ a.od)
  have hul2 := usd_len l.hs.length a.od
  have hnd := hK1.nd
  rw [List.nodup_append] at hnd
  unfold lC oI
  (repeat (first | simp (maxSteps := 2000000) (disch := omega) only [go_sem, ↓reduceIte, Nat.reduceEqDiff, Nat.reduceAdd, Nat.reduceMul, Nat.reduceSub, Int.reduceToNat, Int.reduceAdd, Int.reduceSub, Int.reduceMul, Int.reduceNeg] | with_reducible refine vIf_t ?_ | with_reducible refine vIf_f ?_))
  refine vcLoop_invF (fun i : Nat => i ≤ l.hs.length) (fun i => ⟨146, 0, [(13, I i), (12, I (bsK a.out a.op i)), (0, .ip (lC l) 0), (6, I l.hs.length), (7, .ref 0 0 l.hs.length), (8, .ref 1 0 l.hs.length), (9, .ref 2 0 l.hs.length), (10, .ref 3 0 a.od.length)], [oI a.out, some ⟨1, bls (usd l.hs.length (a.op ++ a.od))⟩, some ⟨1, bls (usd l.hs.length a.od)⟩, oI a.od]⟩) (fun i => l.hs.length - i) 0 (by omega) (by rw [show bsK a.out a.op 0 = -1 from rfl]; unfold lC; (first | (refine leF_s ?_; ((repeat (first | simp (maxSteps := 2000000) (disch := omega) only [go_sem, ↓reduceIte, Nat.reduceEqDiff, Nat.reduceAdd, Nat.reduceMul, Nat.reduceSub, Int.reduceToNat, Int.reduceAdd, Int.reduceSub, Int.reduceMul, Int.reduceNeg] | with_reducible refine vIf_t ?_ | with_reducible refine vIf_f ?_)); all_goals (try simp); all_goals (try omega)); done) | (refine leF_p ?_; ((repeat (first | simp (maxSteps := 2000000) (disch := omega) only [go_sem, ↓reduceIte, Nat.reduceEqDiff, Nat.reduceAdd, Nat.reduceMul, Nat.reduceSub, Int.reduceToNat, Int.reduceAdd, Int.reduceSub, Int.reduceMul, Int.reduceNeg] | with_reducible refine vIf_t ?_ | with_reducible refine vIf_f ?_)); all_goals (try simp); all_goals (try omega)); done))) ?_
  intro i hi
  have hqb := bsK_bd a.out a.op i
  have hqs : bsK a.out a.op (i + 1) = if (i : Int) ∈ a.op ∧ (bsK a.out a.op i < 0 ∨ gi a.out i < ga a.out (bsK a.out a.op i)) then (i : Int) else bsK a.out a.op i := rfl
  generalize hqe : bsK a.out a.op i = q at *
  unfold lC oI
  (repeat (first | simp (maxSteps := 2000000) (disch := omega) only [go_sem, ↓reduceIte, Nat.reduceEqDiff, Nat.reduceAdd, Nat.reduceMul, Nat.reduceSub, Int.reduceToNat, Int.reduceAdd, Int.reduceSub, Int.reduceMul, Int.reduceNeg] | with_reducible refine vIf_t ?_ | with_reducible refine vIf_f ?_))
  refine vIf_dec (fun h5 => ?_) (fun h5 => ?_)
  · have hil : i < l.hs.length := by omega
    have hg1 := usd_get l.hs.length (a.op ++ a.od) i hil
    have hg2 := usd_get l.hs.length a.od i hil
    (repeat (first | simp (maxSteps := 2000000) (disch := omega) only [go_sem, ↓reduceIte, Nat.reduceEqDiff, Nat.reduceAdd, Nat.reduceMul, Nat.reduceSub, Int.reduceToNat, Int.reduceAdd, Int.reduceSub, Int.reduceMul, Int.reduceNeg] | with_reducible refine vIf_t ?_ | with_reducible refine vIf_f ?_))
    (refine vDraw_sch 23 [(0, false), (1, false), (2, false), (3, true), (4, false), (5, false), (6, false), (7, false), (8, false), (9, false), (10, false), (11, false), (12, false), (13, false), (14, false), (15, false), (16, false), (17, false), (18, false), (19, false), (20, false), (21, false), (22, false)] mixed (by kernel_rfl) ?_; simp only [List.cons_append, List.nil_append, List.map_cons, List.map_nil, nthO_zero, nthO_succ, List.drop_succ_cons, List.drop_zero, List.drop_nil]; (repeat (first | simp (maxSteps := 2000000) (disch := omega) only [go_sem, ↓reduceIte, Nat.reduceEqDiff, Nat.reduceAdd, Nat.reduceMul, Nat.reduceSub, Int.reduceToNat, Int.reduceAdd, Int.reduceSub, Int.reduceMul, Int.reduceNeg] | with_reducible refine vIf_t ?_ | with_reducible refine vIf_f ?_)))
    by_cases z1 : (i : Int) ∈ a.op
    · have z0 : ¬ (i : Int) ∈ a.od := fun e => hnd.2.2 _ z1 _ e rfl
      rw [decide_eq_true (List.mem_append.2 (.inl z1))] at hg1
      rw [decide_eq_false z0] at hg2
      by_cases z2 : q < 0
      · have d2 : decide (q < 0) = true := decide_eq_true z2
        rw [if_pos ⟨z1, .inl z2⟩] at hqs
        (try (repeat (first | simp (maxSteps := 2000000) (disch := omega) only [go_sem, ↓reduceIte, Nat.reduceEqDiff, Nat.reduceAdd, Nat.reduceMul, Nat.reduceSub, Int.reduceToNat, Int.reduceAdd, Int.reduceSub, Int.reduceMul, Int.reduceNeg, hg1, hg2, hul, hul2, d2, hlen] | with_reducible refine vIf_t ?_ | with_reducible refine vIf_f ?_)))
        refine againF (i + 1) (by omega) (by omega) ?_
        rw [hqs]
        try unfold lC
        (first | (refine leF_s ?_; ((repeat (first | simp (maxSteps := 2000000) (disch := omega) only [go_sem, ↓reduceIte, Nat.reduceEqDiff, Nat.reduceAdd, Nat.reduceMul, Nat.reduceSub, Int.reduceToNat, Int.reduceAdd, Int.reduceSub, Int.reduceMul, Int.reduceNeg] | with_reducible refine vIf_t ?_ | with_reducible refine vIf_f ?_)); all_goals (try simp); all_goals (try omega)); done) | (refine leF_p ?_; ((repeat (first | simp (maxSteps := 2000000) (disch := omega) only [go_sem, ↓reduceIte, Nat.reduceEqDiff, Nat.reduceAdd, Nat.reduceMul, Nat.reduceSub, Int.reduceToNat, Int.reduceAdd, Int.reduceSub, Int.reduceMul, Int.reduceNeg] | with_reducible refine vIf_t ?_ | with_reducible refine vIf_f ?_)); all_goals (try simp); all_goals (try omega)); done))
      · have d2 : decide (q < 0) = false := decide_eq_false z2
        have z2b : q.toNat < l.hs.length := by omega
        (try (repeat (first | simp (maxSteps := 2000000) (disch := omega) only [go_sem, ↓reduceIte, Nat.reduceEqDiff, Nat.reduceAdd, Nat.reduceMul, Nat.reduceSub, Int.reduceToNat, Int.reduceAdd, Int.reduceSub, Int.reduceMul, Int.reduceNeg, hg1, hg2, hul, hul2, d2, hlen] | with_reducible refine vIf_t ?_ | with_reducible refine vIf_f ?_)))
        by_cases z3 : gi a.out i < gi a.out q.toNat
        · have d3 : decide (gi a.out i < gi a.out q.toNat) = true := decide_eq_true z3
          rw [if_pos ⟨z1, .inr z3⟩] at hqs
          (try (repeat (first | simp (maxSteps := 2000000) (disch := omega) only [go_sem, ↓reduceIte, Nat.reduceEqDiff, Nat.reduceAdd, Nat.reduceMul, Nat.reduceSub, Int.reduceToNat, Int.reduceAdd, Int.reduceSub, Int.reduceMul, Int.reduceNeg, d3, hlen] | with_reducible refine vIf_t ?_ | with_reducible refine vIf_f ?_)))
          refine againF (i + 1) (by omega) (by omega) ?_
          rw [hqs]
          try unfold lC
          (first | (refine leF_s ?_; ((repeat (first | simp (maxSteps := 2000000) (disch := omega) only [go_sem, ↓reduceIte, Nat.reduceEqDiff, Nat.reduceAdd, Nat.reduceMul, Nat.reduceSub, Int.reduceToNat, Int.reduceAdd, Int.reduceSub, Int.reduceMul, Int.reduceNeg] | with_reducible refine vIf_t ?_ | with_reducible refine vIf_f ?_)); all_goals (try simp); all_goals (try omega)); done) | (refine leF_p ?_; ((repeat (first | simp (maxSteps := 2000000) (disch := omega) only [go_sem, ↓reduceIte, Nat.reduceEqDiff, Nat.reduceAdd, Nat.reduceMul, Nat.reduceSub, Int.reduceToNat, Int.reduceAdd, Int.reduceSub, Int.reduceMul, Int.reduceNeg] | with_reducible refine vIf_t ?_ | with_reducible refine vIf_f ?_)); all_goals (try simp); all_goals (try omega)); done))
        · have d3 : decide (gi a.out i < gi a.out q.toNat) = false := decide_eq_false z3
          rw [if_neg (fun e => e.2.elim z2 z3)] at hqs
          (try (repeat (first | simp (maxSteps := 2000000) (disch := omega) only [go_sem, ↓reduceIte, Nat.reduceEqDiff, Nat.reduceAdd, Nat.reduceMul, Nat.reduceSub, Int.reduceToNat, Int.reduceAdd, Int.reduceSub, Int.reduceMul, Int.reduceNeg, d3, hlen] | with_reducible refine vIf_t ?_ | with_reducible refine vIf_f ?_)))
          refine againF (i + 1) (by omega) (by omega) ?_
          rw [hqs]
          try unfold lC
          (first | (refine leF_s ?_; ((repeat (first | simp (maxSteps := 2000000) (disch := omega) only [go_sem, ↓reduceIte, Nat.reduceEqDiff, Nat.reduceAdd, Nat.reduceMul, Nat.reduceSub, Int.reduceToNat, Int.reduceAdd, Int.reduceSub, Int.reduceMul, Int.reduceNeg] | with_reducible refine vIf_t ?_ | with_reducible refine vIf_f ?_)); all_goals (try simp); all_goals (try omega)); done) | (refine leF_p ?_; ((repeat (first | simp (maxSteps := 2000000) (disch := omega) only [go_sem, ↓reduceIte, Nat.reduceEqDiff, Nat.reduceAdd, Nat.reduceMul, Nat.reduceSub, Int.reduceToNat, Int.reduceAdd, Int.reduceSub, Int.reduceMul, Int.reduceNeg] | with_reducible refine vIf_t ?_ | with_reducible refine vIf_f ?_)); all_goals (try simp); all_goals (try omega)); done))
    · rw [if_neg (fun e => z1 e.1)] at hqs
      by_cases z0 : (i : Int) ∈ a.od
      · rw [decide_eq_true (List.mem_append.2 (.inr z0))] at hg1
        rw [decide_eq_true z0] at hg2
        (try (repeat (first | simp (maxSteps := 2000000) (disch := omega) only [go_sem, ↓reduceIte, Nat.reduceEqDiff, Nat.reduceAdd, Nat.reduceMul, Nat.reduceSub, Int.reduceToNat, Int.reduceAdd, Int.reduceSub, Int.reduceMul, Int.reduceNeg, hg1, hg2, hul, hul2] | with_reducible refine vIf_t ?_ | with_reducible refine vIf_f ?_)))
        refine againF (i + 1) (by omega) (by omega) ?_
        rw [hqs]
        try unfold lC
        (first | (refine leF_s ?_; ((repeat (first | simp (maxSteps := 2000000) (disch := omega) only [go_sem, ↓reduceIte, Nat.reduceEqDiff, Nat.reduceAdd, Nat.reduceMul, Nat.reduceSub, Int.reduceToNat, Int.reduceAdd, Int.reduceSub, Int.reduceMul, Int.reduceNeg] | with_reducible refine vIf_t ?_ | with_reducible refine vIf_f ?_)); all_goals (try simp); all_goals (try omega)); done) | (refine leF_p ?_; ((repeat (first | simp (maxSteps := 2000000) (disch := omega) only [go_sem, ↓reduceIte, Nat.reduceEqDiff, Nat.reduceAdd, Nat.reduceMul, Nat.reduceSub, Int.reduceToNat, Int.reduceAdd, Int.reduceSub, Int.reduceMul, Int.reduceNeg] | with_reducible refine vIf_t ?_ | with_reducible refine vIf_f ?_)); all_goals (try simp); all_goals (try omega)); done))
      · rw [decide_eq_false (fun e => by rcases List.mem_append.1 e with e | e; exact z1 e; exact z0 e)] at hg1
        (try (repeat (first | simp (maxSteps := 2000000) (disch := omega) only [go_sem, ↓reduceIte, Nat.reduceEqDiff, Nat.reduceAdd, Nat.reduceMul, Nat.reduceSub, Int.reduceToNat, Int.reduceAdd, Int.reduceSub, Int.reduceMul, Int.reduceNeg, hg1, hul] | with_reducible refine vIf_t ?_ | with_reducible refine vIf_f ?_)))
        refine againF (i + 1) (by omega) (by omega) ?_
        rw [hqs]
        try unfold lC
        (first | (refine leF_s ?_; ((repeat (first | simp (maxSteps := 2000000) (disch := omega) only [go_sem, ↓reduceIte, Nat.reduceEqDiff, Nat.reduceAdd, Nat.reduceMul, Nat.reduceSub, Int.reduceToNat, Int.reduceAdd, Int.reduceSub, Int.reduceMul, Int.reduceNeg] | with_reducible refine vIf_t ?_ | with_reducible refine vIf_f ?_)); all_goals (try simp); all_goals (try omega)); done) | (refine leF_p ?_; ((repeat (first | simp (maxSteps := 2000000) (disch := omega) only [go_sem, ↓reduceIte, Nat.reduceEqDiff, Nat.reduceAdd, Nat.reduceMul, Nat.reduceSub, Int.reduceToNat, Int.reduceAdd, Int.reduceSub, Int.reduceMul, Int.reduceNeg] | with_reducible refine vIf_t ?_ | with_reducible refine vIf_f ?_)); all_goals (try simp); all_goals (try omega)); done))
  have ei : i = l.hs.length := by omega
  subst ei
  clear hqs hqb
  by_cases hne : a.op = []
  · have hE := hEe hne
    have hB := spB_no (l := l) hne
    unfold spB at hB
    rw [hqe] at hB
    subst hB
    (repeat (first | simp (maxSteps := 2000000) (disch := omega) only [go_sem, ↓reduceIte, Nat.reduceEqDiff, Nat.reduceAdd, Nat.reduceMul, Nat.reduceSub, Int.reduceToNat, Int.reduceAdd, Int.reduceSub, Int.reduceMul, Int.reduceNeg] | with_reducible refine vIf_t ?_ | with_reducible refine vIf_f ?_))
    (refine retK_of ?_; (repeat (first | simp (maxSteps := 2000000) (disch := omega) only [go_sem, ↓reduceIte, Nat.reduceEqDiff, Nat.reduceAdd, Nat.reduceMul, Nat.reduceSub, Int.reduceToNat, Int.reduceAdd, Int.reduceSub, Int.reduceMul, Int.reduceNeg] | with_reducible refine vIf_t ?_ | with_reducible refine vIf_f ?_)))
    rw [hE]
    exact ⟨rfl, rfl⟩
  · have hpos := List.length_pos_iff.2 hne
    have hk2 := hK2 hne
    obtain ⟨hb1, hb2⟩ := spB_ok hK1 hne
    obtain ⟨hT1, hT2, hT3⟩ := spT_ok hK1 _ hb1 hb2
    have hTm := fun x => spT_mem (a := a) hb1 x
    have hbc : inC l (spB l a) := hK1.cel _ (List.mem_append.2 (.inl hb1))
    have hbb : 0 ≤ spB l a ∧ spB l a ≤ (l.hs.length : Int) - 1 := hbc
    rw [if_neg hne] at hKs
    have hNd : spN l a = spR l (spB l a) (spT a (spB l a)) (near l (spB l a)) := rfl
    have hBd : spB l a = bsK a.out a.op l.hs.length := rfl
    generalize spB l a = b at *
    rw [← hBd] at hqe
    subst hqe
    have d0 : decide (b < 0) = false := decide_eq_false (by omega)
    have hset : (usd l.hs.length a.od).set b.toNat true = usd l.hs.length (a.od ++ [b]) := usd_set _ _ _ (by omega)
    have hnx := (nearS_ok l b (Cl.of2 hok hbc)).fzI
    have hnl := nearK_len l b 4
    have hnin := near_in l hok b hbc
    have hR := fun j => spR_ok hok b ((near l b).take j) hT1 hT2 hT3 (fun x hx => List.mem_of_mem_take hx)
    have hRlen := fun j => spK_len (hR j).1
    have hTod : (spT a b).od = a.od ++ [b] := rfl
    have hTout : (spT a b).out = a.out := rfl
    have hRs := fun j => spR_succ l b (spT a b) (near l b) j
    have hTu : usd l.hs.length (a.op ++ a.od) = usd l.hs.length ((spT a b).op ++ (spT a b).od) := usd_ext _ _ _ (fun x _ _ => (hTm x).symm)
    change (near l b).length ≤ 4 at hnl
    unfold lC at hnx
    generalize near l b = xs at *
    generalize hTe : spT a b = t at *
    (repeat (first | simp (maxSteps := 2000000) (disch := omega) only [go_sem, ↓reduceIte, Nat.reduceEqDiff, Nat.reduceAdd, Nat.reduceMul, Nat.reduceSub, Int.reduceToNat, Int.reduceAdd, Int.reduceSub, Int.reduceMul, Int.reduceNeg, d0, hul2, hset] | with_reducible refine vIf_t ?_ | with_reducible refine vIf_f ?_))
    (try (repeat (first | simp (maxSteps := 2000000) (disch := omega) only [go_sem, ↓reduceIte, Nat.reduceEqDiff, Nat.reduceAdd, Nat.reduceMul, Nat.reduceSub, Int.reduceToNat, Int.reduceAdd, Int.reduceSub, Int.reduceMul, Int.reduceNeg, d0, hul2, hset] | with_reducible refine vIf_t ?_ | with_reducible refine vIf_f ?_)))
    (refine vCallX_of ?_; (repeat (first | simp (maxSteps := 2000000) (disch := omega) only [go_sem, ↓reduceIte, Nat.reduceEqDiff, Nat.reduceAdd, Nat.reduceMul, Nat.reduceSub, Int.reduceToNat, Int.reduceAdd, Int.reduceSub, Int.reduceMul, Int.reduceNeg] | with_reducible refine vIf_t ?_ | with_reducible refine vIf_f ?_)); refine vCall_eq (hnx) (by simp (disch := omega) only [go_sem, Nat.reduceAdd]) rfl (by first | exact Or.inl rfl | exact Or.inr ⟨rfl, rfl⟩ | (apply Or.inr; simp only [go_sem])) ?_; (repeat (first | simp (maxSteps := 2000000) (disch := omega) only [go_sem, ↓reduceIte, Nat.reduceEqDiff, Nat.reduceAdd, Nat.reduceMul, Nat.reduceSub, Int.reduceToNat, Int.reduceAdd, Int.reduceSub, Int.reduceMul, Int.reduceNeg] | with_reducible refine vIf_t ?_ | with_reducible refine vIf_f ?_)))
    refine vcLoop_invF (fun j : Nat => j ≤ xs.length) (fun j => ⟨146, 0, [(15, I j), (0, .ip (lC l) 0), (6, I l.hs.length), (7, .ref 0 0 l.hs.length), (8, .ref 1 0 l.hs.length), (9, .ref 2 0 l.hs.length), (10, .ref 3 0 (a.od.length + 1)), (12, I b), (14, .sl xs.length (ints xs))], [oI (spR l b t (xs.take j)).out, some ⟨1, bls (usd l.hs.length ((spR l b t (xs.take j)).op ++ (spR l b t (xs.take j)).od))⟩, some ⟨1, bls (usd l.hs.length (a.od ++ [b]))⟩, oI (a.od ++ [b])]⟩) (fun j => xs.length - j) 0 (by omega) (by rw [show spR l b t (xs.take 0) = t from by simp [spR], hTout, ← hTu]; unfold lC; (first | (refine leF_s ?_; ((repeat (first | simp (maxSteps := 2000000) (disch := omega) only [go_sem, ↓reduceIte, Nat.reduceEqDiff, Nat.reduceAdd, Nat.reduceMul, Nat.reduceSub, Int.reduceToNat, Int.reduceAdd, Int.reduceSub, Int.reduceMul, Int.reduceNeg] | with_reducible refine vIf_t ?_ | with_reducible refine vIf_f ?_)); all_goals (try simp); all_goals (try omega)); done) | (refine leF_p ?_; ((repeat (first | simp (maxSteps := 2000000) (disch := omega) only [go_sem, ↓reduceIte, Nat.reduceEqDiff, Nat.reduceAdd, Nat.reduceMul, Nat.reduceSub, Int.reduceToNat, Int.reduceAdd, Int.reduceSub, Int.reduceMul, Int.reduceNeg] | with_reducible refine vIf_t ?_ | with_reducible refine vIf_f ?_)); all_goals (try simp); all_goals (try omega)); done))) ?_
    intro j hj
    obtain ⟨hR1, hR2, hR3⟩ := hR j
    have hRl := hR1.len
    have hRs := hRs j
    rw [hTod] at hR2 hR3
    generalize hC : spR l b t (xs.take j) = c at *
    have hulc := usd_len l.hs.length (c.op ++ c.od)
    have hul3 := usd_len l.hs.length (a.od ++ [b])
    unfold lC oI
    (repeat (first | simp (maxSteps := 2000000) (disch := omega) only [go_sem, ↓reduceIte, Nat.reduceEqDiff, Nat.reduceAdd, Nat.reduceMul, Nat.reduceSub, Int.reduceToNat, Int.reduceAdd, Int.reduceSub, Int.reduceMul, Int.reduceNeg] | with_reducible refine vIf_t ?_ | with_reducible refine vIf_f ?_))
    refine vIf_dec (fun h6 => ?_) (fun h6 => ?_)
    · have hjl : j < xs.length := by omega
      have hRs := hRs hjl
      have hxc : inC l (gi xs j) := hnin _ (gi_mem _ _ hjl)
      have hxb : 0 ≤ gi xs j ∧ gi xs j ≤ (l.hs.length : Int) - 1 := hxc
      generalize hxe : gi xs j = x at *
      have hgx := gb_usd l.hs.length (c.op ++ c.od) x (by omega)
      have hmx := bMax_ok (gi c.out b.toNat) (gi l.hs x.toNat)
      have emx : (if gi l.hs x.toNat < gi c.out b.toNat then gi c.out b.toNat else gi l.hs x.toNat) = mxI (ga c.out b) (ga l.hs x) := by unfold mxI ga; split <;> split <;> omega
      rw [emx] at hmx
      have hmge := mxI_ge (ga c.out b) (ga l.hs x)
      have s1 := fun q => spS_1 (l := l) (b := b) (x := x) (a := c) q
      have s2 := fun q p => spS_2 (l := l) (b := b) (x := x) (a := c) q p
      have s3 := fun q p r => spS_3 (l := l) (b := b) (x := x) (a := c) q p r
      have s4 := fun q p => spS_4 (l := l) (b := b) (x := x) (a := c) q p
      clear emx
      generalize hme : mxI (ga c.out b) (ga l.hs x) = m at *
      (repeat (first | simp (maxSteps := 2000000) (disch := omega) only [go_sem, ↓reduceIte, Nat.reduceEqDiff, Nat.reduceAdd, Nat.reduceMul, Nat.reduceSub, Int.reduceToNat, Int.reduceAdd, Int.reduceSub, Int.reduceMul, Int.reduceNeg, hxe] | with_reducible refine vIf_t ?_ | with_reducible refine vIf_f ?_))
      (refine vDraw_sch 11 [(0, false), (1, false), (2, false), (4, false), (5, false), (6, false), (8, false), (3, false), (7, true), (9, false), (10, true)] mixed (by kernel_rfl) ?_; simp only [List.cons_append, List.nil_append, List.map_cons, List.map_nil, nthO_zero, nthO_succ, List.drop_succ_cons, List.drop_zero, List.drop_nil]; (repeat (first | simp (maxSteps := 2000000) (disch := omega) only [go_sem, ↓reduceIte, Nat.reduceEqDiff, Nat.reduceAdd, Nat.reduceMul, Nat.reduceSub, Int.reduceToNat, Int.reduceAdd, Int.reduceSub, Int.reduceMul, Int.reduceNeg] | with_reducible refine vIf_t ?_ | with_reducible refine vIf_f ?_)))
      (try (repeat (first | simp (maxSteps := 2000000) (disch := omega) only [go_sem, ↓reduceIte, Nat.reduceEqDiff, Nat.reduceAdd, Nat.reduceMul, Nat.reduceSub, Int.reduceToNat, Int.reduceAdd, Int.reduceSub, Int.reduceMul, Int.reduceNeg, hRl] | with_reducible refine vIf_t ?_ | with_reducible refine vIf_f ?_)))
      (refine vCallX_of ?_; (repeat (first | simp (maxSteps := 2000000) (disch := omega) only [go_sem, ↓reduceIte, Nat.reduceEqDiff, Nat.reduceAdd, Nat.reduceMul, Nat.reduceSub, Int.reduceToNat, Int.reduceAdd, Int.reduceSub, Int.reduceMul, Int.reduceNeg] | with_reducible refine vIf_t ?_ | with_reducible refine vIf_f ?_)); refine vCall_eq (hmx) (by simp (disch := omega) only [go_sem, Nat.reduceAdd]) rfl (by first | exact Or.inl rfl | exact Or.inr ⟨rfl, rfl⟩ | (apply Or.inr; simp only [go_sem])) ?_; (repeat (first | simp (maxSteps := 2000000) (disch := omega) only [go_sem, ↓reduceIte, Nat.reduceEqDiff, Nat.reduceAdd, Nat.reduceMul, Nat.reduceSub, Int.reduceToNat, Int.reduceAdd, Int.reduceSub, Int.reduceMul, Int.reduceNeg] | with_reducible refine vIf_t ?_ | with_reducible refine vIf_f ?_)))
      (try (repeat (first | simp (maxSteps := 2000000) (disch := omega) only [go_sem, ↓reduceIte, Nat.reduceEqDiff, Nat.reduceAdd, Nat.reduceMul, Nat.reduceSub, Int.reduceToNat, Int.reduceAdd, Int.reduceSub, Int.reduceMul, Int.reduceNeg, hRl, hulc] | with_reducible refine vIf_t ?_ | with_reducible refine vIf_f ?_)))
      by_cases z1 : x ∈ c.op ++ c.od
      · rw [decide_eq_true z1] at hgx
        (try (repeat (first | simp (maxSteps := 2000000) (disch := omega) only [go_sem, ↓reduceIte, Nat.reduceEqDiff, Nat.reduceAdd, Nat.reduceMul, Nat.reduceSub, Int.reduceToNat, Int.reduceAdd, Int.reduceSub, Int.reduceMul, Int.reduceNeg, hgx, hRl, hulc] | with_reducible refine vIf_t ?_ | with_reducible refine vIf_f ?_)))
        by_cases z3 : m < gi c.out x.toNat
        · have d3 : decide (m < gi c.out x.toNat) = true := decide_eq_true z3
          have z0 : ¬ x ∈ c.od := fun e => by
            rw [hR2] at e
            have e1 := hR3 x e
            have e2 := hR3 b (by simp)
            have e3 := hT3 x (by rw [hTod]; exact e)
            have e4 : ga c.out x = gi c.out x.toNat := rfl
            omega
          have z2 : x ∈ c.op := (List.mem_append.1 z1).resolve_right z0
          have hset2 : (usd l.hs.length (c.op ++ c.od)).set x.toNat true = usd l.hs.length (c.op ++ c.od) := usd_put _ _ _ _ (by omega) (fun y => ⟨.inl, fun q => q.elim id fun q => q ▸ z1⟩)
          rw [s3 z0 z2 z3] at hRs
          (try (repeat (first | simp (maxSteps := 2000000) (disch := omega) only [go_sem, ↓reduceIte, Nat.reduceEqDiff, Nat.reduceAdd, Nat.reduceMul, Nat.reduceSub, Int.reduceToNat, Int.reduceAdd, Int.reduceSub, Int.reduceMul, Int.reduceNeg, hgx, d3, hRl, hulc, hset2] | with_reducible refine vIf_t ?_ | with_reducible refine vIf_f ?_)))
          refine againF (j + 1) (by omega) (by omega) ?_
          rw [hRs]
          dsimp only
          try unfold lC
          (first | (refine leF_s ?_; ((repeat (first | simp (maxSteps := 2000000) (disch := omega) only [go_sem, ↓reduceIte, Nat.reduceEqDiff, Nat.reduceAdd, Nat.reduceMul, Nat.reduceSub, Int.reduceToNat, Int.reduceAdd, Int.reduceSub, Int.reduceMul, Int.reduceNeg] | with_reducible refine vIf_t ?_ | with_reducible refine vIf_f ?_)); all_goals (try simp); all_goals (try omega)); done) | (refine leF_p ?_; ((repeat (first | simp (maxSteps := 2000000) (disch := omega) only [go_sem, ↓reduceIte, Nat.reduceEqDiff, Nat.reduceAdd, Nat.reduceMul, Nat.reduceSub, Int.reduceToNat, Int.reduceAdd, Int.reduceSub, Int.reduceMul, Int.reduceNeg] | with_reducible refine vIf_t ?_ | with_reducible refine vIf_f ?_)); all_goals (try simp); all_goals (try omega)); done))
        · have d3 : decide (m < gi c.out x.toNat) = false := decide_eq_false z3
          have hRs2 : spR l b t (List.take (j + 1) xs) = c := by
            rw [hRs]
            by_cases z0 : x ∈ c.od
            · exact s1 z0
            · exact s2 ((List.mem_append.1 z1).resolve_right z0) z3
          (try (repeat (first | simp (maxSteps := 2000000) (disch := omega) only [go_sem, ↓reduceIte, Nat.reduceEqDiff, Nat.reduceAdd, Nat.reduceMul, Nat.reduceSub, Int.reduceToNat, Int.reduceAdd, Int.reduceSub, Int.reduceMul, Int.reduceNeg, hgx, d3, hRl, hulc] | with_reducible refine vIf_t ?_ | with_reducible refine vIf_f ?_)))
          refine againF (j + 1) (by omega) (by omega) ?_
          rw [hRs2]
          try unfold lC
          (first | (refine leF_s ?_; ((repeat (first | simp (maxSteps := 2000000) (disch := omega) only [go_sem, ↓reduceIte, Nat.reduceEqDiff, Nat.reduceAdd, Nat.reduceMul, Nat.reduceSub, Int.reduceToNat, Int.reduceAdd, Int.reduceSub, Int.reduceMul, Int.reduceNeg] | with_reducible refine vIf_t ?_ | with_reducible refine vIf_f ?_)); all_goals (try simp); all_goals (try omega)); done) | (refine leF_p ?_; ((repeat (first | simp (maxSteps := 2000000) (disch := omega) only [go_sem, ↓reduceIte, Nat.reduceEqDiff, Nat.reduceAdd, Nat.reduceMul, Nat.reduceSub, Int.reduceToNat, Int.reduceAdd, Int.reduceSub, Int.reduceMul, Int.reduceNeg] | with_reducible refine vIf_t ?_ | with_reducible refine vIf_f ?_)); all_goals (try simp); all_goals (try omega)); done))
      · rw [decide_eq_false z1] at hgx
        have z0 : ¬ x ∈ c.od := fun e => z1 (List.mem_append.2 (.inr e))
        have z2 : ¬ x ∈ c.op := fun e => z1 (List.mem_append.2 (.inl e))
        have hset2 : (usd l.hs.length (c.op ++ c.od)).set x.toNat true = usd l.hs.length ((c.op ++ [x]) ++ c.od) := usd_put _ _ _ _ (by omega) (fun y => by
          simp only [List.mem_append, List.mem_singleton]
          constructor
          · rintro ((q | q) | q)
            · exact .inl (.inl q)
            · exact .inr q
            · exact .inl (.inr q)
          · rintro ((q | q) | q)
            · exact .inl (.inl q)
            · exact .inr q
            · exact .inl (.inr q))
        rw [s4 z0 z2] at hRs
        (try (repeat (first | simp (maxSteps := 2000000) (disch := omega) only [go_sem, ↓reduceIte, Nat.reduceEqDiff, Nat.reduceAdd, Nat.reduceMul, Nat.reduceSub, Int.reduceToNat, Int.reduceAdd, Int.reduceSub, Int.reduceMul, Int.reduceNeg, hgx, hRl, hulc, hset2] | with_reducible refine vIf_t ?_ | with_reducible refine vIf_f ?_)))
        refine againF (j + 1) (by omega) (by omega) ?_
        rw [hRs]
        dsimp only
        try unfold lC
        (first | (refine leF_s ?_; ((repeat (first | simp (maxSteps := 2000000) (disch := omega) only [go_sem, ↓reduceIte, Nat.reduceEqDiff, Nat.reduceAdd, Nat.reduceMul, Nat.reduceSub, Int.reduceToNat, Int.reduceAdd, Int.reduceSub, Int.reduceMul, Int.reduceNeg] | with_reducible refine vIf_t ?_ | with_reducible refine vIf_f ?_)); all_goals (try simp); all_goals (try omega)); done) | (refine leF_p ?_; ((repeat (first | simp (maxSteps := 2000000) (disch := omega) only [go_sem, ↓reduceIte, Nat.reduceEqDiff, Nat.reduceAdd, Nat.reduceMul, Nat.reduceSub, Int.reduceToNat, Int.reduceAdd, Int.reduceSub, Int.reduceMul, Int.reduceNeg] | with_reducible refine vIf_t ?_ | with_reducible refine vIf_f ?_)); all_goals (try simp); all_goals (try omega)); done))
    · have ej : j = xs.length := by omega
      subst ej
      rw [List.take_length] at hC
      rw [hC] at hNd
      rw [hNd] at hKs
      (repeat (first | simp (maxSteps := 2000000) (disch := omega) only [go_sem, ↓reduceIte, Nat.reduceEqDiff, Nat.reduceAdd, Nat.reduceMul, Nat.reduceSub, Int.reduceToNat, Int.reduceAdd, Int.reduceSub, Int.reduceMul, Int.reduceNeg] | with_reducible refine vIf_t ?_ | with_reducible refine vIf_f ?_))
      refine againF (k + 1) (by omega) (by omega) ?_
      rw [hKs, hR2]
      try unfold lC
      (first | (refine leF_s ?_; ((repeat (first | simp (maxSteps := 2000000) (disch := omega) only [go_sem, ↓reduceIte, Nat.reduceEqDiff, Nat.reduceAdd, Nat.reduceMul, Nat.reduceSub, Int.reduceToNat, Int.reduceAdd, Int.reduceSub, Int.reduceMul, Int.reduceNeg] | with_reducible refine vIf_t ?_ | with_reducible refine vIf_f ?_)); all_goals (try simp); all_goals (try omega)); done) | (refine leF_p ?_; ((repeat (first | simp (maxSteps := 2000000) (disch := omega) only [go_sem, ↓reduceIte, Nat.reduceEqDiff, Nat.reduceAdd, Nat.reduceMul, Nat.reduceSub, Int.reduceToNat, Int.reduceAdd, Int.reduceSub, Int.reduceMul, Int.reduceNeg] | with_reducible refine vIf_t ?_ | with_reducible refine vIf_f ?_)); all_goals (try simp); all_goals (try omega)); done))
end Go.Proofs.Ythgjcanhemohfaa

/- surfaces of a flooded land: the program's walk -/
import Derived.Test.YthgjcanhemohfaaSpF
import Derived.Test.YthgjcanhemohfaaRowR
import Derived.Test.YthgjcanhemohfaaSrc2
set_option linter.unusedVariables false
set_option linter.unusedSimpArgs false
namespace Go.Proofs.Ythgjcanhemohfaa
open Go.AG

attribute [local go_sem] beq_self_eq_true bne_self_eq_false Bool.not_true Bool.not_false
theorem spS_1 {l : Ld} {b x : Int} {a : Sp} (h : x ∈ a.od) : spS l b a x = a := if_neg fun g => g.1 h
theorem spS_2 {l : Ld} {b x : Int} {a : Sp} (h : x ∈ a.op) (hm : ¬ mxI (ga a.out b) (ga l.hs x) < ga a.out x) : spS l b a x = a := if_neg fun g => g.2.elim (fun e => e h) hm
theorem spS_3 {l : Ld} {b x : Int} {a : Sp} (h1 : ¬ x ∈ a.od) (h : x ∈ a.op) (hm : mxI (ga a.out b) (ga l.hs x) < ga a.out x) : spS l b a x = ⟨a.out.set x.toNat (mxI (ga a.out b) (ga l.hs x)), a.op, a.od⟩ := by
  unfold spS
  rw [if_pos ⟨h1, .inr hm⟩, if_pos h]
theorem spS_4 {l : Ld} {b x : Int} {a : Sp} (h1 : ¬ x ∈ a.od) (h : ¬ x ∈ a.op) : spS l b a x = ⟨a.out.set x.toNat (mxI (ga a.out b) (ga l.hs x)), a.op ++ [x], a.od⟩ := by
  unfold spS
  rw [if_pos ⟨h1, .inl h⟩, if_neg h]
theorem spE_len {l : Ld} (hok : okL l = true) {fr : List Int} (hfr : ∀ o ∈ fr, inC l o) : (spE l fr).out.length = l.hs.length ∧ (spE l fr).od.length ≤ l.hs.length :=
  ⟨(spK_ok hok fr hfr _).1.len, by have := spK_len (spK_ok hok fr hfr l.hs.length).1; unfold spE; omega⟩
set_option maxRecDepth 100000 in
set_option maxHeartbeats 16000000 in
theorem spread_ok (l : Ld) (fr : List Int) (hok : okL l = true) (hfr : ∀ o ∈ fr, inC l o) (hfl : fr.length ≤ 1000) : ACalls Try.prog 110 [.agg (lC l), .sl fr.length (ints fr)] [] (fun r o => r = .tup [.ref 0 0 l.hs.length, .ref 1 0 (spE l fr).od.length] ∧ o = [oI (spE l fr).out, oI (spE l fr).od]) := by
  refine ACalls.of_vc Try.func110 rfl (by decide) 124 rfl [.tmp 4, .tmp 5] rfl (by simp) ?_
  have hn : l.hs.length ≤ 144 := by
    simp only [okL, Bool.and_eq_true, decide_eq_true_eq] at hok
    obtain ⟨⟨⟨q1, q2⟩, q3⟩, q4⟩ := hok
    have := mul12 q1 q2
    omega
  unfold lC
  (repeat (first | simp (maxSteps := 2000000) (disch := omega) only [go_sem, ↓reduceIte, Nat.reduceEqDiff, Nat.reduceAdd, Nat.reduceMul, Nat.reduceSub, Int.reduceToNat, Int.reduceAdd, Int.reduceSub, Int.reduceMul, Int.reduceNeg] | with_reducible refine vIf_t ?_ | with_reducible refine vIf_f ?_))
  refine vcLoop_invF (fun k : Nat => k ≤ fr.length) (fun k => ⟨124, 0, [(26, I k), (2, .ptr 0 0), (6, .ref 1 0 l.hs.length), (7, .mp 2), (8, .mp 3), (24, .sl fr.length (ints fr)), (25, I fr.length)], [some ⟨3, lC l⟩, oI (spI l (fr.take k)).out, some ⟨4294967291, mpI (mpB [])⟩, some ⟨4294967291, mpI (mpB (spI l (fr.take k)).op)⟩]⟩) (fun k => fr.length - k) 0 (by omega) (by rw [show spI l (fr.take 0) = ⟨List.replicate l.hs.length 0, [], []⟩ from rfl]; unfold lC; (first | (refine leF_s ?_; ((repeat (first | simp (maxSteps := 2000000) (disch := omega) only [go_sem, ↓reduceIte, Nat.reduceEqDiff, Nat.reduceAdd, Nat.reduceMul, Nat.reduceSub, Int.reduceToNat, Int.reduceAdd, Int.reduceSub, Int.reduceMul, Int.reduceNeg] | with_reducible refine vIf_t ?_ | with_reducible refine vIf_f ?_)); all_goals (try simp); all_goals (try omega)); done) | (refine leF_p ?_; ((repeat (first | simp (maxSteps := 2000000) (disch := omega) only [go_sem, ↓reduceIte, Nat.reduceEqDiff, Nat.reduceAdd, Nat.reduceMul, Nat.reduceSub, Int.reduceToNat, Int.reduceAdd, Int.reduceSub, Int.reduceMul, Int.reduceNeg] | with_reducible refine vIf_t ?_ | with_reducible refine vIf_f ?_)); all_goals (try simp); all_goals (try omega)); done))) ?_
  intro k hk
  have hI := (spI_ok hok (fr.take k) (fun o ho => hfr o (List.mem_of_mem_take ho))).1
  have hlen := hI.len
  have hsu := spI_succ l fr k
  generalize hA : spI l (fr.take k) = a at *
  unfold lC oI
  (repeat (first | simp (maxSteps := 2000000) (disch := omega) only [go_sem, ↓reduceIte, Nat.reduceEqDiff, Nat.reduceAdd, Nat.reduceMul, Nat.reduceSub, Int.reduceToNat, Int.reduceAdd, Int.reduceSub, Int.reduceMul, Int.reduceNeg] | with_reducible refine vIf_t ?_ | with_reducible refine vIf_f ?_))
  refine vIf_dec (fun h => ?_) (fun h => ?_)
  · have hkl : k < fr.length := by omega
    have hsu := hsu hkl
    have hc : inC l (gi fr k) := hfr _ (gi_mem _ _ hkl)
    have hcb : 0 ≤ gi fr k ∧ gi fr k ≤ (l.hs.length : Int) - 1 := hc
    generalize hce : gi fr k = c at *
    (repeat (first | simp (maxSteps := 2000000) (disch := omega) only [go_sem, ↓reduceIte, Nat.reduceEqDiff, Nat.reduceAdd, Nat.reduceMul, Nat.reduceSub, Int.reduceToNat, Int.reduceAdd, Int.reduceSub, Int.reduceMul, Int.reduceNeg, hce, hlen] | with_reducible refine vIf_t ?_ | with_reducible refine vIf_f ?_))
    refine againF (k + 1) (by omega) (by omega) ?_
    rw [hsu]
    unfold spP
    dsimp only
    try unfold lC
    (first | (refine leF_s ?_; ((repeat (first | simp (maxSteps := 2000000) (disch := omega) only [go_sem, ↓reduceIte, Nat.reduceEqDiff, Nat.reduceAdd, Nat.reduceMul, Nat.reduceSub, Int.reduceToNat, Int.reduceAdd, Int.reduceSub, Int.reduceMul, Int.reduceNeg] | with_reducible refine vIf_t ?_ | with_reducible refine vIf_f ?_)); all_goals (try simp); all_goals (try omega)); done) | (refine leF_p ?_; ((repeat (first | simp (maxSteps := 2000000) (disch := omega) only [go_sem, ↓reduceIte, Nat.reduceEqDiff, Nat.reduceAdd, Nat.reduceMul, Nat.reduceSub, Int.reduceToNat, Int.reduceAdd, Int.reduceSub, Int.reduceMul, Int.reduceNeg] | with_reducible refine vIf_t ?_ | with_reducible refine vIf_f ?_)); all_goals (try simp); all_goals (try omega)); done))
  have ek : k = fr.length := by omega
  subst ek
  rw [List.take_length] at hA
  subst hA
  clear hsu hI hk
  have hod0 := (spI_ok hok fr hfr).2
  (repeat (first | simp (maxSteps := 2000000) (disch := omega) only [go_sem, ↓reduceIte, Nat.reduceEqDiff, Nat.reduceAdd, Nat.reduceMul, Nat.reduceSub, Int.reduceToNat, Int.reduceAdd, Int.reduceSub, Int.reduceMul, Int.reduceNeg] | with_reducible refine vIf_t ?_ | with_reducible refine vIf_f ?_))
  refine vcLoop_invF (fun k : Nat => k ≤ l.hs.length) (fun k => ⟨124, 0, [(2, .ptr 0 0), (6, .ref 1 0 l.hs.length), (7, .mp 2), (8, .mp 3), (11, .ref 4 0 (spK l fr k).od.length)], [some ⟨3, lC l⟩, oI (spK l fr k).out, some ⟨4294967291, mpI (mpB (spK l fr k).od)⟩, some ⟨4294967291, mpI (mpB (spK l fr k).op)⟩, oI (spK l fr k).od]⟩) (fun k => l.hs.length - k) 0 (by omega) (by rw [show spK l fr 0 = spI l fr from rfl, hod0]; unfold lC; (first | (refine leF_s ?_; ((repeat (first | simp (maxSteps := 2000000) (disch := omega) only [go_sem, ↓reduceIte, Nat.reduceEqDiff, Nat.reduceAdd, Nat.reduceMul, Nat.reduceSub, Int.reduceToNat, Int.reduceAdd, Int.reduceSub, Int.reduceMul, Int.reduceNeg] | with_reducible refine vIf_t ?_ | with_reducible refine vIf_f ?_)); all_goals (try simp); all_goals (try omega)); done) | (refine leF_p ?_; ((repeat (first | simp (maxSteps := 2000000) (disch := omega) only [go_sem, ↓reduceIte, Nat.reduceEqDiff, Nat.reduceAdd, Nat.reduceMul, Nat.reduceSub, Int.reduceToNat, Int.reduceAdd, Int.reduceSub, Int.reduceMul, Int.reduceNeg] | with_reducible refine vIf_t ?_ | with_reducible refine vIf_f ?_)); all_goals (try simp); all_goals (try omega)); done))) ?_
  intro k hk
  obtain ⟨hK1, hK2, hK3⟩ := spK_ok hok fr hfr k
  have hlen := hK1.len
  have hle := spK_len hK1
  have hKs : spK l fr (k + 1) = if (spK l fr k).op = [] then spK l fr k else spN l (spK l fr k) := rfl
  have hEe := spE_eq (l := l) (fr := fr) hk
  generalize hA : spK l fr k = a at *
  unfold lC oI
  (repeat (first | simp (maxSteps := 2000000) (disch := omega) only [go_sem, ↓reduceIte, Nat.reduceEqDiff, Nat.reduceAdd, Nat.reduceMul, Nat.reduceSub, Int.reduceToNat, Int.reduceAdd, Int.reduceSub, Int.reduceMul, Int.reduceNeg] | with_reducible refine vIf_t ?_ | with_reducible refine vIf_f ?_))
  refine vIf_dec (fun h => ?_) (fun h => ?_)
  · have hne : a.op ≠ [] := by intro e; rw [e] at h; simp at h
    have hpos := List.length_pos_iff.2 hne
    have hk2 := hK2 hne
    obtain ⟨hb1, hb2⟩ := spB_ok hK1 hne
    obtain ⟨hT1, hT2, hT3⟩ := spT_ok hK1 _ hb1 hb2
    have hbc : inC l (spB l a) := hK1.cel _ (List.mem_append.2 (.inl hb1))
    have hbb : 0 ≤ spB l a ∧ spB l a ≤ (l.hs.length : Int) - 1 := hbc
    have hbn : ¬ spB l a ∈ a.od := fun e => by
      have := hK1.nd
      rw [List.nodup_append] at this
      exact this.2.2 _ hb1 _ e rfl
    rw [if_neg hne] at hKs
    have hNd : spN l a = spR l (spB l a) (spT a (spB l a)) (near l (spB l a)) := rfl
    have hBd : spB l a = bsK a.out a.op l.hs.length := rfl
    generalize spB l a = b at *
    (repeat (first | simp (maxSteps := 2000000) (disch := omega) only [go_sem, ↓reduceIte, Nat.reduceEqDiff, Nat.reduceAdd, Nat.reduceMul, Nat.reduceSub, Int.reduceToNat, Int.reduceAdd, Int.reduceSub, Int.reduceMul, Int.reduceNeg, hlen] | with_reducible refine vIf_t ?_ | with_reducible refine vIf_f ?_))
    refine vcLoop_invF (fun i : Nat => i ≤ l.hs.length) (fun i => ⟨124, 0, [(47, I i), (12, I (bsK a.out a.op i)), (2, .ptr 0 0), (6, .ref 1 0 l.hs.length), (7, .mp 2), (8, .mp 3), (11, .ref 4 0 a.od.length), (46, I l.hs.length)], [some ⟨3, lC l⟩, oI a.out, some ⟨4294967291, mpI (mpB a.od)⟩, some ⟨4294967291, mpI (mpB a.op)⟩, oI a.od]⟩) (fun i => l.hs.length - i) 0 (by omega) (by rw [show bsK a.out a.op 0 = -1 from rfl]; unfold lC; (first | (refine leF_s ?_; ((repeat (first | simp (maxSteps := 2000000) (disch := omega) only [go_sem, ↓reduceIte, Nat.reduceEqDiff, Nat.reduceAdd, Nat.reduceMul, Nat.reduceSub, Int.reduceToNat, Int.reduceAdd, Int.reduceSub, Int.reduceMul, Int.reduceNeg] | with_reducible refine vIf_t ?_ | with_reducible refine vIf_f ?_)); all_goals (try simp); all_goals (try omega)); done) | (refine leF_p ?_; ((repeat (first | simp (maxSteps := 2000000) (disch := omega) only [go_sem, ↓reduceIte, Nat.reduceEqDiff, Nat.reduceAdd, Nat.reduceMul, Nat.reduceSub, Int.reduceToNat, Int.reduceAdd, Int.reduceSub, Int.reduceMul, Int.reduceNeg] | with_reducible refine vIf_t ?_ | with_reducible refine vIf_f ?_)); all_goals (try simp); all_goals (try omega)); done))) ?_
    intro i hi
    have hqb := bsK_bd a.out a.op i
    have hqs : bsK a.out a.op (i + 1) = if (i : Int) ∈ a.op ∧ (bsK a.out a.op i < 0 ∨ gi a.out i < ga a.out (bsK a.out a.op i)) then (i : Int) else bsK a.out a.op i := rfl
    generalize hqe : bsK a.out a.op i = q at *
    unfold lC oI
    (repeat (first | simp (maxSteps := 2000000) (disch := omega) only [go_sem, ↓reduceIte, Nat.reduceEqDiff, Nat.reduceAdd, Nat.reduceMul, Nat.reduceSub, Int.reduceToNat, Int.reduceAdd, Int.reduceSub, Int.reduceMul, Int.reduceNeg] | with_reducible refine vIf_t ?_ | with_reducible refine vIf_f ?_))
    refine vIf_dec (fun h5 => ?_) (fun h5 => ?_)
    · have hil : i < l.hs.length := by omega
      (repeat (first | simp (maxSteps := 2000000) (disch := omega) only [go_sem, ↓reduceIte, Nat.reduceEqDiff, Nat.reduceAdd, Nat.reduceMul, Nat.reduceSub, Int.reduceToNat, Int.reduceAdd, Int.reduceSub, Int.reduceMul, Int.reduceNeg] | with_reducible refine vIf_t ?_ | with_reducible refine vIf_f ?_))
      (refine vDraw_sch 15 [(0, false), (1, false), (2, false), (3, false), (4, false), (5, false), (6, false), (7, false), (8, false), (9, false), (10, false), (11, false), (12, false), (13, false), (14, false)] mixed (by kernel_rfl) ?_; simp only [List.cons_append, List.nil_append, List.map_cons, List.map_nil, nthO_zero, nthO_succ, List.drop_succ_cons, List.drop_zero, List.drop_nil]; (repeat (first | simp (maxSteps := 2000000) (disch := omega) only [go_sem, ↓reduceIte, Nat.reduceEqDiff, Nat.reduceAdd, Nat.reduceMul, Nat.reduceSub, Int.reduceToNat, Int.reduceAdd, Int.reduceSub, Int.reduceMul, Int.reduceNeg] | with_reducible refine vIf_t ?_ | with_reducible refine vIf_f ?_)))
      by_cases z1 : (i : Int) ∈ a.op
      · by_cases z2 : q < 0
        · have d2 : decide (q < 0) = true := decide_eq_true z2
          rw [if_pos ⟨z1, .inl z2⟩] at hqs
          (try (repeat (first | simp (maxSteps := 2000000) (disch := omega) only [go_sem, ↓reduceIte, Nat.reduceEqDiff, Nat.reduceAdd, Nat.reduceMul, Nat.reduceSub, Int.reduceToNat, Int.reduceAdd, Int.reduceSub, Int.reduceMul, Int.reduceNeg, z1, d2, hlen] | with_reducible refine vIf_t ?_ | with_reducible refine vIf_f ?_)))
          refine againF (i + 1) (by omega) (by omega) ?_
          rw [hqs]
          try unfold lC
          (first | (refine leF_s ?_; ((repeat (first | simp (maxSteps := 2000000) (disch := omega) only [go_sem, ↓reduceIte, Nat.reduceEqDiff, Nat.reduceAdd, Nat.reduceMul, Nat.reduceSub, Int.reduceToNat, Int.reduceAdd, Int.reduceSub, Int.reduceMul, Int.reduceNeg] | with_reducible refine vIf_t ?_ | with_reducible refine vIf_f ?_)); all_goals (try simp); all_goals (try omega)); done) | (refine leF_p ?_; ((repeat (first | simp (maxSteps := 2000000) (disch := omega) only [go_sem, ↓reduceIte, Nat.reduceEqDiff, Nat.reduceAdd, Nat.reduceMul, Nat.reduceSub, Int.reduceToNat, Int.reduceAdd, Int.reduceSub, Int.reduceMul, Int.reduceNeg] | with_reducible refine vIf_t ?_ | with_reducible refine vIf_f ?_)); all_goals (try simp); all_goals (try omega)); done))
        · have d2 : decide (q < 0) = false := decide_eq_false z2
          have z2b : q.toNat < l.hs.length := by omega
          (try (repeat (first | simp (maxSteps := 2000000) (disch := omega) only [go_sem, ↓reduceIte, Nat.reduceEqDiff, Nat.reduceAdd, Nat.reduceMul, Nat.reduceSub, Int.reduceToNat, Int.reduceAdd, Int.reduceSub, Int.reduceMul, Int.reduceNeg, z1, d2, hlen] | with_reducible refine vIf_t ?_ | with_reducible refine vIf_f ?_)))
          by_cases z3 : gi a.out i < gi a.out q.toNat
          · have d3 : decide (gi a.out i < gi a.out q.toNat) = true := decide_eq_true z3
            rw [if_pos ⟨z1, .inr z3⟩] at hqs
            (try (repeat (first | simp (maxSteps := 2000000) (disch := omega) only [go_sem, ↓reduceIte, Nat.reduceEqDiff, Nat.reduceAdd, Nat.reduceMul, Nat.reduceSub, Int.reduceToNat, Int.reduceAdd, Int.reduceSub, Int.reduceMul, Int.reduceNeg, d3, hlen] | with_reducible refine vIf_t ?_ | with_reducible refine vIf_f ?_)))
            refine againF (i + 1) (by omega) (by omega) ?_
            rw [hqs]
            try unfold lC
            (first | (refine leF_s ?_; ((repeat (first | simp (maxSteps := 2000000) (disch := omega) only [go_sem, ↓reduceIte, Nat.reduceEqDiff, Nat.reduceAdd, Nat.reduceMul, Nat.reduceSub, Int.reduceToNat, Int.reduceAdd, Int.reduceSub, Int.reduceMul, Int.reduceNeg] | with_reducible refine vIf_t ?_ | with_reducible refine vIf_f ?_)); all_goals (try simp); all_goals (try omega)); done) | (refine leF_p ?_; ((repeat (first | simp (maxSteps := 2000000) (disch := omega) only [go_sem, ↓reduceIte, Nat.reduceEqDiff, Nat.reduceAdd, Nat.reduceMul, Nat.reduceSub, Int.reduceToNat, Int.reduceAdd, Int.reduceSub, Int.reduceMul, Int.reduceNeg] | with_reducible refine vIf_t ?_ | with_reducible refine vIf_f ?_)); all_goals (try simp); all_goals (try omega)); done))
          · have d3 : decide (gi a.out i < gi a.out q.toNat) = false := decide_eq_false z3
            rw [if_neg (fun e => e.2.elim z2 z3)] at hqs
            (try (repeat (first | simp (maxSteps := 2000000) (disch := omega) only [go_sem, ↓reduceIte, Nat.reduceEqDiff, Nat.reduceAdd, Nat.reduceMul, Nat.reduceSub, Int.reduceToNat, Int.reduceAdd, Int.reduceSub, Int.reduceMul, Int.reduceNeg, d3, hlen] | with_reducible refine vIf_t ?_ | with_reducible refine vIf_f ?_)))
            refine againF (i + 1) (by omega) (by omega) ?_
            rw [hqs]
            try unfold lC
            (first | (refine leF_s ?_; ((repeat (first | simp (maxSteps := 2000000) (disch := omega) only [go_sem, ↓reduceIte, Nat.reduceEqDiff, Nat.reduceAdd, Nat.reduceMul, Nat.reduceSub, Int.reduceToNat, Int.reduceAdd, Int.reduceSub, Int.reduceMul, Int.reduceNeg] | with_reducible refine vIf_t ?_ | with_reducible refine vIf_f ?_)); all_goals (try simp); all_goals (try omega)); done) | (refine leF_p ?_; ((repeat (first | simp (maxSteps := 2000000) (disch := omega) only [go_sem, ↓reduceIte, Nat.reduceEqDiff, Nat.reduceAdd, Nat.reduceMul, Nat.reduceSub, Int.reduceToNat, Int.reduceAdd, Int.reduceSub, Int.reduceMul, Int.reduceNeg] | with_reducible refine vIf_t ?_ | with_reducible refine vIf_f ?_)); all_goals (try simp); all_goals (try omega)); done))
      · rw [if_neg (fun e => z1 e.1)] at hqs
        (try (repeat (first | simp (maxSteps := 2000000) (disch := omega) only [go_sem, ↓reduceIte, Nat.reduceEqDiff, Nat.reduceAdd, Nat.reduceMul, Nat.reduceSub, Int.reduceToNat, Int.reduceAdd, Int.reduceSub, Int.reduceMul, Int.reduceNeg, z1] | with_reducible refine vIf_t ?_ | with_reducible refine vIf_f ?_)))
        refine againF (i + 1) (by omega) (by omega) ?_
        rw [hqs]
        try unfold lC
        (first | (refine leF_s ?_; ((repeat (first | simp (maxSteps := 2000000) (disch := omega) only [go_sem, ↓reduceIte, Nat.reduceEqDiff, Nat.reduceAdd, Nat.reduceMul, Nat.reduceSub, Int.reduceToNat, Int.reduceAdd, Int.reduceSub, Int.reduceMul, Int.reduceNeg] | with_reducible refine vIf_t ?_ | with_reducible refine vIf_f ?_)); all_goals (try simp); all_goals (try omega)); done) | (refine leF_p ?_; ((repeat (first | simp (maxSteps := 2000000) (disch := omega) only [go_sem, ↓reduceIte, Nat.reduceEqDiff, Nat.reduceAdd, Nat.reduceMul, Nat.reduceSub, Int.reduceToNat, Int.reduceAdd, Int.reduceSub, Int.reduceMul, Int.reduceNeg] | with_reducible refine vIf_t ?_ | with_reducible refine vIf_f ?_)); all_goals (try simp); all_goals (try omega)); done))
    have ei : i = l.hs.length := by omega
    subst ei
    rw [← hBd] at hqe
    subst hqe
    clear hqs hqb
    have hnx := (next_ok l b (Cl.of2 hok hbc)).fzI
    have hnl := nearK_len l b 4
    have hnin := near_in l hok b hbc
    have hR := fun j => spR_ok hok b ((near l b).take j) hT1 hT2 hT3 (fun x hx => List.mem_of_mem_take hx)
    have hRlen := fun j => spK_len (hR j).1
    have hTod : (spT a b).od = a.od ++ [b] := rfl
    have hTout : (spT a b).out = a.out := rfl
    have hTop : (spT a b).op = a.op.erase b := rfl
    have hRs := fun j => spR_succ l b (spT a b) (near l b) j
    change (near l b).length ≤ 4 at hnl
    unfold lC at hnx
    generalize near l b = xs at *
    generalize hTe : spT a b = t at *
    (repeat (first | simp (maxSteps := 2000000) (disch := omega) only [go_sem, ↓reduceIte, Nat.reduceEqDiff, Nat.reduceAdd, Nat.reduceMul, Nat.reduceSub, Int.reduceToNat, Int.reduceAdd, Int.reduceSub, Int.reduceMul, Int.reduceNeg, hbn] | with_reducible refine vIf_t ?_ | with_reducible refine vIf_f ?_))
    (refine vCallX_of ?_; (repeat (first | simp (maxSteps := 2000000) (disch := omega) only [go_sem, ↓reduceIte, Nat.reduceEqDiff, Nat.reduceAdd, Nat.reduceMul, Nat.reduceSub, Int.reduceToNat, Int.reduceAdd, Int.reduceSub, Int.reduceMul, Int.reduceNeg] | with_reducible refine vIf_t ?_ | with_reducible refine vIf_f ?_)); refine vCall_eq (hnx) (by simp (disch := omega) only [go_sem, Nat.reduceAdd]) rfl (by first | exact Or.inl rfl | exact Or.inr ⟨rfl, rfl⟩ | (apply Or.inr; simp only [go_sem])) ?_; (repeat (first | simp (maxSteps := 2000000) (disch := omega) only [go_sem, ↓reduceIte, Nat.reduceEqDiff, Nat.reduceAdd, Nat.reduceMul, Nat.reduceSub, Int.reduceToNat, Int.reduceAdd, Int.reduceSub, Int.reduceMul, Int.reduceNeg] | with_reducible refine vIf_t ?_ | with_reducible refine vIf_f ?_)))
    refine vcLoop_invF (fun j : Nat => j ≤ xs.length) (fun j => ⟨124, 0, [(83, I j), (2, .ptr 0 0), (6, .ref 1 0 l.hs.length), (7, .mp 2), (8, .mp 3), (11, .ref 4 0 (a.od.length + 1)), (12, I b), (81, .sl xs.length (ints xs)), (82, I xs.length)], [some ⟨3, lC l⟩, oI (spR l b t (xs.take j)).out, some ⟨4294967291, mpI (mpB (a.od ++ [b]))⟩, some ⟨4294967291, mpI (mpB (spR l b t (xs.take j)).op)⟩, oI (a.od ++ [b])]⟩) (fun j => xs.length - j) 0 (by omega) (by rw [show spR l b t (xs.take 0) = t from by simp [spR], hTout, hTop]; unfold lC; (first | (refine leF_s ?_; ((repeat (first | simp (maxSteps := 2000000) (disch := omega) only [go_sem, ↓reduceIte, Nat.reduceEqDiff, Nat.reduceAdd, Nat.reduceMul, Nat.reduceSub, Int.reduceToNat, Int.reduceAdd, Int.reduceSub, Int.reduceMul, Int.reduceNeg] | with_reducible refine vIf_t ?_ | with_reducible refine vIf_f ?_)); all_goals (try simp); all_goals (try omega)); done) | (refine leF_p ?_; ((repeat (first | simp (maxSteps := 2000000) (disch := omega) only [go_sem, ↓reduceIte, Nat.reduceEqDiff, Nat.reduceAdd, Nat.reduceMul, Nat.reduceSub, Int.reduceToNat, Int.reduceAdd, Int.reduceSub, Int.reduceMul, Int.reduceNeg] | with_reducible refine vIf_t ?_ | with_reducible refine vIf_f ?_)); all_goals (try simp); all_goals (try omega)); done))) ?_
    intro j hj
    obtain ⟨hR1, hR2, hR3⟩ := hR j
    have hRl := hR1.len
    have hRs := hRs j
    rw [hTod] at hR2
    generalize hC : spR l b t (xs.take j) = c at *
    unfold lC oI
    (repeat (first | simp (maxSteps := 2000000) (disch := omega) only [go_sem, ↓reduceIte, Nat.reduceEqDiff, Nat.reduceAdd, Nat.reduceMul, Nat.reduceSub, Int.reduceToNat, Int.reduceAdd, Int.reduceSub, Int.reduceMul, Int.reduceNeg] | with_reducible refine vIf_t ?_ | with_reducible refine vIf_f ?_))
    refine vIf_dec (fun h6 => ?_) (fun h6 => ?_)
    · have hjl : j < xs.length := by omega
      have hRs := hRs hjl
      have hxc : inC l (gi xs j) := hnin _ (gi_mem _ _ hjl)
      have hxb : 0 ≤ gi xs j ∧ gi xs j ≤ (l.hs.length : Int) - 1 := hxc
      generalize hxe : gi xs j = x at *
      (repeat (first | simp (maxSteps := 2000000) (disch := omega) only [go_sem, ↓reduceIte, Nat.reduceEqDiff, Nat.reduceAdd, Nat.reduceMul, Nat.reduceSub, Int.reduceToNat, Int.reduceAdd, Int.reduceSub, Int.reduceMul, Int.reduceNeg, hxe] | with_reducible refine vIf_t ?_ | with_reducible refine vIf_f ?_))
      (refine vDraw_sch 9 [(0, false), (1, false), (2, false), (4, false), (6, false), (3, false), (5, true), (7, false), (8, true)] mixed (by kernel_rfl) ?_; simp only [List.cons_append, List.nil_append, List.map_cons, List.map_nil, nthO_zero, nthO_succ, List.drop_succ_cons, List.drop_zero, List.drop_nil]; (repeat (first | simp (maxSteps := 2000000) (disch := omega) only [go_sem, ↓reduceIte, Nat.reduceEqDiff, Nat.reduceAdd, Nat.reduceMul, Nat.reduceSub, Int.reduceToNat, Int.reduceAdd, Int.reduceSub, Int.reduceMul, Int.reduceNeg] | with_reducible refine vIf_t ?_ | with_reducible refine vIf_f ?_)))
      have emx : (if gi c.out b.toNat < gi l.hs x.toNat then gi l.hs x.toNat else gi c.out b.toNat) = mxI (ga c.out b) (ga l.hs x) := rfl
      have s1 := fun q => spS_1 (l := l) (b := b) (x := x) (a := c) q
      have s2 := fun q p => spS_2 (l := l) (b := b) (x := x) (a := c) q p
      have s3 := fun q p r => spS_3 (l := l) (b := b) (x := x) (a := c) q p r
      have s4 := fun q p => spS_4 (l := l) (b := b) (x := x) (a := c) q p
      generalize hme : mxI (ga c.out b) (ga l.hs x) = m at *
      (try (repeat (first | simp (maxSteps := 2000000) (disch := omega) only [go_sem, ↓reduceIte, Nat.reduceEqDiff, Nat.reduceAdd, Nat.reduceMul, Nat.reduceSub, Int.reduceToNat, Int.reduceAdd, Int.reduceSub, Int.reduceMul, Int.reduceNeg, hRl, emx] | with_reducible refine vIf_t ?_ | with_reducible refine vIf_f ?_)))
      by_cases z1 : x ∈ a.od ++ [b]
      · rw [s1 (by rw [hR2]; exact z1)] at hRs
        (try (repeat (first | simp (maxSteps := 2000000) (disch := omega) only [go_sem, ↓reduceIte, Nat.reduceEqDiff, Nat.reduceAdd, Nat.reduceMul, Nat.reduceSub, Int.reduceToNat, Int.reduceAdd, Int.reduceSub, Int.reduceMul, Int.reduceNeg, z1] | with_reducible refine vIf_t ?_ | with_reducible refine vIf_f ?_)))
        refine againF (j + 1) (by omega) (by omega) ?_
        rw [hRs]
        try unfold lC
        (first | (refine leF_s ?_; ((repeat (first | simp (maxSteps := 2000000) (disch := omega) only [go_sem, ↓reduceIte, Nat.reduceEqDiff, Nat.reduceAdd, Nat.reduceMul, Nat.reduceSub, Int.reduceToNat, Int.reduceAdd, Int.reduceSub, Int.reduceMul, Int.reduceNeg] | with_reducible refine vIf_t ?_ | with_reducible refine vIf_f ?_)); all_goals (try simp); all_goals (try omega)); done) | (refine leF_p ?_; ((repeat (first | simp (maxSteps := 2000000) (disch := omega) only [go_sem, ↓reduceIte, Nat.reduceEqDiff, Nat.reduceAdd, Nat.reduceMul, Nat.reduceSub, Int.reduceToNat, Int.reduceAdd, Int.reduceSub, Int.reduceMul, Int.reduceNeg] | with_reducible refine vIf_t ?_ | with_reducible refine vIf_f ?_)); all_goals (try simp); all_goals (try omega)); done))
      · by_cases z2 : x ∈ c.op
        · by_cases z3 : m < gi c.out x.toNat
          · have d3 : decide (m < gi c.out x.toNat) = true := decide_eq_true z3
            rw [s3 (by rw [hR2]; exact z1) z2 z3] at hRs
            (try (repeat (first | simp (maxSteps := 2000000) (disch := omega) only [go_sem, ↓reduceIte, Nat.reduceEqDiff, Nat.reduceAdd, Nat.reduceMul, Nat.reduceSub, Int.reduceToNat, Int.reduceAdd, Int.reduceSub, Int.reduceMul, Int.reduceNeg, z1, z2, hRl] | with_reducible refine vIf_t ?_ | with_reducible refine vIf_f ?_)))
            (try (repeat (first | simp (maxSteps := 2000000) (disch := omega) only [go_sem, ↓reduceIte, Nat.reduceEqDiff, Nat.reduceAdd, Nat.reduceMul, Nat.reduceSub, Int.reduceToNat, Int.reduceAdd, Int.reduceSub, Int.reduceMul, Int.reduceNeg, z1, z2, d3, hRl] | with_reducible refine vIf_t ?_ | with_reducible refine vIf_f ?_)))
            refine againF (j + 1) (by omega) (by omega) ?_
            rw [hRs]
            dsimp only
            try unfold lC
            (first | (refine leF_s ?_; ((repeat (first | simp (maxSteps := 2000000) (disch := omega) only [go_sem, ↓reduceIte, Nat.reduceEqDiff, Nat.reduceAdd, Nat.reduceMul, Nat.reduceSub, Int.reduceToNat, Int.reduceAdd, Int.reduceSub, Int.reduceMul, Int.reduceNeg] | with_reducible refine vIf_t ?_ | with_reducible refine vIf_f ?_)); all_goals (try simp); all_goals (try omega)); done) | (refine leF_p ?_; ((repeat (first | simp (maxSteps := 2000000) (disch := omega) only [go_sem, ↓reduceIte, Nat.reduceEqDiff, Nat.reduceAdd, Nat.reduceMul, Nat.reduceSub, Int.reduceToNat, Int.reduceAdd, Int.reduceSub, Int.reduceMul, Int.reduceNeg] | with_reducible refine vIf_t ?_ | with_reducible refine vIf_f ?_)); all_goals (try simp); all_goals (try omega)); done))
          · have d3 : decide (m < gi c.out x.toNat) = false := decide_eq_false z3
            rw [s2 z2 z3] at hRs
            (try (repeat (first | simp (maxSteps := 2000000) (disch := omega) only [go_sem, ↓reduceIte, Nat.reduceEqDiff, Nat.reduceAdd, Nat.reduceMul, Nat.reduceSub, Int.reduceToNat, Int.reduceAdd, Int.reduceSub, Int.reduceMul, Int.reduceNeg, z1, z2, hRl] | with_reducible refine vIf_t ?_ | with_reducible refine vIf_f ?_)))
            (try (repeat (first | simp (maxSteps := 2000000) (disch := omega) only [go_sem, ↓reduceIte, Nat.reduceEqDiff, Nat.reduceAdd, Nat.reduceMul, Nat.reduceSub, Int.reduceToNat, Int.reduceAdd, Int.reduceSub, Int.reduceMul, Int.reduceNeg, z1, z2, d3, hRl] | with_reducible refine vIf_t ?_ | with_reducible refine vIf_f ?_)))
            refine againF (j + 1) (by omega) (by omega) ?_
            rw [hRs]
            try unfold lC
            (first | (refine leF_s ?_; ((repeat (first | simp (maxSteps := 2000000) (disch := omega) only [go_sem, ↓reduceIte, Nat.reduceEqDiff, Nat.reduceAdd, Nat.reduceMul, Nat.reduceSub, Int.reduceToNat, Int.reduceAdd, Int.reduceSub, Int.reduceMul, Int.reduceNeg] | with_reducible refine vIf_t ?_ | with_reducible refine vIf_f ?_)); all_goals (try simp); all_goals (try omega)); done) | (refine leF_p ?_; ((repeat (first | simp (maxSteps := 2000000) (disch := omega) only [go_sem, ↓reduceIte, Nat.reduceEqDiff, Nat.reduceAdd, Nat.reduceMul, Nat.reduceSub, Int.reduceToNat, Int.reduceAdd, Int.reduceSub, Int.reduceMul, Int.reduceNeg] | with_reducible refine vIf_t ?_ | with_reducible refine vIf_f ?_)); all_goals (try simp); all_goals (try omega)); done))
        · rw [s4 (by rw [hR2]; exact z1) z2] at hRs
          (try (repeat (first | simp (maxSteps := 2000000) (disch := omega) only [go_sem, ↓reduceIte, Nat.reduceEqDiff, Nat.reduceAdd, Nat.reduceMul, Nat.reduceSub, Int.reduceToNat, Int.reduceAdd, Int.reduceSub, Int.reduceMul, Int.reduceNeg, z1, z2, hRl] | with_reducible refine vIf_t ?_ | with_reducible refine vIf_f ?_)))
          refine againF (j + 1) (by omega) (by omega) ?_
          rw [hRs]
          dsimp only
          try unfold lC
          (first | (refine leF_s ?_; ((repeat (first | simp (maxSteps := 2000000) (disch := omega) only [go_sem, ↓reduceIte, Nat.reduceEqDiff, Nat.reduceAdd, Nat.reduceMul, Nat.reduceSub, Int.reduceToNat, Int.reduceAdd, Int.reduceSub, Int.reduceMul, Int.reduceNeg] | with_reducible refine vIf_t ?_ | with_reducible refine vIf_f ?_)); all_goals (try simp); all_goals (try omega)); done) | (refine leF_p ?_; ((repeat (first | simp (maxSteps := 2000000) (disch := omega) only [go_sem, ↓reduceIte, Nat.reduceEqDiff, Nat.reduceAdd, Nat.reduceMul, Nat.reduceSub, Int.reduceToNat, Int.reduceAdd, Int.reduceSub, Int.reduceMul, Int.reduceNeg] | with_reducible refine vIf_t ?_ | with_reducible refine vIf_f ?_)); all_goals (try simp); all_goals (try omega)); done))
    · have ej : j = xs.length := by omega
      subst ej
      rw [List.take_length] at hC
      rw [hC] at hNd
      rw [hNd] at hKs
      (repeat (first | simp (maxSteps := 2000000) (disch := omega) only [go_sem, ↓reduceIte, Nat.reduceEqDiff, Nat.reduceAdd, Nat.reduceMul, Nat.reduceSub, Int.reduceToNat, Int.reduceAdd, Int.reduceSub, Int.reduceMul, Int.reduceNeg] | with_reducible refine vIf_t ?_ | with_reducible refine vIf_f ?_))
      refine againF (k + 1) (by omega) (by omega) ?_
      rw [hKs, hR2]
      try unfold lC
      (first | (refine leF_s ?_; ((repeat (first | simp (maxSteps := 2000000) (disch := omega) only [go_sem, ↓reduceIte, Nat.reduceEqDiff, Nat.reduceAdd, Nat.reduceMul, Nat.reduceSub, Int.reduceToNat, Int.reduceAdd, Int.reduceSub, Int.reduceMul, Int.reduceNeg] | with_reducible refine vIf_t ?_ | with_reducible refine vIf_f ?_)); all_goals (try simp); all_goals (try omega)); done) | (refine leF_p ?_; ((repeat (first | simp (maxSteps := 2000000) (disch := omega) only [go_sem, ↓reduceIte, Nat.reduceEqDiff, Nat.reduceAdd, Nat.reduceMul, Nat.reduceSub, Int.reduceToNat, Int.reduceAdd, Int.reduceSub, Int.reduceMul, Int.reduceNeg] | with_reducible refine vIf_t ?_ | with_reducible refine vIf_f ?_)); all_goals (try simp); all_goals (try omega)); done))
  · have hop : a.op = [] := by
      cases hq : a.op with
      | nil => rfl
      | cons x r => rw [hq] at h; simp at h
    have hE := hEe hop
    (repeat (first | simp (maxSteps := 2000000) (disch := omega) only [go_sem, ↓reduceIte, Nat.reduceEqDiff, Nat.reduceAdd, Nat.reduceMul, Nat.reduceSub, Int.reduceToNat, Int.reduceAdd, Int.reduceSub, Int.reduceMul, Int.reduceNeg] | with_reducible refine vIf_t ?_ | with_reducible refine vIf_f ?_))
    (refine retK_of ?_; (repeat (first | simp (maxSteps := 2000000) (disch := omega) only [go_sem, ↓reduceIte, Nat.reduceEqDiff, Nat.reduceAdd, Nat.reduceMul, Nat.reduceSub, Int.reduceToNat, Int.reduceAdd, Int.reduceSub, Int.reduceMul, Int.reduceNeg] | with_reducible refine vIf_t ?_ | with_reducible refine vIf_f ?_)))
    rw [hE]
    exact ⟨rfl, rfl⟩
end Go.Proofs.Ythgjcanhemohfaa

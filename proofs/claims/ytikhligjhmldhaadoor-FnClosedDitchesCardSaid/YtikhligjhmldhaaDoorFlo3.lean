/- nets of ditches: pushes, the greatest flow: walks -/
import Derived.Test.YtikhligjhmldhaaDoorFlo2
set_option linter.unusedVariables false
set_option linter.unusedSimpArgs false
namespace Go.Proofs.YtikhligjhmldhaaDoor
open Go.AG Go.Lib

attribute [local go_sem] beq_self_eq_true bne_self_eq_false Bool.not_true Bool.not_false
theorem Psh.bd2 {n : Nt} (hn : NtF n) {F L K G : List Int} {p : Nat} (h : Psh n F L K G p) : ∀ k, k < n.ds.length → 0 ≤ gi G k ∧ gi G k ≤ 1000 := fun k hk => by
  have := h.bd k hk
  have := (hn.dt hk).c
  omega
theorem Psh.neg {n : Nt} (hn : NtF n) {F : List Int} {from_ : Int} {L K G : List Int} {p : Nat} (hT : Tre n F from_ L K) (h : Psh n F L K G p) : (0 ≤ gi K p) ↔ 1 ≤ p := by
  by_cases e : p = 0
  · subst e; rw [hT.k0]; omega
  · have := (h.next hn hT (by omega)).1
    omega
set_option maxHeartbeats 4000000 in
theorem push_e {n : Nt} (hn : NtF n) {from_ : Int} (hfr : 1 ≤ from_ ∧ from_ < n.j) {F L K : List Int} (hlen : F.length = n.ds.length) (hl : Lf n from_ F) (hT : Tre n F from_ L K) (h0 : (0 : Int) ∈ L) :
    ACalls Tryd.prog 37 [.agg (nC n), .mp 0, .ref 1 0 F.length] [mpO L K, oI F] (fun r o => ∃ G : List Int, r = .tup [] ∧ o = [mpO L K, oI G] ∧ G.length = F.length ∧ Lf n from_ G ∧ ou n G from_ = ou n F from_ + 1) := by
  refine ACalls.of_vc Tryd.func37 rfl (by decide) 41 rfl [] rfl (by simp) ?_
  have hnl := hn.l
  obtain ⟨p0, hp0, e0⟩ := List.mem_iff_getElem.1 h0
  rw [← gi_lt _ _ hp0] at e0
  unfold nC
  (repeat (first | simp (maxSteps := 2000000) (disch := omega) only [go_sem, ↓reduceIte, Nat.reduceEqDiff, Nat.reduceAdd, Nat.reduceMul, Nat.reduceSub, Int.reduceToNat, Int.reduceAdd, Int.reduceSub, Int.reduceMul, Int.reduceNeg] | with_reducible refine vIf_t ?_ | with_reducible refine vIf_f ?_))
  refine vcLoop_invF (fun x : List Int × Nat => Psh n F L K x.1 x.2) (fun x => ⟨41, 2, [(2, .ref 1 0 F.length), (6, I (gi L x.2)), (3, .ptr 2 0), (1, .mp 0)], [mpO L K, oI x.1, some ⟨2, [I n.j, .sl n.ds.length (cDt n.ds)]⟩]⟩) (fun x => x.2) (F, p0) (Psh.zero hlen hl hp0 e0) (by dsimp only; rw [e0]; (first | (refine leF_s ?_; ((repeat (first | simp (maxSteps := 2000000) (disch := omega) only [go_sem, ↓reduceIte, Nat.reduceEqDiff, Nat.reduceAdd, Nat.reduceMul, Nat.reduceSub, Int.reduceToNat, Int.reduceAdd, Int.reduceSub, Int.reduceMul, Int.reduceNeg] | with_reducible refine vIf_t ?_ | with_reducible refine vIf_f ?_)); all_goals (try simp); all_goals (try omega)); done) | (refine leF_p ?_; ((repeat (first | simp (maxSteps := 2000000) (disch := omega) only [go_sem, ↓reduceIte, Nat.reduceEqDiff, Nat.reduceAdd, Nat.reduceMul, Nat.reduceSub, Int.reduceToNat, Int.reduceAdd, Int.reduceSub, Int.reduceMul, Int.reduceNeg] | with_reducible refine vIf_t ?_ | with_reducible refine vIf_f ?_)); all_goals (try simp); all_goals (try omega)); done))) ?_
  rintro ⟨G, p⟩ hP
  simp only at hP
  have hpl := hP.pl
  have hGl := hP.len
  have hg := mgetN_yes L K p hT.ln hT.nd hpl
  have hneg := hP.neg hn hT
  (repeat (first | simp (maxSteps := 2000000) (disch := omega) only [go_sem, ↓reduceIte, Nat.reduceEqDiff, Nat.reduceAdd, Nat.reduceMul, Nat.reduceSub, Int.reduceToNat, Int.reduceAdd, Int.reduceSub, Int.reduceMul, Int.reduceNeg, hg, Option.isSome_some, Option.getD_some] | with_reducible refine vIf_t ?_ | with_reducible refine vIf_f ?_))
  refine vIf_dec (fun h5 => ?_) (fun h5 => ?_)
  · have hp1 : 1 ≤ p := hneg.1 h5
    obtain ⟨a1, j, a2, a3⟩ := hP.next hn hT hp1
    have hb := hP.bd2 hn (gi K p).toNat (by omega)
    have hd := hn.dt (k := (gi K p).toNat) (by omega)
    (repeat (first | simp (maxSteps := 2000000) (disch := omega) only [go_sem, ↓reduceIte, Nat.reduceEqDiff, Nat.reduceAdd, Nat.reduceMul, Nat.reduceSub, Int.reduceToNat, Int.reduceAdd, Int.reduceSub, Int.reduceMul, Int.reduceNeg, hg, Option.isSome_some, Option.getD_some] | with_reducible refine vIf_t ?_ | with_reducible refine vIf_f ?_))
    refine vIf_beq (fun h6 => ?_) (fun h6 => ?_)
    · rcases a3 with ⟨b1, b2, b3⟩ | ⟨b1, _⟩
      · (repeat (first | simp (maxSteps := 2000000) (disch := omega) only [go_sem, ↓reduceIte, Nat.reduceEqDiff, Nat.reduceAdd, Nat.reduceMul, Nat.reduceSub, Int.reduceToNat, Int.reduceAdd, Int.reduceSub, Int.reduceMul, Int.reduceNeg] | with_reducible refine vIf_t ?_ | with_reducible refine vIf_f ?_))
        refine againF (G.set (gi K p).toNat (gi G (gi K p).toNat + 1), j) b3 a2 (by dsimp only; rw [b2]; (first | (refine leF_s ?_; ((repeat (first | simp (maxSteps := 2000000) (disch := omega) only [go_sem, ↓reduceIte, Nat.reduceEqDiff, Nat.reduceAdd, Nat.reduceMul, Nat.reduceSub, Int.reduceToNat, Int.reduceAdd, Int.reduceSub, Int.reduceMul, Int.reduceNeg] | with_reducible refine vIf_t ?_ | with_reducible refine vIf_f ?_)); all_goals (try simp); all_goals (try omega)); done) | (refine leF_p ?_; ((repeat (first | simp (maxSteps := 2000000) (disch := omega) only [go_sem, ↓reduceIte, Nat.reduceEqDiff, Nat.reduceAdd, Nat.reduceMul, Nat.reduceSub, Int.reduceToNat, Int.reduceAdd, Int.reduceSub, Int.reduceMul, Int.reduceNeg] | with_reducible refine vIf_t ?_ | with_reducible refine vIf_f ?_)); all_goals (try simp); all_goals (try omega)); done)))
      · exact absurd h6.symm b1
    · rcases a3 with ⟨b1, _⟩ | ⟨b1, b2, b3, b4⟩
      · exact absurd b1.symm h6
      · (repeat (first | simp (maxSteps := 2000000) (disch := omega) only [go_sem, ↓reduceIte, Nat.reduceEqDiff, Nat.reduceAdd, Nat.reduceMul, Nat.reduceSub, Int.reduceToNat, Int.reduceAdd, Int.reduceSub, Int.reduceMul, Int.reduceNeg] | with_reducible refine vIf_t ?_ | with_reducible refine vIf_f ?_))
        refine againF (G.set (gi K p).toNat (gi G (gi K p).toNat - 1), j) b4 a2 (by dsimp only; rw [b3]; (first | (refine leF_s ?_; ((repeat (first | simp (maxSteps := 2000000) (disch := omega) only [go_sem, ↓reduceIte, Nat.reduceEqDiff, Nat.reduceAdd, Nat.reduceMul, Nat.reduceSub, Int.reduceToNat, Int.reduceAdd, Int.reduceSub, Int.reduceMul, Int.reduceNeg] | with_reducible refine vIf_t ?_ | with_reducible refine vIf_f ?_)); all_goals (try simp); all_goals (try omega)); done) | (refine leF_p ?_; ((repeat (first | simp (maxSteps := 2000000) (disch := omega) only [go_sem, ↓reduceIte, Nat.reduceEqDiff, Nat.reduceAdd, Nat.reduceMul, Nat.reduceSub, Int.reduceToNat, Int.reduceAdd, Int.reduceSub, Int.reduceMul, Int.reduceNeg] | with_reducible refine vIf_t ?_ | with_reducible refine vIf_f ?_)); all_goals (try simp); all_goals (try omega)); done)))
  · have hp0 : p = 0 := by omega
    subst hp0
    obtain ⟨c1, c2⟩ := hP.end hfr hT hl
    (repeat (first | simp (maxSteps := 2000000) (disch := omega) only [go_sem, ↓reduceIte, Nat.reduceEqDiff, Nat.reduceAdd, Nat.reduceMul, Nat.reduceSub, Int.reduceToNat, Int.reduceAdd, Int.reduceSub, Int.reduceMul, Int.reduceNeg] | with_reducible refine vIf_t ?_ | with_reducible refine vIf_f ?_))
    (refine retK_of ?_; (repeat (first | simp (maxSteps := 2000000) (disch := omega) only [go_sem, ↓reduceIte, Nat.reduceEqDiff, Nat.reduceAdd, Nat.reduceMul, Nat.reduceSub, Int.reduceToNat, Int.reduceAdd, Int.reduceSub, Int.reduceMul, Int.reduceNeg] | with_reducible refine vIf_t ?_ | with_reducible refine vIf_f ?_)))
    exact ⟨G, rfl, by omega, c1, c2⟩
theorem most_of {n : Nt} (hn : NtF n) {from_ : Int} (hfr : 1 ≤ from_ ∧ from_ < n.j) {F : List Int} (hl : Lf n from_ F) {L K : List Int} (hT : Tre n F from_ L K) (h0 : ¬ (0 : Int) ∈ L) (hD : ∀ p, p < L.length → Dn n F L (gi L p) n.ds.length) : Most n from_ (ou n F from_) (fun j => decide (j ∈ L)) := by
  have hf : from_ ∈ L := by have := gi_mem L 0 hT.pos; rw [hT.l0] at this; exact this
  refine ⟨decide_eq_true hf, decide_eq_false h0, ⟨F, hl, rfl⟩, ?_⟩
  refine (ou_max hn hfr hl (fun j => decide (j ∈ L)) (decide_eq_true hf) (decide_eq_false h0) (fun k hk u v hr hu => ?_)).symm
  have hu := of_decide_eq_true hu
  obtain ⟨p, hp, e⟩ := List.mem_iff_getElem.1 hu
  rw [← gi_lt _ _ hp] at e
  exact decide_eq_true (hD p hp k hk v (by rw [e]; exact hr))
set_option maxHeartbeats 4000000 in
theorem greatest_e {n : Nt} (hn : NtF n) {from_ : Int} (hfr : 1 ≤ from_ ∧ from_ < n.j) :
    ACalls Tryd.prog 22 [.agg (nC n), I from_] [] (fun r o => ∃ F v S, r = .tup [.ref 0 0 (F : List Int).length, I v] ∧ o = [oI F] ∧ Most n from_ v S) := by
  refine ACalls.of_vc Tryd.func22 rfl (by decide) 38 rfl [.tmp 4, .tmp 5] rfl (by simp) ?_
  have hnl := hn.l
  have hz := Lf.zero hn from_
  unfold nC
  (repeat (first | simp (maxSteps := 2000000) (disch := omega) only [go_sem, ↓reduceIte, Nat.reduceEqDiff, Nat.reduceAdd, Nat.reduceMul, Nat.reduceSub, Int.reduceToNat, Int.reduceAdd, Int.reduceSub, Int.reduceMul, Int.reduceNeg] | with_reducible refine vIf_t ?_ | with_reducible refine vIf_f ?_))
  refine vcLoop_invF (fun x : List Int × Nat => x.1.length = n.ds.length ∧ Lf n from_ x.1 ∧ ou n x.1 from_ = x.2) (fun x => ⟨38, 0, [(7, I x.2), (6, .ref 0 0 n.ds.length), (2, .ptr 1 0), (1, I from_)], [oI x.1, some ⟨2, [I n.j, .sl n.ds.length (cDt n.ds)]⟩]⟩) (fun x => 20001 - x.2) (List.replicate n.ds.length 0, 0) ⟨by simp, hz.1, by simp [hz.2]⟩ (by (first | (refine leF_s ?_; ((repeat (first | simp (maxSteps := 2000000) (disch := omega) only [go_sem, ↓reduceIte, Nat.reduceEqDiff, Nat.reduceAdd, Nat.reduceMul, Nat.reduceSub, Int.reduceToNat, Int.reduceAdd, Int.reduceSub, Int.reduceMul, Int.reduceNeg] | with_reducible refine vIf_t ?_ | with_reducible refine vIf_f ?_)); all_goals (try simp); all_goals (try omega)); done) | (refine leF_p ?_; ((repeat (first | simp (maxSteps := 2000000) (disch := omega) only [go_sem, ↓reduceIte, Nat.reduceEqDiff, Nat.reduceAdd, Nat.reduceMul, Nat.reduceSub, Int.reduceToNat, Int.reduceAdd, Int.reduceSub, Int.reduceMul, Int.reduceNeg] | with_reducible refine vIf_t ?_ | with_reducible refine vIf_f ?_)); all_goals (try simp); all_goals (try omega)); done))) ?_
  rintro ⟨F, t⟩ ⟨hlen, hl, ht⟩
  simp only at hlen hl ht
  have hb := ou_bd hn hl.f from_
  have hr := reached_e hn hfr hlen
  unfold nC at hr
  rw [hlen] at hr
  (repeat (first | simp (maxSteps := 2000000) (disch := omega) only [go_sem, ↓reduceIte, Nat.reduceEqDiff, Nat.reduceAdd, Nat.reduceMul, Nat.reduceSub, Int.reduceToNat, Int.reduceAdd, Int.reduceSub, Int.reduceMul, Int.reduceNeg] | with_reducible refine vIf_t ?_ | with_reducible refine vIf_f ?_))
  (refine vCallX_io [0] ?_; (repeat (first | simp (maxSteps := 2000000) (disch := omega) only [go_sem, ↓reduceIte, Nat.reduceEqDiff, Nat.reduceAdd, Nat.reduceMul, Nat.reduceSub, Int.reduceToNat, Int.reduceAdd, Int.reduceSub, Int.reduceMul, Int.reduceNeg] | with_reducible refine vIf_t ?_ | with_reducible refine vIf_f ?_)); refine vCallIO_ex (hr) (by simp (disch := omega) only [go_sem, Nat.reduceAdd, Nat.reduceEqDiff]) (by simp (disch := omega) only [go_sem, Nat.reduceAdd, Nat.reduceEqDiff]) (by first | rfl | (simp (disch := omega) only [go_sem, Nat.reduceAdd, Nat.reduceEqDiff])) (by first | rfl | (simp (disch := omega) only [go_sem, Nat.reduceAdd, Nat.reduceEqDiff])) (by first | rfl | (simp (disch := omega) only [go_sem, Nat.reduceAdd, Nat.reduceEqDiff])) ?_); rintro _ _ ⟨L, K, S, rfl, rfl, hT, hD⟩; (refine ⟨by first | (simp (disch := omega) only [go_sem, Nat.reduceAdd, Nat.reduceEqDiff]) | trivial, ?_⟩; (repeat (first | simp (maxSteps := 2000000) (disch := omega) only [go_sem, ↓reduceIte, Nat.reduceEqDiff, Nat.reduceAdd, Nat.reduceMul, Nat.reduceSub, Int.reduceToNat, Int.reduceAdd, Int.reduceSub, Int.reduceMul, Int.reduceNeg] | with_reducible refine vIf_t ?_ | with_reducible refine vIf_f ?_)))
  by_cases h0 : (0 : Int) ∈ L
  · obtain ⟨i, hi, e⟩ := List.mem_iff_getElem.1 h0
    rw [← gi_lt _ _ hi] at e
    have hg := mgetN_yes L K i hT.ln hT.nd hi
    rw [e] at hg
    have hp := push_e hn hfr hlen hl hT h0
    unfold nC at hp
    rw [hlen] at hp
    (repeat (first | simp (maxSteps := 2000000) (disch := omega) only [go_sem, ↓reduceIte, Nat.reduceEqDiff, Nat.reduceAdd, Nat.reduceMul, Nat.reduceSub, Int.reduceToNat, Int.reduceAdd, Int.reduceSub, Int.reduceMul, Int.reduceNeg, hg, Option.isSome_some, Option.getD_some] | with_reducible refine vIf_t ?_ | with_reducible refine vIf_f ?_))
    (try (repeat (first | simp (maxSteps := 2000000) (disch := omega) only [go_sem, ↓reduceIte, Nat.reduceEqDiff, Nat.reduceAdd, Nat.reduceMul, Nat.reduceSub, Int.reduceToNat, Int.reduceAdd, Int.reduceSub, Int.reduceMul, Int.reduceNeg, hg, Option.isSome_some, Option.getD_some] | with_reducible refine vIf_t ?_ | with_reducible refine vIf_f ?_)))
    (refine vCallX_io [3, 0] ?_; (repeat (first | simp (maxSteps := 2000000) (disch := omega) only [go_sem, ↓reduceIte, Nat.reduceEqDiff, Nat.reduceAdd, Nat.reduceMul, Nat.reduceSub, Int.reduceToNat, Int.reduceAdd, Int.reduceSub, Int.reduceMul, Int.reduceNeg] | with_reducible refine vIf_t ?_ | with_reducible refine vIf_f ?_)); refine vCallIO_ex (hp) (by simp (disch := omega) only [go_sem, Nat.reduceAdd, Nat.reduceEqDiff]) (by simp (disch := omega) only [go_sem, Nat.reduceAdd, Nat.reduceEqDiff]) (by first | rfl | (simp (disch := omega) only [go_sem, Nat.reduceAdd, Nat.reduceEqDiff])) (by first | rfl | (simp (disch := omega) only [go_sem, Nat.reduceAdd, Nat.reduceEqDiff])) (by first | rfl | (simp (disch := omega) only [go_sem, Nat.reduceAdd, Nat.reduceEqDiff])) ?_); rintro _ _ ⟨G, rfl, rfl, g1, g2, g3⟩; (refine ⟨by first | (simp (disch := omega) only [go_sem, Nat.reduceAdd, Nat.reduceEqDiff]) | trivial, ?_⟩; (repeat (first | simp (maxSteps := 2000000) (disch := omega) only [go_sem, ↓reduceIte, Nat.reduceEqDiff, Nat.reduceAdd, Nat.reduceMul, Nat.reduceSub, Int.reduceToNat, Int.reduceAdd, Int.reduceSub, Int.reduceMul, Int.reduceNeg] | with_reducible refine vIf_t ?_ | with_reducible refine vIf_f ?_)))
    refine againF ((G, t + 1)) ?_ ?_ (by (first | (refine leF_s ?_; ((repeat (first | simp (maxSteps := 2000000) (disch := omega) only [go_sem, ↓reduceIte, Nat.reduceEqDiff, Nat.reduceAdd, Nat.reduceMul, Nat.reduceSub, Int.reduceToNat, Int.reduceAdd, Int.reduceSub, Int.reduceMul, Int.reduceNeg] | with_reducible refine vIf_t ?_ | with_reducible refine vIf_f ?_)); all_goals (try simp); all_goals (try omega)); done) | (refine leF_p ?_; ((repeat (first | simp (maxSteps := 2000000) (disch := omega) only [go_sem, ↓reduceIte, Nat.reduceEqDiff, Nat.reduceAdd, Nat.reduceMul, Nat.reduceSub, Int.reduceToNat, Int.reduceAdd, Int.reduceSub, Int.reduceMul, Int.reduceNeg] | with_reducible refine vIf_t ?_ | with_reducible refine vIf_f ?_)); all_goals (try simp); all_goals (try omega)); done)))
    · exact ⟨by simp only; omega, g2, by simp only; omega⟩
    · simp only; omega
  · have hg := mgetN_no L K 0 h0
    (repeat (first | simp (maxSteps := 2000000) (disch := omega) only [go_sem, ↓reduceIte, Nat.reduceEqDiff, Nat.reduceAdd, Nat.reduceMul, Nat.reduceSub, Int.reduceToNat, Int.reduceAdd, Int.reduceSub, Int.reduceMul, Int.reduceNeg, hg, Option.isSome_none, Option.getD_none] | with_reducible refine vIf_t ?_ | with_reducible refine vIf_f ?_))
    (try (repeat (first | simp (maxSteps := 2000000) (disch := omega) only [go_sem, ↓reduceIte, Nat.reduceEqDiff, Nat.reduceAdd, Nat.reduceMul, Nat.reduceSub, Int.reduceToNat, Int.reduceAdd, Int.reduceSub, Int.reduceMul, Int.reduceNeg, hg, Option.isSome_none, Option.getD_none] | with_reducible refine vIf_t ?_ | with_reducible refine vIf_f ?_)))
    (refine retK_of ?_; (repeat (first | simp (maxSteps := 2000000) (disch := omega) only [go_sem, ↓reduceIte, Nat.reduceEqDiff, Nat.reduceAdd, Nat.reduceMul, Nat.reduceSub, Int.reduceToNat, Int.reduceAdd, Int.reduceSub, Int.reduceMul, Int.reduceNeg] | with_reducible refine vIf_t ?_ | with_reducible refine vIf_f ?_)))
    exact ⟨F, t, _, by rw [hlen], rfl, by rw [← ht]; exact most_of hn hfr hl hT h0 hD⟩
theorem greatestFlow_e {n : Nt} (hn : NtF n) {from_ : Int} (hfr : 1 ≤ from_ ∧ from_ < n.j) :
    ACalls Tryd.prog 8 [.agg (nC n), I from_] [] (fun r o => ∃ v S, r = .tup [I v, I 0] ∧ o = [] ∧ Most n from_ v S) := by
  refine ACalls.of_vc Tryd.func8 rfl (by decide) 24 rfl [.tmp 4, .tmp 5] rfl (by simp) ?_
  have h1 := validN_ok hn
  have h2 := isInner_ok hn from_
  rw [decide_eq_true (by omega)] at h2
  have h3 := greatest_e hn hfr
  unfold nC at *
  (repeat (first | simp (maxSteps := 2000000) (disch := omega) only [go_sem, ↓reduceIte, Nat.reduceEqDiff, Nat.reduceAdd, Nat.reduceMul, Nat.reduceSub, Int.reduceToNat, Int.reduceAdd, Int.reduceSub, Int.reduceMul, Int.reduceNeg] | with_reducible refine vIf_t ?_ | with_reducible refine vIf_f ?_))
  (refine vCallX_of ?_; (repeat (first | simp (maxSteps := 2000000) (disch := omega) only [go_sem, ↓reduceIte, Nat.reduceEqDiff, Nat.reduceAdd, Nat.reduceMul, Nat.reduceSub, Int.reduceToNat, Int.reduceAdd, Int.reduceSub, Int.reduceMul, Int.reduceNeg] | with_reducible refine vIf_t ?_ | with_reducible refine vIf_f ?_)); refine vCall_eq (h1) (by simp (disch := omega) only [go_sem, Nat.reduceAdd]) rfl (by first | exact Or.inl rfl | exact Or.inr ⟨rfl, rfl⟩ | (apply Or.inr; simp only [go_sem])) ?_; (repeat (first | simp (maxSteps := 2000000) (disch := omega) only [go_sem, ↓reduceIte, Nat.reduceEqDiff, Nat.reduceAdd, Nat.reduceMul, Nat.reduceSub, Int.reduceToNat, Int.reduceAdd, Int.reduceSub, Int.reduceMul, Int.reduceNeg] | with_reducible refine vIf_t ?_ | with_reducible refine vIf_f ?_)))
  (refine vCallX_of ?_; (repeat (first | simp (maxSteps := 2000000) (disch := omega) only [go_sem, ↓reduceIte, Nat.reduceEqDiff, Nat.reduceAdd, Nat.reduceMul, Nat.reduceSub, Int.reduceToNat, Int.reduceAdd, Int.reduceSub, Int.reduceMul, Int.reduceNeg] | with_reducible refine vIf_t ?_ | with_reducible refine vIf_f ?_)); refine vCall_eq (h2) (by simp (disch := omega) only [go_sem, Nat.reduceAdd]) rfl (by first | exact Or.inl rfl | exact Or.inr ⟨rfl, rfl⟩ | (apply Or.inr; simp only [go_sem])) ?_; (repeat (first | simp (maxSteps := 2000000) (disch := omega) only [go_sem, ↓reduceIte, Nat.reduceEqDiff, Nat.reduceAdd, Nat.reduceMul, Nat.reduceSub, Int.reduceToNat, Int.reduceAdd, Int.reduceSub, Int.reduceMul, Int.reduceNeg] | with_reducible refine vIf_t ?_ | with_reducible refine vIf_f ?_)))
  (refine vCallX_of ?_; (repeat (first | simp (maxSteps := 2000000) (disch := omega) only [go_sem, ↓reduceIte, Nat.reduceEqDiff, Nat.reduceAdd, Nat.reduceMul, Nat.reduceSub, Int.reduceToNat, Int.reduceAdd, Int.reduceSub, Int.reduceMul, Int.reduceNeg] | with_reducible refine vIf_t ?_ | with_reducible refine vIf_f ?_)); refine vCall_ex (h3) (by simp (disch := omega) only [go_sem, Nat.reduceAdd]) rfl ?_); rintro _ _ ⟨F, v, S, rfl, rfl, hM⟩; (refine ⟨(by first | exact Or.inl rfl | exact Or.inr ⟨rfl, rfl⟩ | (apply Or.inr; simp only [go_sem])), ?_⟩; (repeat (first | simp (maxSteps := 2000000) (disch := omega) only [go_sem, ↓reduceIte, Nat.reduceEqDiff, Nat.reduceAdd, Nat.reduceMul, Nat.reduceSub, Int.reduceToNat, Int.reduceAdd, Int.reduceSub, Int.reduceMul, Int.reduceNeg] | with_reducible refine vIf_t ?_ | with_reducible refine vIf_f ?_)))
  (refine retK_of ?_; (repeat (first | simp (maxSteps := 2000000) (disch := omega) only [go_sem, ↓reduceIte, Nat.reduceEqDiff, Nat.reduceAdd, Nat.reduceMul, Nat.reduceSub, Int.reduceToNat, Int.reduceAdd, Int.reduceSub, Int.reduceMul, Int.reduceNeg] | with_reducible refine vIf_t ?_ | with_reducible refine vIf_f ?_)))
  exact ⟨v, S, rfl, hM⟩
end Go.Proofs.YtikhligjhmldhaaDoor

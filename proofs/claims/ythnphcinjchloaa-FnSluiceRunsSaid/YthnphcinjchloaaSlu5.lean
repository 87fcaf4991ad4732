/- the best hours: the specification -/
import Derived.Test.YthnphcinjchloaaSlu4
set_option linter.unusedVariables false
set_option linter.unusedSimpArgs false
namespace Go.Proofs.Ythnphcinjchloaa
open Go.AG Go.Lib

attribute [local go_sem] beq_self_eq_true bne_self_eq_false Bool.not_true Bool.not_false
/-- the first one of the greatest flows that are not taken -/
def bmK (f : List Int) (u : List Bool) : Nat → Int
  | 0 => -1
  | i + 1 => if gb u i = false ∧ 0 < gi f i ∧ (bmK f u i < 0 ∨ gi f (bmK f u i).toNat < gi f i) then i else bmK f u i
@[go_sem] theorem bmK_zero (f : List Int) (u : List Bool) : bmK f u 0 = -1 := _root_.id rfl
theorem bmK_lt (f : List Int) (u : List Bool) (i : Nat) : -1 ≤ bmK f u i ∧ bmK f u i < i := by
  induction i with
  | zero => simp [bmK]
  | succ i ih => simp only [bmK]; split <;> omega
def cnB (f : List Int) (u : List Bool) (j : Nat) : Prop := gb u j = false ∧ 0 < gi f j
theorem bmK_ok (f : List Int) (u : List Bool) (n : Nat) : (bmK f u n = -1 ∧ ∀ j, j < n → ¬ cnB f u j) ∨
    (0 ≤ bmK f u n ∧ cnB f u (bmK f u n).toNat ∧ ∀ j, j < n → cnB f u j → gi f j ≤ gi f (bmK f u n).toNat ∧ (j < (bmK f u n).toNat → gi f j < gi f (bmK f u n).toNat)) := by
  induction n with
  | zero => exact .inl ⟨rfl, fun j hj => by omega⟩
  | succ n ih =>
    have hlt := bmK_lt f u n
    rw [bmK]
    by_cases c : gb u n = false ∧ 0 < gi f n ∧ (bmK f u n < 0 ∨ gi f (bmK f u n).toNat < gi f n)
    · rw [if_pos c]
      right
      rw [Int.toNat_natCast]
      refine ⟨by omega, ⟨c.1, c.2.1⟩, fun j hj hc => ?_⟩
      by_cases e : j = n
      · rw [e]; omega
      · rcases ih with ⟨h1, h2⟩ | ⟨h1, h2, h3⟩
        · exact absurd hc (h2 j (by omega))
        · have := (h3 j (by omega) hc).1
          omega
    · rw [if_neg c]
      rcases ih with ⟨h1, h2⟩ | ⟨h1, h2, h3⟩
      · refine .inl ⟨h1, fun j hj hc => ?_⟩
        by_cases e : j = n
        · rw [e] at hc
          exact c ⟨hc.1, hc.2, .inl (by omega)⟩
        · exact h2 j (by omega) hc
      · refine .inr ⟨h1, h2, fun j hj hc => ?_⟩
        by_cases e : j = n
        · rw [e] at hc ⊢
          have : ¬ gi f (bmK f u n).toNat < gi f n := fun h => c ⟨hc.1, hc.2, .inr h⟩
          omega
        · exact h3 j (by omega) hc
/-- the marks after some picks -/
def usB (f : List Int) (k : Nat) : List Bool := (List.range f.length).map fun i : Nat => decide ((i : Int) ∈ (bhL f).take k)
theorem usB_len (f : List Int) (k : Nat) : (usB f k).length = f.length := by simp [usB]
theorem usB_at (f : List Int) (k i : Nat) (h : i < f.length) : gb (usB f k) i = decide ((i : Int) ∈ (bhL f).take k) := by simp [usB, gb, h]
theorem usB_zero (f : List Int) : usB f 0 = List.replicate f.length false := by
  apply List.ext_getElem (by simp [usB])
  intro i h1 h2
  simp [usB]
theorem ext_gb {xs ys : List Bool} (h : xs.length = ys.length) (he : ∀ i, i < xs.length → gb xs i = gb ys i) : xs = ys := by
  refine List.ext_getElem h fun i h1 h2 => ?_
  have := he i h1
  simpa [gb, h1, h2] using this
theorem bhL_at {f : List Int} {k : Nat} (h : k < (bhL f).length) : 0 ≤ gi (bhL f) k ∧ gi (bhL f) k < f.length ∧ 0 < gi f (gi (bhL f) k).toNat := by
  rw [← (bhL_ok f).m]; exact gi_mem _ _ h
theorem usB_succ {f : List Int} {k : Nat} (h : k < (bhL f).length) : usB f (k + 1) = (usB f k).set (gi (bhL f) k).toNat true := by
  have hb := bhL_at h
  refine ext_gb (by rw [List.length_set, usB_len, usB_len]) fun i hi => ?_
  rw [usB_len] at hi
  rw [usB_at _ _ _ hi, take_succ_gi _ _ h]
  by_cases e : (gi (bhL f) k).toNat = i
  · rw [e, gb_set_same _ _ _ (by rw [usB_len]; exact hi)]
    simp [show (i : Int) = gi (bhL f) k by omega]
  · rw [gb_set_ne _ _ _ _ e, usB_at _ _ _ hi]
    apply decide_eq_decide.2
    rw [List.mem_append, List.mem_singleton]
    constructor
    · rintro (h | h)
      · exact h
      · omega
    · exact .inl
theorem cand_iff (f : List Int) (k j : Nat) (hj : j < f.length) : cnB f (usB f k) j ↔ ∃ q, k ≤ q ∧ q < (bhL f).length ∧ gi (bhL f) q = j := by
  unfold cnB
  rw [usB_at _ _ _ hj, decide_eq_false_iff_not]
  constructor
  · rintro ⟨h1, h2⟩
    have hm : (j : Int) ∈ bhL f := ((bhL_ok f).m j).2 ⟨by omega, by omega, by rw [Int.toNat_natCast]; exact h2⟩
    obtain ⟨q, hq, e⟩ := List.getElem_of_mem hm
    refine ⟨q, ?_, hq, by rw [gi_lt _ _ hq]; exact e⟩
    apply Nat.le_of_not_lt; intro g
    apply h1
    rw [← e, List.mem_take_iff_getElem]
    exact ⟨q, by omega, rfl⟩
  · rintro ⟨q, h1, h2, h3⟩
    have hb := bhL_at h2
    rw [h3, Int.toNat_natCast] at hb
    refine ⟨fun hm => ?_, hb.2.2⟩
    obtain ⟨p, hp, e⟩ := List.getElem_of_mem hm
    rw [List.length_take] at hp
    rw [List.getElem_take] at e
    rw [← h3, gi_lt _ _ h2] at e
    have := (List.getElem_inj (bhL_nodup f)).1 e
    omega
theorem bm_end {f : List Int} {k : Nat} (h : (bhL f).length ≤ k) : bmK f (usB f k) f.length = -1 := by
  rcases bmK_ok f (usB f k) f.length with ⟨h1, _⟩ | ⟨h1, h2, _⟩
  · exact h1
  · exfalso
    have hlt := bmK_lt f (usB f k) f.length
    obtain ⟨q, q1, q2, _⟩ := (cand_iff f k _ (by omega)).1 h2
    omega
theorem bm_at {f : List Int} {k : Nat} (h : k < (bhL f).length) : bmK f (usB f k) f.length = gi (bhL f) k := by
  have hb := bhL_at h
  have hck : cnB f (usB f k) (gi (bhL f) k).toNat := (cand_iff f k _ (by omega)).2 ⟨k, Nat.le_refl _, h, by omega⟩
  rcases bmK_ok f (usB f k) f.length with ⟨_, h2⟩ | ⟨h1, h2, h3⟩
  · exact absurd hck (h2 _ (by omega))
  · have hlt := bmK_lt f (usB f k) f.length
    obtain ⟨q, q1, q2, q3⟩ := (cand_iff f k _ (by omega)).1 h2
    have h4 := h3 (gi (bhL f) k).toNat (by omega) hck
    by_cases e : q = k
    · rw [e] at q3; omega
    · have ho := (bhL_ok f).s k q (by omega) q2
      rw [q3, Int.toNat_natCast] at ho
      omega
set_option maxHeartbeats 16000000 in
theorem bestHS_ok (s : Slc) (a b : List Int) (m : Int) (ha : a.length ≤ 10000000) (hb : b.length ≤ 10000000) : ACalls Try.prog 22 [.agg s.cells, .sl a.length (ints a), .sl b.length (ints b), I m] [] (fun r o => r = .tup [.sl (bhQ s a b m).length (ints (bhQ s a b m)), I (bhC s a b m)] ∧ o = []) := by
  refine RowR.fz ?_
  unfold RowR
  refine ACalls.of_vc Try.func22 rfl (by decide) 93 rfl [.tmp 8, .tmp 9] rfl (by simp) ?_
  have h1 := l09Ser_ok s a b ha hb
  unfold Slc.cells at h1 ⊢
  cases hs : okS s with
  | false =>
    have ec : bhC s a b m = 1 := by simp [bhC, hs]
    rw [hs] at h1
    simp only [bhQ, ec]
    (repeat (first | simp (maxSteps := 2000000) (disch := omega) only [go_sem, ↓reduceIte, Nat.reduceEqDiff, Nat.reduceAdd, Nat.reduceMul, Nat.reduceSub, Int.reduceToNat, Int.reduceAdd, Int.reduceSub, Int.reduceMul, Int.reduceNeg] | with_reducible refine vIf_t ?_ | with_reducible refine vIf_f ?_))
    (refine vCallX_of ?_; (repeat (first | simp (maxSteps := 2000000) (disch := omega) only [go_sem, ↓reduceIte, Nat.reduceEqDiff, Nat.reduceAdd, Nat.reduceMul, Nat.reduceSub, Int.reduceToNat, Int.reduceAdd, Int.reduceSub, Int.reduceMul, Int.reduceNeg] | with_reducible refine vIf_t ?_ | with_reducible refine vIf_f ?_)); refine vCall_eq (h1) (by simp (disch := omega) only [go_sem, Nat.reduceAdd]) rfl (by first | exact Or.inl rfl | exact Or.inr ⟨rfl, rfl⟩ | (apply Or.inr; simp only [go_sem])) ?_; (repeat (first | simp (maxSteps := 2000000) (disch := omega) only [go_sem, ↓reduceIte, Nat.reduceEqDiff, Nat.reduceAdd, Nat.reduceMul, Nat.reduceSub, Int.reduceToNat, Int.reduceAdd, Int.reduceSub, Int.reduceMul, Int.reduceNeg] | with_reducible refine vIf_t ?_ | with_reducible refine vIf_f ?_)))
    (refine retK_of ?_; (repeat (first | simp (maxSteps := 2000000) (disch := omega) only [go_sem, ↓reduceIte, Nat.reduceEqDiff, Nat.reduceAdd, Nat.reduceMul, Nat.reduceSub, Int.reduceToNat, Int.reduceAdd, Int.reduceSub, Int.reduceMul, Int.reduceNeg] | with_reducible refine vIf_t ?_ | with_reducible refine vIf_f ?_)))
    first | exact trivial | (simp; done)
  | true =>
    cases hd : sdB a b with
    | false =>
      have ec : bhC s a b m = 2 := by simp [bhC, hs, hd]
      rw [hs, hd] at h1
      simp only [bhQ, ec]
      (repeat (first | simp (maxSteps := 2000000) (disch := omega) only [go_sem, ↓reduceIte, Nat.reduceEqDiff, Nat.reduceAdd, Nat.reduceMul, Nat.reduceSub, Int.reduceToNat, Int.reduceAdd, Int.reduceSub, Int.reduceMul, Int.reduceNeg] | with_reducible refine vIf_t ?_ | with_reducible refine vIf_f ?_))
      (refine vCallX_of ?_; (repeat (first | simp (maxSteps := 2000000) (disch := omega) only [go_sem, ↓reduceIte, Nat.reduceEqDiff, Nat.reduceAdd, Nat.reduceMul, Nat.reduceSub, Int.reduceToNat, Int.reduceAdd, Int.reduceSub, Int.reduceMul, Int.reduceNeg] | with_reducible refine vIf_t ?_ | with_reducible refine vIf_f ?_)); refine vCall_eq (h1) (by simp (disch := omega) only [go_sem, Nat.reduceAdd]) rfl (by first | exact Or.inl rfl | exact Or.inr ⟨rfl, rfl⟩ | (apply Or.inr; simp only [go_sem])) ?_; (repeat (first | simp (maxSteps := 2000000) (disch := omega) only [go_sem, ↓reduceIte, Nat.reduceEqDiff, Nat.reduceAdd, Nat.reduceMul, Nat.reduceSub, Int.reduceToNat, Int.reduceAdd, Int.reduceSub, Int.reduceMul, Int.reduceNeg] | with_reducible refine vIf_t ?_ | with_reducible refine vIf_f ?_)))
      (refine retK_of ?_; (repeat (first | simp (maxSteps := 2000000) (disch := omega) only [go_sem, ↓reduceIte, Nat.reduceEqDiff, Nat.reduceAdd, Nat.reduceMul, Nat.reduceSub, Int.reduceToNat, Int.reduceAdd, Int.reduceSub, Int.reduceMul, Int.reduceNeg] | with_reducible refine vIf_t ?_ | with_reducible refine vIf_f ?_)))
      first | exact trivial | (simp; done)
    | true =>
      rw [hs, hd] at h1
      (repeat (first | simp (maxSteps := 2000000) (disch := omega) only [go_sem, ↓reduceIte, Nat.reduceEqDiff, Nat.reduceAdd, Nat.reduceMul, Nat.reduceSub, Int.reduceToNat, Int.reduceAdd, Int.reduceSub, Int.reduceMul, Int.reduceNeg] | with_reducible refine vIf_t ?_ | with_reducible refine vIf_f ?_))
      (refine vCallX_of ?_; (repeat (first | simp (maxSteps := 2000000) (disch := omega) only [go_sem, ↓reduceIte, Nat.reduceEqDiff, Nat.reduceAdd, Nat.reduceMul, Nat.reduceSub, Int.reduceToNat, Int.reduceAdd, Int.reduceSub, Int.reduceMul, Int.reduceNeg] | with_reducible refine vIf_t ?_ | with_reducible refine vIf_f ?_)); refine vCall_eq (h1) (by simp (disch := omega) only [go_sem, Nat.reduceAdd]) rfl (by first | exact Or.inl rfl | exact Or.inr ⟨rfl, rfl⟩ | (apply Or.inr; simp only [go_sem])) ?_; (repeat (first | simp (maxSteps := 2000000) (disch := omega) only [go_sem, ↓reduceIte, Nat.reduceEqDiff, Nat.reduceAdd, Nat.reduceMul, Nat.reduceSub, Int.reduceToNat, Int.reduceAdd, Int.reduceSub, Int.reduceMul, Int.reduceNeg] | with_reducible refine vIf_t ?_ | with_reducible refine vIf_f ?_)))
      (refine vCallX_of ?_; (repeat (first | simp (maxSteps := 2000000) (disch := omega) only [go_sem, ↓reduceIte, Nat.reduceEqDiff, Nat.reduceAdd, Nat.reduceMul, Nat.reduceSub, Int.reduceToNat, Int.reduceAdd, Int.reduceSub, Int.reduceMul, Int.reduceNeg] | with_reducible refine vIf_t ?_ | with_reducible refine vIf_f ?_)); refine vCall_eq (inS_ok m 0 200) (by simp (disch := omega) only [go_sem, Nat.reduceAdd]) rfl (by first | exact Or.inl rfl | exact Or.inr ⟨rfl, rfl⟩ | (apply Or.inr; simp only [go_sem])) ?_; (repeat (first | simp (maxSteps := 2000000) (disch := omega) only [go_sem, ↓reduceIte, Nat.reduceEqDiff, Nat.reduceAdd, Nat.reduceMul, Nat.reduceSub, Int.reduceToNat, Int.reduceAdd, Int.reduceSub, Int.reduceMul, Int.reduceNeg] | with_reducible refine vIf_t ?_ | with_reducible refine vIf_f ?_)))
      by_cases h3 : 0 ≤ m ∧ m ≤ 200
      case neg =>
        have h3b : decide (0 ≤ m ∧ m ≤ 200) = false := decide_eq_false h3
        have ec : bhC s a b m = 2 := by rw [bhC, if_pos hs, if_neg (fun h => h3 h.2)]
        simp only [bhQ, ec]
        (repeat (first | simp (maxSteps := 2000000) (disch := omega) only [go_sem, ↓reduceIte, Nat.reduceEqDiff, Nat.reduceAdd, Nat.reduceMul, Nat.reduceSub, Int.reduceToNat, Int.reduceAdd, Int.reduceSub, Int.reduceMul, Int.reduceNeg, h3b] | with_reducible refine vIf_t ?_ | with_reducible refine vIf_f ?_))
        (refine retK_of ?_; (repeat (first | simp (maxSteps := 2000000) (disch := omega) only [go_sem, ↓reduceIte, Nat.reduceEqDiff, Nat.reduceAdd, Nat.reduceMul, Nat.reduceSub, Int.reduceToNat, Int.reduceAdd, Int.reduceSub, Int.reduceMul, Int.reduceNeg] | with_reducible refine vIf_t ?_ | with_reducible refine vIf_f ?_)))
        first | exact trivial | (simp; done)
      have h3b : decide (0 ≤ m ∧ m ≤ 200) = true := decide_eq_true h3
      have ec : bhC s a b m = 0 := by rw [bhC, if_pos hs, if_pos ⟨hd, h3⟩]
      have D := sd_ok hd
      have hn := D.n
      have he := D.e
      have hfe := flL_len s a b a.length
      have hat := flL_at s a b a.length
      have hc := fun k (h : k < a.length) => l09Flow_ok s (gi a k) (gi b k) hs (D.al k h) (D.bl k h)
      have hc2 : ∀ k (h : k < a.length), ACalls Try.prog 91 [.agg [I s.wd, I s.sill], I (gi a k), I (gi b k)] [] (fun r o => r = I (gi (flL s a b a.length) k) ∧ o = []) := fun k h => by rw [hat k h]; exact hc k h
      clear hc hat
      simp only [bhQ, ec, if_true]
      generalize flL s a b a.length = f at *
      have hz := usB_zero f
      rw [hfe] at hz
      (repeat (first | simp (maxSteps := 2000000) (disch := omega) only [go_sem, ↓reduceIte, Nat.reduceEqDiff, Nat.reduceAdd, Nat.reduceMul, Nat.reduceSub, Int.reduceToNat, Int.reduceAdd, Int.reduceSub, Int.reduceMul, Int.reduceNeg, h3b] | with_reducible refine vIf_t ?_ | with_reducible refine vIf_f ?_))
      rw [← hz]
      refine vcLoop_invF (fun k : Nat => (k : Int) ≤ m ∧ k ≤ (bhL f).length) (fun k => ⟨93, 0, [(2, .sl b.length (ints b)), (1, .sl a.length (ints a)), (4, .ptr 0 0), (12, .ref 1 0 a.length), (11, .ref 2 0 (ascI ((bhL f).take k)).length), (13, I k), (3, I m)], [some ⟨2, [I s.wd, I s.sill]⟩, some ⟨1, bls (usB f k)⟩, oI (ascI ((bhL f).take k))]⟩) (fun k => (bhL f).length + 1 - k) 0 ⟨by omega, by omega⟩ (by rw [List.take_zero, show ascI [] = [] from rfl]; (first | (refine leF_s ?_; ((repeat (first | simp (maxSteps := 2000000) (disch := omega) only [go_sem, ↓reduceIte, Nat.reduceEqDiff, Nat.reduceAdd, Nat.reduceMul, Nat.reduceSub, Int.reduceToNat, Int.reduceAdd, Int.reduceSub, Int.reduceMul, Int.reduceNeg] | with_reducible refine vIf_t ?_ | with_reducible refine vIf_f ?_)); all_goals (try simp); all_goals (try omega)); done) | (refine leF_p ?_; ((repeat (first | simp (maxSteps := 2000000) (disch := omega) only [go_sem, ↓reduceIte, Nat.reduceEqDiff, Nat.reduceAdd, Nat.reduceMul, Nat.reduceSub, Int.reduceToNat, Int.reduceAdd, Int.reduceSub, Int.reduceMul, Int.reduceNeg] | with_reducible refine vIf_t ?_ | with_reducible refine vIf_f ?_)); all_goals (try simp); all_goals (try omega)); done))) ?_
      intro k ⟨hk, hkL⟩
      have hul := usB_len f k
      rw [hfe] at hul
      have hal := ascI_len ((bhL f).take k) (take_nodup f k)
      (repeat (first | simp (maxSteps := 2000000) (disch := omega) only [go_sem, ↓reduceIte, Nat.reduceEqDiff, Nat.reduceAdd, Nat.reduceMul, Nat.reduceSub, Int.reduceToNat, Int.reduceAdd, Int.reduceSub, Int.reduceMul, Int.reduceNeg] | with_reducible refine vIf_t ?_ | with_reducible refine vIf_f ?_))
      refine vIf_dec (fun hh => ?_) (fun hh => ?_)
      · (repeat (first | simp (maxSteps := 2000000) (disch := omega) only [go_sem, ↓reduceIte, Nat.reduceEqDiff, Nat.reduceAdd, Nat.reduceMul, Nat.reduceSub, Int.reduceToNat, Int.reduceAdd, Int.reduceSub, Int.reduceMul, Int.reduceNeg] | with_reducible refine vIf_t ?_ | with_reducible refine vIf_f ?_))
        refine vcLoop_invF (fun i : Nat => i ≤ a.length) (fun i => ⟨93, 0, [(15, I i), (14, I (bmK f (usB f k) i)), (2, .sl b.length (ints b)), (1, .sl a.length (ints a)), (4, .ptr 0 0), (12, .ref 1 0 a.length), (11, .ref 2 0 (ascI ((bhL f).take k)).length), (3, I m), (13, I k)], [some ⟨2, [I s.wd, I s.sill]⟩, some ⟨1, bls (usB f k)⟩, oI (ascI ((bhL f).take k))]⟩) (fun i => a.length - i) 0 (by omega) (by (first | (refine leF_s ?_; ((repeat (first | simp (maxSteps := 2000000) (disch := omega) only [go_sem, ↓reduceIte, Nat.reduceEqDiff, Nat.reduceAdd, Nat.reduceMul, Nat.reduceSub, Int.reduceToNat, Int.reduceAdd, Int.reduceSub, Int.reduceMul, Int.reduceNeg] | with_reducible refine vIf_t ?_ | with_reducible refine vIf_f ?_)); all_goals (try simp); all_goals (try omega)); done) | (refine leF_p ?_; ((repeat (first | simp (maxSteps := 2000000) (disch := omega) only [go_sem, ↓reduceIte, Nat.reduceEqDiff, Nat.reduceAdd, Nat.reduceMul, Nat.reduceSub, Int.reduceToNat, Int.reduceAdd, Int.reduceSub, Int.reduceMul, Int.reduceNeg] | with_reducible refine vIf_t ?_ | with_reducible refine vIf_f ?_)); all_goals (try simp); all_goals (try omega)); done))) ?_
        intro i hi
        have hbl := bmK_lt f (usB f k) i
        (repeat (first | simp (maxSteps := 2000000) (disch := omega) only [go_sem, ↓reduceIte, Nat.reduceEqDiff, Nat.reduceAdd, Nat.reduceMul, Nat.reduceSub, Int.reduceToNat, Int.reduceAdd, Int.reduceSub, Int.reduceMul, Int.reduceNeg] | with_reducible refine vIf_t ?_ | with_reducible refine vIf_f ?_))
        refine vIf_dec (fun h5 => ?_) (fun h5 => ?_)
        · have hil : i < a.length := by omega
          have hck := hc2 i hil
          (repeat (first | simp (maxSteps := 2000000) (disch := omega) only [go_sem, ↓reduceIte, Nat.reduceEqDiff, Nat.reduceAdd, Nat.reduceMul, Nat.reduceSub, Int.reduceToNat, Int.reduceAdd, Int.reduceSub, Int.reduceMul, Int.reduceNeg] | with_reducible refine vIf_t ?_ | with_reducible refine vIf_f ?_))
          (refine vDraw_sch 9 [(1, false), (2, false), (3, false), (5, false), (6, false), (7, false), (0, false), (4, false), (8, true)] mixed (by kernel_rfl) ?_; simp only [List.cons_append, List.nil_append, List.map_cons, List.map_nil, nthO_zero, nthO_succ, List.drop_succ_cons, List.drop_zero, List.drop_nil]; (repeat (first | simp (maxSteps := 2000000) (disch := omega) only [go_sem, ↓reduceIte, Nat.reduceEqDiff, Nat.reduceAdd, Nat.reduceMul, Nat.reduceSub, Int.reduceToNat, Int.reduceAdd, Int.reduceSub, Int.reduceMul, Int.reduceNeg] | with_reducible refine vIf_t ?_ | with_reducible refine vIf_f ?_)))
          (try (repeat (first | simp (maxSteps := 2000000) (disch := omega) only [go_sem, ↓reduceIte, Nat.reduceEqDiff, Nat.reduceAdd, Nat.reduceMul, Nat.reduceSub, Int.reduceToNat, Int.reduceAdd, Int.reduceSub, Int.reduceMul, Int.reduceNeg] | with_reducible refine vIf_t ?_ | with_reducible refine vIf_f ?_)))
          (refine vCallX_of ?_; (repeat (first | simp (maxSteps := 2000000) (disch := omega) only [go_sem, ↓reduceIte, Nat.reduceEqDiff, Nat.reduceAdd, Nat.reduceMul, Nat.reduceSub, Int.reduceToNat, Int.reduceAdd, Int.reduceSub, Int.reduceMul, Int.reduceNeg] | with_reducible refine vIf_t ?_ | with_reducible refine vIf_f ?_)); refine vCall_eq (hck) (by simp (disch := omega) only [go_sem, Nat.reduceAdd]) rfl (by first | exact Or.inl rfl | exact Or.inr ⟨rfl, rfl⟩ | (apply Or.inr; simp only [go_sem])) ?_; (repeat (first | simp (maxSteps := 2000000) (disch := omega) only [go_sem, ↓reduceIte, Nat.reduceEqDiff, Nat.reduceAdd, Nat.reduceMul, Nat.reduceSub, Int.reduceToNat, Int.reduceAdd, Int.reduceSub, Int.reduceMul, Int.reduceNeg] | with_reducible refine vIf_t ?_ | with_reducible refine vIf_f ?_)))
          have no : ¬ (gb (usB f k) i = false ∧ 0 < gi f i ∧ (bmK f (usB f k) i < 0 ∨ gi f (bmK f (usB f k) i).toNat < gi f i)) → bmK f (usB f k) (i + 1) = bmK f (usB f k) i := fun h => by rw [bmK, if_neg h]
          have yes : (gb (usB f k) i = false ∧ 0 < gi f i ∧ (bmK f (usB f k) i < 0 ∨ gi f (bmK f (usB f k) i).toNat < gi f i)) → bmK f (usB f k) (i + 1) = i := fun h => by rw [bmK, if_pos h]
          (refine vDraw_sch 24 [(0, false), (1, false), (2, false), (3, true), (4, false), (5, false), (6, false), (7, false), (8, false), (9, false), (10, false), (11, false), (12, false), (13, false), (14, false), (15, false), (16, false), (17, false), (18, false), (19, false), (20, false), (21, false), (22, false), (23, false)] mixed (by kernel_rfl) ?_; simp only [List.cons_append, List.nil_append, List.map_cons, List.map_nil, nthO_zero, nthO_succ, List.drop_succ_cons, List.drop_zero, List.drop_nil]; (repeat (first | simp (maxSteps := 2000000) (disch := omega) only [go_sem, ↓reduceIte, Nat.reduceEqDiff, Nat.reduceAdd, Nat.reduceMul, Nat.reduceSub, Int.reduceToNat, Int.reduceAdd, Int.reduceSub, Int.reduceMul, Int.reduceNeg] | with_reducible refine vIf_t ?_ | with_reducible refine vIf_f ?_)))
          (try (repeat (first | simp (maxSteps := 2000000) (disch := omega) only [go_sem, ↓reduceIte, Nat.reduceEqDiff, Nat.reduceAdd, Nat.reduceMul, Nat.reduceSub, Int.reduceToNat, Int.reduceAdd, Int.reduceSub, Int.reduceMul, Int.reduceNeg, hul] | with_reducible refine vIf_t ?_ | with_reducible refine vIf_f ?_)))
          cases hgb : gb (usB f k) i with
          | true =>
            (try (repeat (first | simp (maxSteps := 2000000) (disch := omega) only [go_sem, ↓reduceIte, Nat.reduceEqDiff, Nat.reduceAdd, Nat.reduceMul, Nat.reduceSub, Int.reduceToNat, Int.reduceAdd, Int.reduceSub, Int.reduceMul, Int.reduceNeg, hgb] | with_reducible refine vIf_t ?_ | with_reducible refine vIf_f ?_)))
            refine againF (i + 1) (by omega) (by omega) ?_
            rw [no (by simp [hgb])]
            (first | (refine leF_s ?_; ((repeat (first | simp (maxSteps := 2000000) (disch := omega) only [go_sem, ↓reduceIte, Nat.reduceEqDiff, Nat.reduceAdd, Nat.reduceMul, Nat.reduceSub, Int.reduceToNat, Int.reduceAdd, Int.reduceSub, Int.reduceMul, Int.reduceNeg] | with_reducible refine vIf_t ?_ | with_reducible refine vIf_f ?_)); all_goals (try simp); all_goals (try omega)); done) | (refine leF_p ?_; ((repeat (first | simp (maxSteps := 2000000) (disch := omega) only [go_sem, ↓reduceIte, Nat.reduceEqDiff, Nat.reduceAdd, Nat.reduceMul, Nat.reduceSub, Int.reduceToNat, Int.reduceAdd, Int.reduceSub, Int.reduceMul, Int.reduceNeg] | with_reducible refine vIf_t ?_ | with_reducible refine vIf_f ?_)); all_goals (try simp); all_goals (try omega)); done))
          | false =>
            by_cases hf0 : 0 < gi f i
            · have d0 : decide (0 < gi f i) = true := decide_eq_true hf0
              by_cases hb0 : bmK f (usB f k) i < 0
              · have d1 : decide (bmK f (usB f k) i < 0) = true := decide_eq_true hb0
                (try (repeat (first | simp (maxSteps := 2000000) (disch := omega) only [go_sem, ↓reduceIte, Nat.reduceEqDiff, Nat.reduceAdd, Nat.reduceMul, Nat.reduceSub, Int.reduceToNat, Int.reduceAdd, Int.reduceSub, Int.reduceMul, Int.reduceNeg, hgb, d0, d1] | with_reducible refine vIf_t ?_ | with_reducible refine vIf_f ?_)))
                refine againF (i + 1) (by omega) (by omega) ?_
                rw [yes ⟨hgb, hf0, .inl hb0⟩]
                (first | (refine leF_s ?_; ((repeat (first | simp (maxSteps := 2000000) (disch := omega) only [go_sem, ↓reduceIte, Nat.reduceEqDiff, Nat.reduceAdd, Nat.reduceMul, Nat.reduceSub, Int.reduceToNat, Int.reduceAdd, Int.reduceSub, Int.reduceMul, Int.reduceNeg] | with_reducible refine vIf_t ?_ | with_reducible refine vIf_f ?_)); all_goals (try simp); all_goals (try omega)); done) | (refine leF_p ?_; ((repeat (first | simp (maxSteps := 2000000) (disch := omega) only [go_sem, ↓reduceIte, Nat.reduceEqDiff, Nat.reduceAdd, Nat.reduceMul, Nat.reduceSub, Int.reduceToNat, Int.reduceAdd, Int.reduceSub, Int.reduceMul, Int.reduceNeg] | with_reducible refine vIf_t ?_ | with_reducible refine vIf_f ?_)); all_goals (try simp); all_goals (try omega)); done))
              · have d1 : decide (bmK f (usB f k) i < 0) = false := decide_eq_false hb0
                have hcb := hc2 (bmK f (usB f k) i).toNat (by omega)
                (try (repeat (first | simp (maxSteps := 2000000) (disch := omega) only [go_sem, ↓reduceIte, Nat.reduceEqDiff, Nat.reduceAdd, Nat.reduceMul, Nat.reduceSub, Int.reduceToNat, Int.reduceAdd, Int.reduceSub, Int.reduceMul, Int.reduceNeg, hgb, d0, d1] | with_reducible refine vIf_t ?_ | with_reducible refine vIf_f ?_)))
                (refine vsCallX_of ?_; (try (repeat (first | simp (maxSteps := 2000000) (disch := omega) only [go_sem, ↓reduceIte, Nat.reduceEqDiff, Nat.reduceAdd, Nat.reduceMul, Nat.reduceSub, Int.reduceToNat, Int.reduceAdd, Int.reduceSub, Int.reduceMul, Int.reduceNeg] | with_reducible refine vIf_t ?_ | with_reducible refine vIf_f ?_))); refine vCall_eq (hcb) (by simp (disch := omega) only [go_sem, Nat.reduceAdd]) rfl (by first | exact Or.inl rfl | exact Or.inr ⟨rfl, rfl⟩ | (apply Or.inr; simp only [go_sem])) ?_; (try (repeat (first | simp (maxSteps := 2000000) (disch := omega) only [go_sem, ↓reduceIte, Nat.reduceEqDiff, Nat.reduceAdd, Nat.reduceMul, Nat.reduceSub, Int.reduceToNat, Int.reduceAdd, Int.reduceSub, Int.reduceMul, Int.reduceNeg] | with_reducible refine vIf_t ?_ | with_reducible refine vIf_f ?_))))
                by_cases hlt : gi f (bmK f (usB f k) i).toNat < gi f i
                · have d2 : decide (gi f (bmK f (usB f k) i).toNat < gi f i) = true := decide_eq_true hlt
                  (try (repeat (first | simp (maxSteps := 2000000) (disch := omega) only [go_sem, ↓reduceIte, Nat.reduceEqDiff, Nat.reduceAdd, Nat.reduceMul, Nat.reduceSub, Int.reduceToNat, Int.reduceAdd, Int.reduceSub, Int.reduceMul, Int.reduceNeg, d2] | with_reducible refine vIf_t ?_ | with_reducible refine vIf_f ?_)))
                  refine againF (i + 1) (by omega) (by omega) ?_
                  rw [yes ⟨hgb, hf0, .inr hlt⟩]
                  (first | (refine leF_s ?_; ((repeat (first | simp (maxSteps := 2000000) (disch := omega) only [go_sem, ↓reduceIte, Nat.reduceEqDiff, Nat.reduceAdd, Nat.reduceMul, Nat.reduceSub, Int.reduceToNat, Int.reduceAdd, Int.reduceSub, Int.reduceMul, Int.reduceNeg] | with_reducible refine vIf_t ?_ | with_reducible refine vIf_f ?_)); all_goals (try simp); all_goals (try omega)); done) | (refine leF_p ?_; ((repeat (first | simp (maxSteps := 2000000) (disch := omega) only [go_sem, ↓reduceIte, Nat.reduceEqDiff, Nat.reduceAdd, Nat.reduceMul, Nat.reduceSub, Int.reduceToNat, Int.reduceAdd, Int.reduceSub, Int.reduceMul, Int.reduceNeg] | with_reducible refine vIf_t ?_ | with_reducible refine vIf_f ?_)); all_goals (try simp); all_goals (try omega)); done))
                · have d2 : decide (gi f (bmK f (usB f k) i).toNat < gi f i) = false := decide_eq_false hlt
                  (try (repeat (first | simp (maxSteps := 2000000) (disch := omega) only [go_sem, ↓reduceIte, Nat.reduceEqDiff, Nat.reduceAdd, Nat.reduceMul, Nat.reduceSub, Int.reduceToNat, Int.reduceAdd, Int.reduceSub, Int.reduceMul, Int.reduceNeg, d2] | with_reducible refine vIf_t ?_ | with_reducible refine vIf_f ?_)))
                  refine againF (i + 1) (by omega) (by omega) ?_
                  rw [no (fun h => by rcases h.2.2 with h | h <;> omega)]
                  (first | (refine leF_s ?_; ((repeat (first | simp (maxSteps := 2000000) (disch := omega) only [go_sem, ↓reduceIte, Nat.reduceEqDiff, Nat.reduceAdd, Nat.reduceMul, Nat.reduceSub, Int.reduceToNat, Int.reduceAdd, Int.reduceSub, Int.reduceMul, Int.reduceNeg] | with_reducible refine vIf_t ?_ | with_reducible refine vIf_f ?_)); all_goals (try simp); all_goals (try omega)); done) | (refine leF_p ?_; ((repeat (first | simp (maxSteps := 2000000) (disch := omega) only [go_sem, ↓reduceIte, Nat.reduceEqDiff, Nat.reduceAdd, Nat.reduceMul, Nat.reduceSub, Int.reduceToNat, Int.reduceAdd, Int.reduceSub, Int.reduceMul, Int.reduceNeg] | with_reducible refine vIf_t ?_ | with_reducible refine vIf_f ?_)); all_goals (try simp); all_goals (try omega)); done))
            · have d0 : decide (0 < gi f i) = false := decide_eq_false hf0
              (try (repeat (first | simp (maxSteps := 2000000) (disch := omega) only [go_sem, ↓reduceIte, Nat.reduceEqDiff, Nat.reduceAdd, Nat.reduceMul, Nat.reduceSub, Int.reduceToNat, Int.reduceAdd, Int.reduceSub, Int.reduceMul, Int.reduceNeg, hgb, d0] | with_reducible refine vIf_t ?_ | with_reducible refine vIf_f ?_)))
              refine againF (i + 1) (by omega) (by omega) ?_
              rw [no (fun h => hf0 h.2.1)]
              (first | (refine leF_s ?_; ((repeat (first | simp (maxSteps := 2000000) (disch := omega) only [go_sem, ↓reduceIte, Nat.reduceEqDiff, Nat.reduceAdd, Nat.reduceMul, Nat.reduceSub, Int.reduceToNat, Int.reduceAdd, Int.reduceSub, Int.reduceMul, Int.reduceNeg] | with_reducible refine vIf_t ?_ | with_reducible refine vIf_f ?_)); all_goals (try simp); all_goals (try omega)); done) | (refine leF_p ?_; ((repeat (first | simp (maxSteps := 2000000) (disch := omega) only [go_sem, ↓reduceIte, Nat.reduceEqDiff, Nat.reduceAdd, Nat.reduceMul, Nat.reduceSub, Int.reduceToNat, Int.reduceAdd, Int.reduceSub, Int.reduceMul, Int.reduceNeg] | with_reducible refine vIf_t ?_ | with_reducible refine vIf_f ?_)); all_goals (try simp); all_goals (try omega)); done))
        · have hie : i = f.length := by omega
          by_cases hkl : k < (bhL f).length
          · have hbm := bm_at hkl
            have hbd := bhL_at hkl
            have hus := usB_succ hkl
            have htk := take_succ_gi _ _ hkl
            have hasc : ascI ((bhL f).take (k + 1)) = putI (gi (bhL f) k) (ascI ((bhL f).take k)) := by rw [htk, ascI_snoc]
            have hput := put_ok (ascI ((bhL f).take k)) (gi (bhL f) k) (by rw [hal, List.length_take]; omega)
            rw [hie, hbm]
            have d3 : decide (gi (bhL f) k < 0) = false := decide_eq_false (by omega)
            (repeat (first | simp (maxSteps := 2000000) (disch := omega) only [go_sem, ↓reduceIte, Nat.reduceEqDiff, Nat.reduceAdd, Nat.reduceMul, Nat.reduceSub, Int.reduceToNat, Int.reduceAdd, Int.reduceSub, Int.reduceMul, Int.reduceNeg, d3, hul] | with_reducible refine vIf_t ?_ | with_reducible refine vIf_f ?_))
            (refine vCallX_of ?_; (repeat (first | simp (maxSteps := 2000000) (disch := omega) only [go_sem, ↓reduceIte, Nat.reduceEqDiff, Nat.reduceAdd, Nat.reduceMul, Nat.reduceSub, Int.reduceToNat, Int.reduceAdd, Int.reduceSub, Int.reduceMul, Int.reduceNeg] | with_reducible refine vIf_t ?_ | with_reducible refine vIf_f ?_)); refine vCall_eq (hput) (by simp (disch := omega) only [go_sem, Nat.reduceAdd]) rfl (by first | exact Or.inl rfl | exact Or.inr ⟨rfl, rfl⟩ | (apply Or.inr; simp only [go_sem])) ?_; (repeat (first | simp (maxSteps := 2000000) (disch := omega) only [go_sem, ↓reduceIte, Nat.reduceEqDiff, Nat.reduceAdd, Nat.reduceMul, Nat.reduceSub, Int.reduceToNat, Int.reduceAdd, Int.reduceSub, Int.reduceMul, Int.reduceNeg] | with_reducible refine vIf_t ?_ | with_reducible refine vIf_f ?_)))
            refine againF (k + 1) ⟨by omega, by omega⟩ (by omega) ?_
            rw [hus, hasc]
            (first | (refine leF_s ?_; ((repeat (first | simp (maxSteps := 2000000) (disch := omega) only [go_sem, ↓reduceIte, Nat.reduceEqDiff, Nat.reduceAdd, Nat.reduceMul, Nat.reduceSub, Int.reduceToNat, Int.reduceAdd, Int.reduceSub, Int.reduceMul, Int.reduceNeg] | with_reducible refine vIf_t ?_ | with_reducible refine vIf_f ?_)); all_goals (try simp); all_goals (try omega)); done) | (refine leF_p ?_; ((repeat (first | simp (maxSteps := 2000000) (disch := omega) only [go_sem, ↓reduceIte, Nat.reduceEqDiff, Nat.reduceAdd, Nat.reduceMul, Nat.reduceSub, Int.reduceToNat, Int.reduceAdd, Int.reduceSub, Int.reduceMul, Int.reduceNeg] | with_reducible refine vIf_t ?_ | with_reducible refine vIf_f ?_)); all_goals (try simp); all_goals (try omega)); done))
          · have hbm := bm_end (f := f) (k := k) (by omega)
            have ht : (bhL f).take m.toNat = (bhL f).take k := by rw [List.take_of_length_le (by omega), List.take_of_length_le (by omega)]
            rw [hie, hbm, ht]
            (repeat (first | simp (maxSteps := 2000000) (disch := omega) only [go_sem, ↓reduceIte, Nat.reduceEqDiff, Nat.reduceAdd, Nat.reduceMul, Nat.reduceSub, Int.reduceToNat, Int.reduceAdd, Int.reduceSub, Int.reduceMul, Int.reduceNeg] | with_reducible refine vIf_t ?_ | with_reducible refine vIf_f ?_))
            (refine retK_of ?_; (repeat (first | simp (maxSteps := 2000000) (disch := omega) only [go_sem, ↓reduceIte, Nat.reduceEqDiff, Nat.reduceAdd, Nat.reduceMul, Nat.reduceSub, Int.reduceToNat, Int.reduceAdd, Int.reduceSub, Int.reduceMul, Int.reduceNeg] | with_reducible refine vIf_t ?_ | with_reducible refine vIf_f ?_)))
            first | exact trivial | (simp; done)
      · have hkm : m.toNat = k := by omega
        rw [hkm]
        (repeat (first | simp (maxSteps := 2000000) (disch := omega) only [go_sem, ↓reduceIte, Nat.reduceEqDiff, Nat.reduceAdd, Nat.reduceMul, Nat.reduceSub, Int.reduceToNat, Int.reduceAdd, Int.reduceSub, Int.reduceMul, Int.reduceNeg] | with_reducible refine vIf_t ?_ | with_reducible refine vIf_f ?_))
        (refine retK_of ?_; (repeat (first | simp (maxSteps := 2000000) (disch := omega) only [go_sem, ↓reduceIte, Nat.reduceEqDiff, Nat.reduceAdd, Nat.reduceMul, Nat.reduceSub, Int.reduceToNat, Int.reduceAdd, Int.reduceSub, Int.reduceMul, Int.reduceNeg] | with_reducible refine vIf_t ?_ | with_reducible refine vIf_f ?_)))
        first | exact trivial | (simp; done)
end Go.Proofs.Ythnphcinjchloaa

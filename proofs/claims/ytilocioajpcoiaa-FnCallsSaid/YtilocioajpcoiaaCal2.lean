/- who is called at a stage; the drawn lists -/
import Derived.Test.YtilocioajpcoiaaCal1
import Derived.Test.YtilocioajpcoiaaSortS
set_option linter.unusedVariables false
set_option linter.unusedSimpArgs false
namespace Go.Proofs.Ytilocioajpcoiaa
open Go.AG Go.Lib

def adN (acc : List ByteArray) (s : ByteArray) : List ByteArray := if inS s acc = true then acc else acc ++ [s]
def rowN (acc : List ByteArray) (row : List ByteArray) : List ByteArray := row.foldl adN acc
def calN (L : List (List ByteArray)) : List ByteArray := L.foldl rowN []
theorem adN_ok {acc : List ByteArray} (s : ByteArray) (h : acc.Nodup) : (adN acc s).Nodup ∧ (∀ x, x ∈ adN acc s ↔ x ∈ acc ∨ x = s) ∧ (adN acc s).length ≤ acc.length + 1 := by
  unfold adN
  split
  · rename_i h1
    have h2 := inS_iff.1 h1
    exact ⟨h, fun x => ⟨.inl, fun e => e.elim id fun e => e ▸ h2⟩, by omega⟩
  · rename_i h1
    have h2 : ¬ s ∈ acc := fun e => h1 (inS_iff.2 e)
    refine ⟨?_, fun x => by simp, by simp⟩
    rw [List.nodup_append]
    refine ⟨h, by simp, fun a ha b hb e => h2 ?_⟩
    rw [List.mem_singleton] at hb
    rw [← hb, ← e]; exact ha
theorem rowN_ok : ∀ (row acc : List ByteArray), acc.Nodup → (rowN acc row).Nodup ∧ (∀ x, x ∈ rowN acc row ↔ x ∈ acc ∨ x ∈ row) ∧ (rowN acc row).length ≤ acc.length + row.length
  | [], acc, h => ⟨h, fun x => by simp [rowN], by simp [rowN]⟩
  | s :: r, acc, h => by
    obtain ⟨h1, h2, h3⟩ := adN_ok s h
    obtain ⟨g1, g2, g3⟩ := rowN_ok r (adN acc s) h1
    refine ⟨g1, fun x => ?_, by simp only [List.length_cons]; show (rowN (adN acc s) r).length ≤ _; omega⟩
    show x ∈ rowN (adN acc s) r ↔ _
    rw [g2, h2, List.mem_cons]
    constructor
    · rintro ((h | h) | h)
      · exact .inl h
      · exact .inr (.inl h)
      · exact .inr (.inr h)
    · rintro (h | h | h)
      · exact .inl (.inl h)
      · exact .inl (.inr h)
      · exact .inr h
theorem calN_gen : ∀ (L : List (List ByteArray)) (acc : List ByteArray) (M : Nat), acc.Nodup → (∀ r ∈ L, r.length ≤ M) → (L.foldl rowN acc).Nodup ∧ (∀ x, x ∈ L.foldl rowN acc ↔ x ∈ acc ∨ ∃ r ∈ L, x ∈ r) ∧ (L.foldl rowN acc).length ≤ acc.length + M * L.length
  | [], acc, M, h, _ => ⟨h, fun x => by simp, by simp⟩
  | row :: R, acc, M, h, hM => by
    obtain ⟨h1, h2, h3⟩ := rowN_ok row acc h
    obtain ⟨g1, g2, g3⟩ := calN_gen R (rowN acc row) M h1 (fun r hr => hM r (List.mem_cons_of_mem _ hr))
    have := hM row (List.mem_cons_self ..)
    refine ⟨g1, fun x => ?_, ?_⟩
    · show x ∈ R.foldl rowN (rowN acc row) ↔ _
      rw [g2, h2]
      simp only [List.mem_cons]
      constructor
      · rintro ((h | h) | ⟨r, hr, hx⟩)
        · exact .inl h
        · exact .inr ⟨row, .inl rfl, h⟩
        · exact .inr ⟨r, .inr hr, hx⟩
      · rintro (h | ⟨r, rfl | hr, hx⟩)
        · exact .inl (.inl h)
        · exact .inl (.inr hx)
        · exact .inr ⟨r, hr, hx⟩
    · show (R.foldl rowN (rowN acc row)).length ≤ _
      rw [List.length_cons, Nat.mul_add]
      omega
theorem calN_succ (L : List (List ByteArray)) (i : Nat) (h : i < L.length) : calN (L.take (i + 1)) = rowN (calN (L.take i)) (grT L i) := by
  unfold calN
  rw [grT_take_succ L i h, List.foldl_append]; rfl
theorem rowN_succ (acc row : List ByteArray) (j : Nat) (h : j < row.length) : rowN acc (row.take (j + 1)) = adN (rowN acc (row.take j)) (gs row j) := by
  unfold rowN
  rw [gs_take_succ row j h, List.foldl_append]; rfl
theorem NmX.bd {L : List (List ByteArray)} (X : NmX L) (k : Nat) : (calN (L.take k)).Nodup ∧ (∀ x, x ∈ calN (L.take k) ↔ ∃ i, i < k ∧ i < L.length ∧ x ∈ grT L i) ∧ (calN (L.take k)).length ≤ 60 := by
  have hn := X.n
  have hl : (L.take k).length ≤ 5 := by rw [List.length_take]; omega
  obtain ⟨h1, h2, h3⟩ := calN_gen (L.take k) [] 12 List.nodup_nil (fun r hr => by
    obtain ⟨i, hi, e⟩ := List.mem_iff_getElem.1 (List.mem_of_mem_take hr)
    have := (X.r i hi).1
    rw [grT_lt _ _ hi, e] at this
    exact this)
  refine ⟨h1, fun x => ?_, ?_⟩
  · show x ∈ (L.take k).foldl rowN [] ↔ _
    rw [h2]
    constructor
    · rintro (h | ⟨r, hr, hx⟩)
      · simp at h
      · obtain ⟨i, hi, e⟩ := List.mem_iff_getElem.1 hr
        rw [List.length_take] at hi
        rw [List.getElem_take] at e
        exact ⟨i, by omega, by omega, by rw [grT_lt _ _ (by omega), e]; exact hx⟩
    · rintro ⟨i, h1, h2, hx⟩
      refine .inr ⟨L[i], ?_, by rw [← grT_lt _ _ h2]; exact hx⟩
      rw [List.mem_take_iff_getElem]
      exact ⟨i, by omega, rfl⟩
  · have : (calN (L.take k)).length ≤ 0 + 12 * (L.take k).length := h3
    omega
set_option maxHeartbeats 2000000 in
theorem calledAt_ok (L : List (List ByteArray)) (X : NmX L) (k : Nat) (hk : k ≤ L.length) : ACalls Try.prog 17 [.sl L.length (rwT L), I k] [] (fun r o => r = .tup [.ref 0 0 (sS (calN (L.take k))).length, I 0] ∧ o = [some ⟨1, strs (sS (calN (L.take k)))⟩]) := by
  refine ACalls.of_vc Try.func17 rfl (by decide) 51 rfl [.tmp 4, .tmp 5] rfl (by simp) ?_
  have hn := X.n
  have h1 := areLists_ok L X
  have h2 := in_ok (k : Int) 0 L.length
  rw [decide_eq_true (by omega)] at h2
  (repeat (first | simp (maxSteps := 2000000) (disch := omega) only [go_sem, ↓reduceIte, Nat.reduceEqDiff, Nat.reduceAdd, Nat.reduceMul, Nat.reduceSub, Int.reduceToNat, Int.reduceAdd, Int.reduceSub, Int.reduceMul, Int.reduceNeg] | with_reducible refine vIf_t ?_ | with_reducible refine vIf_f ?_))
  (refine vCallX_of ?_; (repeat (first | simp (maxSteps := 2000000) (disch := omega) only [go_sem, ↓reduceIte, Nat.reduceEqDiff, Nat.reduceAdd, Nat.reduceMul, Nat.reduceSub, Int.reduceToNat, Int.reduceAdd, Int.reduceSub, Int.reduceMul, Int.reduceNeg] | with_reducible refine vIf_t ?_ | with_reducible refine vIf_f ?_)); refine vCall_eq (h1) (by simp (disch := omega) only [go_sem, Nat.reduceAdd]) rfl (by first | exact Or.inl rfl | exact Or.inr ⟨rfl, rfl⟩ | (apply Or.inr; simp only [go_sem])) ?_; (repeat (first | simp (maxSteps := 2000000) (disch := omega) only [go_sem, ↓reduceIte, Nat.reduceEqDiff, Nat.reduceAdd, Nat.reduceMul, Nat.reduceSub, Int.reduceToNat, Int.reduceAdd, Int.reduceSub, Int.reduceMul, Int.reduceNeg] | with_reducible refine vIf_t ?_ | with_reducible refine vIf_f ?_)))
  (refine vCallX_of ?_; (repeat (first | simp (maxSteps := 2000000) (disch := omega) only [go_sem, ↓reduceIte, Nat.reduceEqDiff, Nat.reduceAdd, Nat.reduceMul, Nat.reduceSub, Int.reduceToNat, Int.reduceAdd, Int.reduceSub, Int.reduceMul, Int.reduceNeg] | with_reducible refine vIf_t ?_ | with_reducible refine vIf_f ?_)); refine vCall_eq (h2) (by simp (disch := omega) only [go_sem, Nat.reduceAdd]) rfl (by first | exact Or.inl rfl | exact Or.inr ⟨rfl, rfl⟩ | (apply Or.inr; simp only [go_sem])) ?_; (repeat (first | simp (maxSteps := 2000000) (disch := omega) only [go_sem, ↓reduceIte, Nat.reduceEqDiff, Nat.reduceAdd, Nat.reduceMul, Nat.reduceSub, Int.reduceToNat, Int.reduceAdd, Int.reduceSub, Int.reduceMul, Int.reduceNeg] | with_reducible refine vIf_t ?_ | with_reducible refine vIf_f ?_)))
  refine vcLoop_invF (fun i : Nat => i ≤ k) (fun i => ⟨51, 0, [(28, I i), (6, .ref 0 0 (calN (L.take i)).length), (26, .sl k (rwT (L.take k))), (27, I k)], [some ⟨1, strs (calN (L.take i))⟩]⟩) (fun i => k - i) 0 (by omega) (by simp only [List.take_zero, calN, List.foldl_nil]; (first | (refine leF_s ?_; ((repeat (first | simp (maxSteps := 2000000) (disch := omega) only [go_sem, ↓reduceIte, Nat.reduceEqDiff, Nat.reduceAdd, Nat.reduceMul, Nat.reduceSub, Int.reduceToNat, Int.reduceAdd, Int.reduceSub, Int.reduceMul, Int.reduceNeg] | with_reducible refine vIf_t ?_ | with_reducible refine vIf_f ?_)); all_goals (try simp); all_goals (try omega)); done) | (refine leF_p ?_; ((repeat (first | simp (maxSteps := 2000000) (disch := omega) only [go_sem, ↓reduceIte, Nat.reduceEqDiff, Nat.reduceAdd, Nat.reduceMul, Nat.reduceSub, Int.reduceToNat, Int.reduceAdd, Int.reduceSub, Int.reduceMul, Int.reduceNeg] | with_reducible refine vIf_t ?_ | with_reducible refine vIf_f ?_)); all_goals (try simp); all_goals (try omega)); done))) ?_
  intro i hi
  have hb := (X.bd i).2.2
  (repeat (first | simp (maxSteps := 2000000) (disch := omega) only [go_sem, ↓reduceIte, Nat.reduceEqDiff, Nat.reduceAdd, Nat.reduceMul, Nat.reduceSub, Int.reduceToNat, Int.reduceAdd, Int.reduceSub, Int.reduceMul, Int.reduceNeg] | with_reducible refine vIf_t ?_ | with_reducible refine vIf_f ?_))
  refine vIf_dec (fun hc => ?_) (fun hc => ?_)
  · have hil : i < L.length := by omega
    have hlk : i < (L.take k).length := by rw [List.length_take]; omega
    have hgr : grT (L.take k) i = grT L i := by rw [grT_lt _ _ hlk, grT_lt _ _ hil, List.getElem_take]
    have hr := (X.r i hil).1
    have hsu := calN_succ L i hil
    generalize hrow : grT L i = row at *
    (repeat (first | simp (maxSteps := 2000000) (disch := omega) only [go_sem, ↓reduceIte, Nat.reduceEqDiff, Nat.reduceAdd, Nat.reduceMul, Nat.reduceSub, Int.reduceToNat, Int.reduceAdd, Int.reduceSub, Int.reduceMul, Int.reduceNeg, hgr] | with_reducible refine vIf_t ?_ | with_reducible refine vIf_f ?_))
    refine vcLoop_invF (fun j : Nat => j ≤ row.length) (fun j => ⟨51, 0, [(34, I j), (6, .ref 0 0 (rowN (calN (L.take i)) (row.take j)).length), (32, .sl row.length (strs row)), (26, .sl k (rwT (L.take k))), (27, I k), (28, I i), (33, I row.length)], [some ⟨1, strs (rowN (calN (L.take i)) (row.take j))⟩]⟩) (fun j => row.length - j) 0 (by omega) (by simp only [rowN, List.take_zero, List.foldl_nil]; (first | (refine leF_s ?_; ((repeat (first | simp (maxSteps := 2000000) (disch := omega) only [go_sem, ↓reduceIte, Nat.reduceEqDiff, Nat.reduceAdd, Nat.reduceMul, Nat.reduceSub, Int.reduceToNat, Int.reduceAdd, Int.reduceSub, Int.reduceMul, Int.reduceNeg] | with_reducible refine vIf_t ?_ | with_reducible refine vIf_f ?_)); all_goals (try simp); all_goals (try omega)); done) | (refine leF_p ?_; ((repeat (first | simp (maxSteps := 2000000) (disch := omega) only [go_sem, ↓reduceIte, Nat.reduceEqDiff, Nat.reduceAdd, Nat.reduceMul, Nat.reduceSub, Int.reduceToNat, Int.reduceAdd, Int.reduceSub, Int.reduceMul, Int.reduceNeg] | with_reducible refine vIf_t ?_ | with_reducible refine vIf_f ?_)); all_goals (try simp); all_goals (try omega)); done))) ?_
    intro j hj
    have hb2 := (rowN_ok (row.take j) (calN (L.take i)) (X.bd i).1).2.2
    have hlt : (row.take j).length ≤ 12 := by rw [List.length_take]; omega
    (repeat (first | simp (maxSteps := 2000000) (disch := omega) only [go_sem, ↓reduceIte, Nat.reduceEqDiff, Nat.reduceAdd, Nat.reduceMul, Nat.reduceSub, Int.reduceToNat, Int.reduceAdd, Int.reduceSub, Int.reduceMul, Int.reduceNeg] | with_reducible refine vIf_t ?_ | with_reducible refine vIf_f ?_))
    refine vIf_dec (fun hc2 => ?_) (fun hc2 => ?_)
    · have hjl : j < row.length := by omega
      have hs2 := rowN_succ (calN (L.take i)) row j hjl
      generalize hacc : rowN (calN (L.take i)) (row.take j) = acc at *
      have h3 := hasName_ok acc (gs row j) (by omega)
      unfold adN at hs2
      (repeat (first | simp (maxSteps := 2000000) (disch := omega) only [go_sem, ↓reduceIte, Nat.reduceEqDiff, Nat.reduceAdd, Nat.reduceMul, Nat.reduceSub, Int.reduceToNat, Int.reduceAdd, Int.reduceSub, Int.reduceMul, Int.reduceNeg] | with_reducible refine vIf_t ?_ | with_reducible refine vIf_f ?_))
      (refine vCallX_of ?_; (repeat (first | simp (maxSteps := 2000000) (disch := omega) only [go_sem, ↓reduceIte, Nat.reduceEqDiff, Nat.reduceAdd, Nat.reduceMul, Nat.reduceSub, Int.reduceToNat, Int.reduceAdd, Int.reduceSub, Int.reduceMul, Int.reduceNeg] | with_reducible refine vIf_t ?_ | with_reducible refine vIf_f ?_)); refine vCall_eq (h3) (by simp (disch := omega) only [go_sem, Nat.reduceAdd]) rfl (by first | exact Or.inl rfl | exact Or.inr ⟨rfl, rfl⟩ | (apply Or.inr; simp only [go_sem])) ?_; (repeat (first | simp (maxSteps := 2000000) (disch := omega) only [go_sem, ↓reduceIte, Nat.reduceEqDiff, Nat.reduceAdd, Nat.reduceMul, Nat.reduceSub, Int.reduceToNat, Int.reduceAdd, Int.reduceSub, Int.reduceMul, Int.reduceNeg] | with_reducible refine vIf_t ?_ | with_reducible refine vIf_f ?_)))
      cases hin : inS (gs row j) acc with
      | true =>
        rw [if_pos hin] at hs2
        (repeat (first | simp (maxSteps := 2000000) (disch := omega) only [go_sem, ↓reduceIte, Nat.reduceEqDiff, Nat.reduceAdd, Nat.reduceMul, Nat.reduceSub, Int.reduceToNat, Int.reduceAdd, Int.reduceSub, Int.reduceMul, Int.reduceNeg, hin] | with_reducible refine vIf_t ?_ | with_reducible refine vIf_f ?_))
        refine againF (j + 1) (by omega) (by omega) (by rw [hs2]; (first | (refine leF_s ?_; ((repeat (first | simp (maxSteps := 2000000) (disch := omega) only [go_sem, ↓reduceIte, Nat.reduceEqDiff, Nat.reduceAdd, Nat.reduceMul, Nat.reduceSub, Int.reduceToNat, Int.reduceAdd, Int.reduceSub, Int.reduceMul, Int.reduceNeg] | with_reducible refine vIf_t ?_ | with_reducible refine vIf_f ?_)); all_goals (try simp); all_goals (try omega)); done) | (refine leF_p ?_; ((repeat (first | simp (maxSteps := 2000000) (disch := omega) only [go_sem, ↓reduceIte, Nat.reduceEqDiff, Nat.reduceAdd, Nat.reduceMul, Nat.reduceSub, Int.reduceToNat, Int.reduceAdd, Int.reduceSub, Int.reduceMul, Int.reduceNeg] | with_reducible refine vIf_t ?_ | with_reducible refine vIf_f ?_)); all_goals (try simp); all_goals (try omega)); done)))
      | false =>
        rw [if_neg (by rw [hin]; simp)] at hs2
        (repeat (first | simp (maxSteps := 2000000) (disch := omega) only [go_sem, ↓reduceIte, Nat.reduceEqDiff, Nat.reduceAdd, Nat.reduceMul, Nat.reduceSub, Int.reduceToNat, Int.reduceAdd, Int.reduceSub, Int.reduceMul, Int.reduceNeg, hin] | with_reducible refine vIf_t ?_ | with_reducible refine vIf_f ?_))
        refine againF (j + 1) (by omega) (by omega) (by rw [hs2]; (first | (refine leF_s ?_; ((repeat (first | simp (maxSteps := 2000000) (disch := omega) only [go_sem, ↓reduceIte, Nat.reduceEqDiff, Nat.reduceAdd, Nat.reduceMul, Nat.reduceSub, Int.reduceToNat, Int.reduceAdd, Int.reduceSub, Int.reduceMul, Int.reduceNeg] | with_reducible refine vIf_t ?_ | with_reducible refine vIf_f ?_)); all_goals (try simp); all_goals (try omega)); done) | (refine leF_p ?_; ((repeat (first | simp (maxSteps := 2000000) (disch := omega) only [go_sem, ↓reduceIte, Nat.reduceEqDiff, Nat.reduceAdd, Nat.reduceMul, Nat.reduceSub, Int.reduceToNat, Int.reduceAdd, Int.reduceSub, Int.reduceMul, Int.reduceNeg] | with_reducible refine vIf_t ?_ | with_reducible refine vIf_f ?_)); all_goals (try simp); all_goals (try omega)); done)))
    · have ej : j = row.length := by omega
      subst ej
      rw [List.take_length] at *
      (repeat (first | simp (maxSteps := 2000000) (disch := omega) only [go_sem, ↓reduceIte, Nat.reduceEqDiff, Nat.reduceAdd, Nat.reduceMul, Nat.reduceSub, Int.reduceToNat, Int.reduceAdd, Int.reduceSub, Int.reduceMul, Int.reduceNeg] | with_reducible refine vIf_t ?_ | with_reducible refine vIf_f ?_))
      refine againF (i + 1) (by omega) (by omega) (by rw [hsu]; (first | (refine leF_s ?_; ((repeat (first | simp (maxSteps := 2000000) (disch := omega) only [go_sem, ↓reduceIte, Nat.reduceEqDiff, Nat.reduceAdd, Nat.reduceMul, Nat.reduceSub, Int.reduceToNat, Int.reduceAdd, Int.reduceSub, Int.reduceMul, Int.reduceNeg] | with_reducible refine vIf_t ?_ | with_reducible refine vIf_f ?_)); all_goals (try simp); all_goals (try omega)); done) | (refine leF_p ?_; ((repeat (first | simp (maxSteps := 2000000) (disch := omega) only [go_sem, ↓reduceIte, Nat.reduceEqDiff, Nat.reduceAdd, Nat.reduceMul, Nat.reduceSub, Int.reduceToNat, Int.reduceAdd, Int.reduceSub, Int.reduceMul, Int.reduceNeg] | with_reducible refine vIf_t ?_ | with_reducible refine vIf_f ?_)); all_goals (try simp); all_goals (try omega)); done)))
  · have ei : i = k := by omega
    subst ei
    have h4 := sortStrings_ok (calN (L.take i)) (by omega)
    (repeat (first | simp (maxSteps := 2000000) (disch := omega) only [go_sem, ↓reduceIte, Nat.reduceEqDiff, Nat.reduceAdd, Nat.reduceMul, Nat.reduceSub, Int.reduceToNat, Int.reduceAdd, Int.reduceSub, Int.reduceMul, Int.reduceNeg] | with_reducible refine vIf_t ?_ | with_reducible refine vIf_f ?_))
    (refine vCallX_io [0] ?_; (repeat (first | simp (maxSteps := 2000000) (disch := omega) only [go_sem, ↓reduceIte, Nat.reduceEqDiff, Nat.reduceAdd, Nat.reduceMul, Nat.reduceSub, Int.reduceToNat, Int.reduceAdd, Int.reduceSub, Int.reduceMul, Int.reduceNeg] | with_reducible refine vIf_t ?_ | with_reducible refine vIf_f ?_)); refine vCallIO_eq (h4) (by simp (disch := omega) only [go_sem, Nat.reduceAdd, Nat.reduceEqDiff]) (by simp (disch := omega) only [go_sem, Nat.reduceAdd, Nat.reduceEqDiff]) (by first | rfl | (simp (disch := omega) only [go_sem, Nat.reduceAdd, Nat.reduceEqDiff])) (by first | rfl | (simp (disch := omega) only [go_sem, Nat.reduceAdd, Nat.reduceEqDiff])) (by first | rfl | (simp (disch := omega) only [go_sem, Nat.reduceAdd, Nat.reduceEqDiff])) (by first | (simp (disch := omega) only [go_sem, Nat.reduceAdd, Nat.reduceEqDiff]) | skip) ?_; (repeat (first | simp (maxSteps := 2000000) (disch := omega) only [go_sem, ↓reduceIte, Nat.reduceEqDiff, Nat.reduceAdd, Nat.reduceMul, Nat.reduceSub, Int.reduceToNat, Int.reduceAdd, Int.reduceSub, Int.reduceMul, Int.reduceNeg] | with_reducible refine vIf_t ?_ | with_reducible refine vIf_f ?_)))
    (refine retK_of ?_; (repeat (first | simp (maxSteps := 2000000) (disch := omega) only [go_sem, ↓reduceIte, Nat.reduceEqDiff, Nat.reduceAdd, Nat.reduceMul, Nat.reduceSub, Int.reduceToNat, Int.reduceAdd, Int.reduceSub, Int.reduceMul, Int.reduceNeg] | with_reducible refine vIf_t ?_ | with_reducible refine vIf_f ?_)))
    rw [sS_len]
end Go.Proofs.Ytilocioajpcoiaa

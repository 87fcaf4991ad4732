/- texts: the model's parts; drawn and spoiled texts -/
import Derived.Test.YtjgjnedenapemaaGreatDoorT7
set_option linter.unusedVariables false
set_option linter.unusedSimpArgs false
namespace Go.Proofs.YtjgjnedenapemaaGreatDoor
open Go.AG Go.Lib

attribute [local go_sem] beq_self_eq_true bne_self_eq_false Bool.not_true
set_option maxRecDepth 20000 in
set_option maxHeartbeats 4000000 in
theorem l01Split_ok (l : List UInt8) (b : UInt8) (hl : l.length ≤ 100000) : ACalls Tryz.prog 89 [St (tx l), .sc (.int .u8 b.toNat)] []
    (fun r o => r = .ref 0 0 (splB b l []).length ∧ o = [some ⟨1, strs ((splB b l []).map tx)⟩]) := by
  refine ACalls.of_vc Tryz.func89 rfl (by decide) 35 rfl [.tmp 4] rfl (by simp) ?_
  have hsn := splB_len b l []
  (repeat (first | simp (maxSteps := 2000000) (disch := omega) only [go_sem, ↓reduceIte] | with_reducible refine vIf_t ?_ | with_reducible refine vIf_f ?_))
  refine vcLoop_invF (fun x : Nat × Nat × List (List UInt8) => x.1 ≤ l.length ∧ x.2.1 ≤ x.1 ∧ x.2.2.length ≤ x.1 ∧ x.2.2 ++ splB b (l.drop x.1) ((l.take x.1).drop x.2.1) = splB b l []) (fun x => ⟨35, 0, [(7, I x.1), (6, I x.2.1), (0, St (tx l)), (5, .ref 0 0 x.2.2.length), (1, .sc (.int .u8 b.toNat))], [some ⟨1, strs (x.2.2.map tx)⟩]⟩) (fun x => l.length - x.1) (0, 0, []) ⟨by simp, by simp, by simp, by simp⟩ (by (first | (refine leF_s ?_; ((repeat (first | simp (maxSteps := 2000000) (disch := omega) only [go_sem, ↓reduceIte] | with_reducible refine vIf_t ?_ | with_reducible refine vIf_f ?_)); all_goals (try simp); all_goals (try omega)); done) | (refine leF_p ?_; ((repeat (first | simp (maxSteps := 2000000) (disch := omega) only [go_sem, ↓reduceIte] | with_reducible refine vIf_t ?_ | with_reducible refine vIf_f ?_)); all_goals (try simp); all_goals (try omega)); done))) ?_
  rintro ⟨i, f, out⟩ ⟨hi, hf, ho, he⟩
  simp only at hi hf ho he
  have ex := tx_extract l f i
  have hml : (out.map tx).length = out.length := by simp
  (repeat (first | simp (maxSteps := 2000000) (disch := omega) only [go_sem, ↓reduceIte] | with_reducible refine vIf_t ?_ | with_reducible refine vIf_f ?_))
  refine vIf_dec (fun h => ?_) (fun h => ?_)
  · have hil : i < l.length := by omega
    have hb := byteAt_tx l i hil
    have hd : l.drop i = l[i] :: l.drop (i + 1) := List.drop_eq_getElem_cons hil
    have ht : l.take (i + 1) = l.take i ++ [l[i]] := List.take_succ_eq_append_getElem hil
    have hc := u8_eq l[i] b
    rw [hd, splB] at he
    by_cases e : l[i] = b
    · rw [if_pos e] at he
      rw [decide_eq_true e] at hc
      (repeat (first | simp (maxSteps := 2000000) (disch := omega) only [go_sem, ↓reduceIte, hb] | with_reducible refine vIf_t ?_ | with_reducible refine vIf_f ?_))
      (try (repeat (first | simp (maxSteps := 2000000) (disch := omega) only [go_sem, ↓reduceIte, hc] | with_reducible refine vIf_t ?_ | with_reducible refine vIf_f ?_)))
      (try (repeat (first | simp (maxSteps := 2000000) (disch := omega) only [go_sem, ↓reduceIte, ex] | with_reducible refine vIf_t ?_ | with_reducible refine vIf_f ?_)))
      refine againF (i + 1, i + 1, out ++ [(l.take i).drop f]) ⟨by simp only; omega, by simp only; omega, by simp; omega, ?_⟩ (by simp only; omega) ?_
      · simp only
        rw [show (l.take (i + 1)).drop (i + 1) = [] from List.drop_eq_nil_of_le (by simp; omega), List.append_assoc]
        exact he
      · simp only [List.map_append, List.map_cons, List.map_nil, List.length_append, List.length_cons, List.length_nil]
        (first | (refine leF_s ?_; ((repeat (first | simp (maxSteps := 2000000) (disch := omega) only [go_sem, ↓reduceIte] | with_reducible refine vIf_t ?_ | with_reducible refine vIf_f ?_)); all_goals (try simp); all_goals (try omega)); done) | (refine leF_p ?_; ((repeat (first | simp (maxSteps := 2000000) (disch := omega) only [go_sem, ↓reduceIte] | with_reducible refine vIf_t ?_ | with_reducible refine vIf_f ?_)); all_goals (try simp); all_goals (try omega)); done))
    · rw [if_neg e] at he
      rw [decide_eq_false e] at hc
      (repeat (first | simp (maxSteps := 2000000) (disch := omega) only [go_sem, ↓reduceIte, hb] | with_reducible refine vIf_t ?_ | with_reducible refine vIf_f ?_))
      (try (repeat (first | simp (maxSteps := 2000000) (disch := omega) only [go_sem, ↓reduceIte, hc] | with_reducible refine vIf_t ?_ | with_reducible refine vIf_f ?_)))
      refine againF (i + 1, f, out) ⟨by simp only; omega, by simp only; omega, by simp only; omega, ?_⟩ (by simp only; omega) (by (first | (refine leF_s ?_; ((repeat (first | simp (maxSteps := 2000000) (disch := omega) only [go_sem, ↓reduceIte] | with_reducible refine vIf_t ?_ | with_reducible refine vIf_f ?_)); all_goals (try simp); all_goals (try omega)); done) | (refine leF_p ?_; ((repeat (first | simp (maxSteps := 2000000) (disch := omega) only [go_sem, ↓reduceIte] | with_reducible refine vIf_t ?_ | with_reducible refine vIf_f ?_)); all_goals (try simp); all_goals (try omega)); done)))
      simp only
      rw [ht, List.drop_append_of_le_length (by simp; omega)]
      exact he
  · have ei : i = l.length := by omega
    subst ei
    have he2 : splB b l [] = out ++ [(l.take l.length).drop f] := by rw [← he, List.drop_length]; rfl
    rw [he2]
    (repeat (first | simp (maxSteps := 2000000) (disch := omega) only [go_sem, ↓reduceIte, ex] | with_reducible refine vIf_t ?_ | with_reducible refine vIf_f ?_))
    (refine retK_of ?_; (repeat (first | simp (maxSteps := 2000000) (disch := omega) only [go_sem, ↓reduceIte] | with_reducible refine vIf_t ?_ | with_reducible refine vIf_f ?_)))
    rw [List.map_append]
    rfl
def spL : List ByteArray := [tx [32], tx [48], tx [45], tx [120], tx [49], tx [57], tx [46]]
theorem spL_ok {s : ByteArray} (h : s ∈ spL) : ∃ c : UInt8, s = tx [c] ∧ c.toNat < 128 := by
  simp only [spL, List.mem_cons, List.not_mem_nil, or_false] at h
  rcases h with rfl | rfl | rfl | rfl | rfl | rfl | rfl
  all_goals exact ⟨_, rfl, by decide⟩
set_option maxRecDepth 20000 in
set_option maxHeartbeats 4000000 in
theorem l01Spoil_e {code : List Int} (g : SrOk code) (σ : Sr) (l : List UInt8) (hp : σ.pos ≤ 10000000000) (hl : l.length ≤ 10000) (ha : Asc l) : ACalls Tryz.prog 87 [.ptr 0 0, St (tx l)] [srO code σ]
    (fun r o => ∃ (l' : List UInt8) (σ' : Sr), r = St (tx l') ∧ o = [srO code σ'] ∧ Asc l' ∧ l'.length ≤ l.length + 1) := by
  refine ACalls.of_vc Tryz.func87 rfl (by decide) 44 rfl [.tmp 4] rfl (by simp) ?_
  (repeat (first | simp (maxSteps := 2000000) (disch := omega) only [go_sem, ↓reduceIte] | with_reducible refine vIf_t ?_ | with_reducible refine vIf_f ?_))
  (refine vCallX_io [0] ?_; (repeat (first | simp (maxSteps := 2000000) (disch := omega) only [go_sem, ↓reduceIte] | with_reducible refine vIf_t ?_ | with_reducible refine vIf_f ?_)); refine vCallIO_ex (pick_e g 5 σ (by omega)) (by simp (disch := omega) only [go_sem]) (by simp (disch := omega) only [go_sem]) (by first | rfl | (simp (disch := omega) only [go_sem])) (by first | rfl | (simp (disch := omega) only [go_sem])) (by first | rfl | (simp (disch := omega) only [go_sem])) ?_); rintro _ _ ⟨v1, σ1, rfl, rfl, h1, h2, h3⟩; (refine ⟨by first | (simp (disch := omega) only [go_sem]) | trivial, ?_⟩; (repeat (first | simp (maxSteps := 2000000) (disch := omega) only [go_sem, ↓reduceIte] | with_reducible refine vIf_t ?_ | with_reducible refine vIf_f ?_)))
  by_cases hv0 : v1 = 0
  · have c0 : (v1 == 0) = true := by simpa using hv0
    (try (repeat (first | simp (maxSteps := 2000000) (disch := omega) only [go_sem, ↓reduceIte, c0] | with_reducible refine vIf_t ?_ | with_reducible refine vIf_f ?_)))
    (refine vCallX_io [0] ?_; (repeat (first | simp (maxSteps := 2000000) (disch := omega) only [go_sem, ↓reduceIte] | with_reducible refine vIf_t ?_ | with_reducible refine vIf_f ?_)); refine vCallIO_ex (pick_e g (l.length + 1) σ1 (by omega)) (by simp (disch := omega) only [go_sem]) (by simp (disch := omega) only [go_sem]) (by first | rfl | (simp (disch := omega) only [go_sem])) (by first | rfl | (simp (disch := omega) only [go_sem])) (by first | rfl | (simp (disch := omega) only [go_sem])) ?_); rintro _ _ ⟨a, σ2, rfl, rfl, h4, h5, h6⟩; (refine ⟨by first | (simp (disch := omega) only [go_sem]) | trivial, ?_⟩; (repeat (first | simp (maxSteps := 2000000) (disch := omega) only [go_sem, ↓reduceIte] | with_reducible refine vIf_t ?_ | with_reducible refine vIf_f ?_)))
    obtain ⟨j, rfl⟩ : ∃ j : Nat, a = j := ⟨a.toNat, by omega⟩
    have hj : j ≤ l.length := by omega
    have ex1 : (tx l).extract 0 j = tx (l.take j) := by rw [tx_extract]; rfl
    have ex2 : (tx l).extract j l.length = tx (l.drop j) := by rw [tx_extract, List.take_length]
    have n1 : (l.take j).length = j := by simp; omega
    have n2 : (l.drop j).length = l.length - j := by simp
    (refine vDraw_sch 10 [(0, false), (1, false), (2, false), (3, false), (7, false), (8, false), (9, false), (4, false), (5, false), (6, false)] mixed (by kernel_rfl) ?_; simp only [List.cons_append, List.nil_append, List.map_cons, List.map_nil, nthO_zero, nthO_succ, List.drop_succ_cons, List.drop_zero, List.drop_nil]; (repeat (first | simp (maxSteps := 2000000) (disch := omega) only [go_sem, ↓reduceIte] | with_reducible refine vIf_t ?_ | with_reducible refine vIf_f ?_)))
    (try (repeat (first | simp (maxSteps := 2000000) (disch := omega) only [go_sem, ↓reduceIte, ex1, ex2] | with_reducible refine vIf_t ?_ | with_reducible refine vIf_f ?_)))
    (refine vsCallX_io [0, 1] (by simp [disj]) ?_; (try (repeat (first | simp (maxSteps := 2000000) (disch := omega) only [go_sem, ↓reduceIte] | with_reducible refine vIf_t ?_ | with_reducible refine vIf_f ?_))); refine vCallIO_ex (text_e g [tx [32], tx [48], tx [45], tx [120], tx [49], tx [57], tx [46]] σ2 (by omega) (by simp) _ rfl _ rfl) (by simp (disch := omega) only [go_sem]) (by simp (disch := omega) only [go_sem]) (by first | rfl | (simp (disch := omega) only [go_sem])) (by first | rfl | (simp (disch := omega) only [go_sem])) (by first | rfl | (simp (disch := omega) only [go_sem])) ?_); rintro _ _ ⟨s, σ3, rfl, rfl, h7, h8⟩; (refine ⟨by first | (simp (disch := omega) only [go_sem]) | trivial, ?_⟩; (try (repeat (first | simp (maxSteps := 2000000) (disch := omega) only [go_sem, ↓reduceIte] | with_reducible refine vIf_t ?_ | with_reducible refine vIf_f ?_))))
    obtain ⟨c, rfl, hc⟩ := spL_ok h7
    (try (repeat (first | simp (maxSteps := 2000000) (disch := omega) only [go_sem, ↓reduceIte, ex1, ex2] | with_reducible refine vIf_t ?_ | with_reducible refine vIf_f ?_)))
    (refine retK_of ?_; (repeat (first | simp (maxSteps := 2000000) (disch := omega) only [go_sem, ↓reduceIte] | with_reducible refine vIf_t ?_ | with_reducible refine vIf_f ?_)))
    exact ⟨l.take j ++ [c] ++ l.drop j, σ3, by simp, rfl, ((ha.take j).app (fun d hd => by simp at hd; subst hd; exact hc)).app (ha.drop j), by simp; omega⟩
  · have c0 : (v1 == 0) = false := by simpa using hv0
    by_cases hv1 : v1 = 1
    · have c1 : (v1 == 1) = true := by simpa using hv1
      by_cases hl0 : l = []
      · subst hl0
        (try (repeat (first | simp (maxSteps := 2000000) (disch := omega) only [go_sem, ↓reduceIte, c0, c1] | with_reducible refine vIf_t ?_ | with_reducible refine vIf_f ?_)))
        (refine retK_of ?_; (repeat (first | simp (maxSteps := 2000000) (disch := omega) only [go_sem, ↓reduceIte] | with_reducible refine vIf_t ?_ | with_reducible refine vIf_f ?_)))
        exact ⟨[], σ1, rfl, rfl, ha, by simp⟩
      · have b0 := tx_bq hl0
        have hlp : 0 < l.length := List.length_pos_iff.2 hl0
        (try (repeat (first | simp (maxSteps := 2000000) (disch := omega) only [go_sem, ↓reduceIte, c0, c1, b0] | with_reducible refine vIf_t ?_ | with_reducible refine vIf_f ?_)))
        (refine vCallX_io [0] ?_; (repeat (first | simp (maxSteps := 2000000) (disch := omega) only [go_sem, ↓reduceIte] | with_reducible refine vIf_t ?_ | with_reducible refine vIf_f ?_)); refine vCallIO_ex (pick_e g l.length σ1 (by omega)) (by simp (disch := omega) only [go_sem]) (by simp (disch := omega) only [go_sem]) (by first | rfl | (simp (disch := omega) only [go_sem])) (by first | rfl | (simp (disch := omega) only [go_sem])) (by first | rfl | (simp (disch := omega) only [go_sem])) ?_); rintro _ _ ⟨a, σ2, rfl, rfl, h4, h5, h6⟩; (refine ⟨by first | (simp (disch := omega) only [go_sem]) | trivial, ?_⟩; (repeat (first | simp (maxSteps := 2000000) (disch := omega) only [go_sem, ↓reduceIte] | with_reducible refine vIf_t ?_ | with_reducible refine vIf_f ?_)))
        obtain ⟨j, rfl⟩ : ∃ j : Nat, a = j := ⟨a.toNat, by omega⟩
        have hj : j < l.length := by omega
        have ex1 : (tx l).extract 0 j = tx (l.take j) := by rw [tx_extract]; rfl
        have ex2 : (tx l).extract (j + 1) l.length = tx (l.drop (j + 1)) := by rw [tx_extract, List.take_length]
        have j1 : ((j : Int) + 1).toNat = j + 1 := by omega
        have n1 : (l.take j).length = j := by simp; omega
        have n2 : (l.drop (j + 1)).length = l.length - (j + 1) := by simp
        (refine vDraw_sch 7 [(0, false), (1, false), (2, false), (3, false), (4, false), (5, false), (6, false)] mixed (by kernel_rfl) ?_; simp only [List.cons_append, List.nil_append, List.map_cons, List.map_nil, nthO_zero, nthO_succ, List.drop_succ_cons, List.drop_zero, List.drop_nil]; (repeat (first | simp (maxSteps := 2000000) (disch := omega) only [go_sem, ↓reduceIte] | with_reducible refine vIf_t ?_ | with_reducible refine vIf_f ?_)))
        (try (repeat (first | simp (maxSteps := 2000000) (disch := omega) only [go_sem, ↓reduceIte, ex1, j1, ex2] | with_reducible refine vIf_t ?_ | with_reducible refine vIf_f ?_)))
        (refine retK_of ?_; (repeat (first | simp (maxSteps := 2000000) (disch := omega) only [go_sem, ↓reduceIte] | with_reducible refine vIf_t ?_ | with_reducible refine vIf_f ?_)))
        exact ⟨l.take j ++ l.drop (j + 1), σ2, rfl, rfl, (ha.take j).app (ha.drop (j + 1)), by simp; omega⟩
    · have c1 : (v1 == 1) = false := by simpa using hv1
      (try (repeat (first | simp (maxSteps := 2000000) (disch := omega) only [go_sem, ↓reduceIte, c0, c1] | with_reducible refine vIf_t ?_ | with_reducible refine vIf_f ?_)))
      (refine retK_of ?_; (repeat (first | simp (maxSteps := 2000000) (disch := omega) only [go_sem, ↓reduceIte] | with_reducible refine vIf_t ?_ | with_reducible refine vIf_f ?_)))
      exact ⟨l, σ1, rfl, rfl, ha, by omega⟩
end Go.Proofs.YtjgjnedenapemaaGreatDoor

/- texts: the model's decimals, parts and spoiled texts -/
import Derived.Test.YthgjcanhemohfaaDoorT6
import Derived.Test.YthgjcanhemohfaaDoorSrc2
set_option linter.unusedVariables false
set_option linter.unusedSimpArgs false
namespace Go.Proofs.YthgjcanhemohfaaDoor
open Go.AG Go.Lib

attribute [local go_sem] beq_self_eq_true bne_self_eq_false Bool.not_true
/-- digits as numbers -/
def decI (u : Nat) : List Int := (decDigits u).map fun c => (c.toNat : Int)
def decX (u : Nat) : List Int := if u = 0 then [] else decI u
theorem decX_step (u : Nat) (h : u ≠ 0) : decX u = decX (u / 10) ++ [48 + ((u % 10 : Nat) : Int)] := by
  have key : ∀ k, k < 10 → (UInt8.ofNat (48 + k)).toNat = 48 + k := by
    intro k hk
    rw [UInt8.toNat_ofNat']
    omega
  unfold decX
  rw [if_neg h]
  unfold decI
  rw [decDigits]
  split
  · rename_i h10
    rw [if_pos (by omega)]
    simp only [List.map_cons, List.map_nil, List.nil_append, key u h10]
    rw [Nat.mod_eq_of_lt h10]; simp
  · rw [if_neg (by omega)]
    simp only [List.map_append, List.map_cons, List.map_nil, key (u % 10) (by omega)]
    simp
theorem mkS_decI (u : Nat) : mkS (decI u) = tx (decDigits u) := by
  unfold mkS decI tx
  congr 2
  rw [List.map_map]
  conv => rhs; rw [← List.map_id (decDigits u)]
  congr 1
  funext c
  simp
theorem decI_bd (u : Nat) : ∀ x ∈ decI u, 48 ≤ x ∧ x ≤ 57 := by
  intro x hx
  obtain ⟨c, hc, rfl⟩ := List.mem_map.1 hx
  have := dig_mem u c hc
  omega
theorem decX_len (u : Nat) (h : u < 10 ^ 19) : (decX u).length ≤ 19 := by
  unfold decX
  split
  · simp
  · unfold decI
    rw [List.length_map, decDigits_length]
    exact nDigits_lt u 19 h (by omega)
theorem itoa0 : itoa 0 = [48] := by
  unfold itoa
  rw [if_neg (by omega), decDigits]
  rfl
theorem mkS_nil : mkS [] = tx [] := rfl
theorem byteAt_tx (l : List UInt8) (i : Nat) (h : i < l.length) : byteAt (tx l) i = (l[i].toNat : Int) := by
  simp [byteAt, list_tx, h]
theorem tx_extract (l : List UInt8) (a b : Nat) : (tx l).extract a b = tx ((l.take b).drop a) := by
  rw [← tx_list ((tx l).extract a b)]
  congr 1
  simp [list_tx, List.drop_take]
set_option maxRecDepth 20000 in
set_option maxHeartbeats 4000000 in
theorem l01Dec_ok (n : Int) (h : -9223372036854775808 ≤ n ∧ n ≤ 9223372036854775807) : ACalls Tryd.prog 44 [I n] [] (fun r o => r = St (decS n) ∧ o = []) := by
  refine ACalls.of_vc Tryd.func44 rfl (by decide) 34 rfl [.tmp 2] rfl (by simp) ?_
  have hxl := decX_len n.natAbs (by omega)
  have hdl : (decDigits n.natAbs).length ≤ 19 := by rw [decDigits_length]; exact nDigits_lt _ 19 (by omega) (by omega)
  by_cases hn : n < 0
  · have cn : decide (n < 0) = true := decide_eq_true hn
    (repeat (first | simp (maxSteps := 2000000) (disch := omega) only [go_sem, ↓reduceIte, Nat.reduceEqDiff, Nat.reduceAdd, Nat.reduceMul, Nat.reduceSub, Int.reduceToNat, Int.reduceAdd, Int.reduceSub, Int.reduceMul, Int.reduceNeg] | with_reducible refine vIf_t ?_ | with_reducible refine vIf_f ?_))
    refine vcLoop_invF (fun x : Nat × List Int => x.1 ≤ n.natAbs ∧ decX x.1 ++ x.2 = decX n.natAbs) (fun x => ⟨34, 0, [(4, I (-(x.1 : Int))), (3, .ref 0 0 x.2.length), (0, I n)], [some ⟨1, bts x.2⟩]⟩) (fun x => x.1) (n.natAbs, []) ⟨Nat.le_refl _, by simp⟩ (by simp only; rw [show (-(n.natAbs : Int)) = n by omega]; (first | (refine leF_s ?_; ((repeat (first | simp (maxSteps := 2000000) (disch := omega) only [go_sem, ↓reduceIte, Nat.reduceEqDiff, Nat.reduceAdd, Nat.reduceMul, Nat.reduceSub, Int.reduceToNat, Int.reduceAdd, Int.reduceSub, Int.reduceMul, Int.reduceNeg] | with_reducible refine vIf_t ?_ | with_reducible refine vIf_f ?_)); all_goals (try simp); all_goals (try omega)); done) | (refine leF_p ?_; ((repeat (first | simp (maxSteps := 2000000) (disch := omega) only [go_sem, ↓reduceIte, Nat.reduceEqDiff, Nat.reduceAdd, Nat.reduceMul, Nat.reduceSub, Int.reduceToNat, Int.reduceAdd, Int.reduceSub, Int.reduceMul, Int.reduceNeg] | with_reducible refine vIf_t ?_ | with_reducible refine vIf_f ?_)); all_goals (try simp); all_goals (try omega)); done))) ?_
    rintro ⟨kk, out⟩ ⟨hk, he⟩
    simp only at hk he
    have hol : out.length ≤ 19 := by have := congrArg List.length he; simp only [List.length_append] at this; omega
    (repeat (first | simp (maxSteps := 2000000) (disch := omega) only [go_sem, ↓reduceIte, Nat.reduceEqDiff, Nat.reduceAdd, Nat.reduceMul, Nat.reduceSub, Int.reduceToNat, Int.reduceAdd, Int.reduceSub, Int.reduceMul, Int.reduceNeg] | with_reducible refine vIf_t ?_ | with_reducible refine vIf_f ?_))
    by_cases hz : kk = 0
    · subst hz
      have c0 : ((-((0 : Nat) : Int)) != 0) = false := by simp
      have eo : out = decX n.natAbs := by simpa [decX] using he
      (repeat (first | simp (maxSteps := 2000000) (disch := omega) only [go_sem, ↓reduceIte, Nat.reduceEqDiff, Nat.reduceAdd, Nat.reduceMul, Nat.reduceSub, Int.reduceToNat, Int.reduceAdd, Int.reduceSub, Int.reduceMul, Int.reduceNeg, c0] | with_reducible refine vIf_t ?_ | with_reducible refine vIf_f ?_))
      have hn0 : n.natAbs ≠ 0 := by omega
      have e0 : out = decI n.natAbs := by rw [eo, decX, if_neg hn0]
      have hl0 : ((out.length : Int) == 0) = false := by
        have : out ≠ [] := by rw [e0, decI]; simp [dig_ne]
        have : 0 < out.length := List.length_pos_iff.2 this
        simp; omega
      (try (repeat (first | simp (maxSteps := 2000000) (disch := omega) only [go_sem, ↓reduceIte, Nat.reduceEqDiff, Nat.reduceAdd, Nat.reduceMul, Nat.reduceSub, Int.reduceToNat, Int.reduceAdd, Int.reduceSub, Int.reduceMul, Int.reduceNeg, hl0, cn] | with_reducible refine vIf_t ?_ | with_reducible refine vIf_f ?_)))
      rw [e0, mkS_decI]
      (try (repeat (first | simp (maxSteps := 2000000) (disch := omega) only [go_sem, ↓reduceIte, Nat.reduceEqDiff, Nat.reduceAdd, Nat.reduceMul, Nat.reduceSub, Int.reduceToNat, Int.reduceAdd, Int.reduceSub, Int.reduceMul, Int.reduceNeg] | with_reducible refine vIf_t ?_ | with_reducible refine vIf_f ?_)))
      (refine retK_of ?_; (repeat (first | simp (maxSteps := 2000000) (disch := omega) only [go_sem, ↓reduceIte, Nat.reduceEqDiff, Nat.reduceAdd, Nat.reduceMul, Nat.reduceSub, Int.reduceToNat, Int.reduceAdd, Int.reduceSub, Int.reduceMul, Int.reduceNeg] | with_reducible refine vIf_t ?_ | with_reducible refine vIf_f ?_)))
      rw [itoa, if_pos hn]
      try rfl
    · have c0 : ((-(kk : Int)) != 0) = true := by simp; omega
      have es := decX_step kk hz
      have t1 : (-(kk : Int)).tmod 10 = -((kk % 10 : Nat) : Int) := by rw [Int.neg_tmod, Int.tmod_eq_emod_of_nonneg (by omega)]; omega
      have t2 : (-(kk : Int)).tdiv 10 = -((kk / 10 : Nat) : Int) := by rw [Int.neg_tdiv, Int.tdiv_eq_ediv_of_nonneg (by omega)]; omega
      have hm : kk % 10 < 10 := Nat.mod_lt _ (by omega)
      have w1 : IntKind.wrap .u8 (48 + ((kk % 10 : Nat) : Int)) = 48 + ((kk % 10 : Nat) : Int) := by rw [IntKind.wrap_u8]; omega
      by_cases h0 : kk % 10 = 0
      · have c1 : decide (-((kk % 10 : Nat) : Int) < 0) = false := decide_eq_false (by omega)
        have e1 : -((kk % 10 : Nat) : Int) = ((kk % 10 : Nat) : Int) := by omega
        rw [e1] at t1
        have c2 : decide (((kk % 10 : Nat) : Int) < 0) = false := decide_eq_false (by omega)
        (repeat (first | simp (maxSteps := 2000000) (disch := omega) only [go_sem, ↓reduceIte, Nat.reduceEqDiff, Nat.reduceAdd, Nat.reduceMul, Nat.reduceSub, Int.reduceToNat, Int.reduceAdd, Int.reduceSub, Int.reduceMul, Int.reduceNeg, c0, t1] | with_reducible refine vIf_t ?_ | with_reducible refine vIf_f ?_))
        (try (repeat (first | simp (maxSteps := 2000000) (disch := omega) only [go_sem, ↓reduceIte, Nat.reduceEqDiff, Nat.reduceAdd, Nat.reduceMul, Nat.reduceSub, Int.reduceToNat, Int.reduceAdd, Int.reduceSub, Int.reduceMul, Int.reduceNeg, c2, t2, w1] | with_reducible refine vIf_t ?_ | with_reducible refine vIf_f ?_)))
        refine againF (kk / 10, [48 + ((kk % 10 : Nat) : Int)] ++ out) ⟨by simp only; omega, by simp only; rw [← he, es, List.append_assoc]⟩ (by simp only; omega) ?_
        refine leF_p ?_
        (repeat (first | simp (maxSteps := 2000000) (disch := omega) only [go_sem, ↓reduceIte, Nat.reduceEqDiff, Nat.reduceAdd, Nat.reduceMul, Nat.reduceSub, Int.reduceToNat, Int.reduceAdd, Int.reduceSub, Int.reduceMul, Int.reduceNeg] | with_reducible refine vIf_t ?_ | with_reducible refine vIf_f ?_))
        exact ⟨by omega, rfl⟩
      · have c1 : decide (-((kk % 10 : Nat) : Int) < 0) = true := decide_eq_true (by omega)
        have e1 : 0 - -((kk % 10 : Nat) : Int) = ((kk % 10 : Nat) : Int) := by omega
        (repeat (first | simp (maxSteps := 2000000) (disch := omega) only [go_sem, ↓reduceIte, Nat.reduceEqDiff, Nat.reduceAdd, Nat.reduceMul, Nat.reduceSub, Int.reduceToNat, Int.reduceAdd, Int.reduceSub, Int.reduceMul, Int.reduceNeg, c0, t1] | with_reducible refine vIf_t ?_ | with_reducible refine vIf_f ?_))
        (try (repeat (first | simp (maxSteps := 2000000) (disch := omega) only [go_sem, ↓reduceIte, Nat.reduceEqDiff, Nat.reduceAdd, Nat.reduceMul, Nat.reduceSub, Int.reduceToNat, Int.reduceAdd, Int.reduceSub, Int.reduceMul, Int.reduceNeg, c1, t2, e1] | with_reducible refine vIf_t ?_ | with_reducible refine vIf_f ?_)))
        (try (repeat (first | simp (maxSteps := 2000000) (disch := omega) only [go_sem, ↓reduceIte, Nat.reduceEqDiff, Nat.reduceAdd, Nat.reduceMul, Nat.reduceSub, Int.reduceToNat, Int.reduceAdd, Int.reduceSub, Int.reduceMul, Int.reduceNeg, w1] | with_reducible refine vIf_t ?_ | with_reducible refine vIf_f ?_)))
        refine againF (kk / 10, [48 + ((kk % 10 : Nat) : Int)] ++ out) ⟨by simp only; omega, by simp only; rw [← he, es, List.append_assoc]⟩ (by simp only; omega) ?_
        refine leF_p ?_
        (repeat (first | simp (maxSteps := 2000000) (disch := omega) only [go_sem, ↓reduceIte, Nat.reduceEqDiff, Nat.reduceAdd, Nat.reduceMul, Nat.reduceSub, Int.reduceToNat, Int.reduceAdd, Int.reduceSub, Int.reduceMul, Int.reduceNeg] | with_reducible refine vIf_t ?_ | with_reducible refine vIf_f ?_))
        exact ⟨by omega, rfl⟩
  · have cn : decide (n < 0) = false := decide_eq_false hn
    (repeat (first | simp (maxSteps := 2000000) (disch := omega) only [go_sem, ↓reduceIte, Nat.reduceEqDiff, Nat.reduceAdd, Nat.reduceMul, Nat.reduceSub, Int.reduceToNat, Int.reduceAdd, Int.reduceSub, Int.reduceMul, Int.reduceNeg] | with_reducible refine vIf_t ?_ | with_reducible refine vIf_f ?_))
    refine vcLoop_invF (fun x : Nat × List Int => x.1 ≤ n.natAbs ∧ decX x.1 ++ x.2 = decX n.natAbs) (fun x => ⟨34, 0, [(4, I ((x.1 : Int))), (3, .ref 0 0 x.2.length), (0, I n)], [some ⟨1, bts x.2⟩]⟩) (fun x => x.1) (n.natAbs, []) ⟨Nat.le_refl _, by simp⟩ (by simp only; rw [show ((n.natAbs : Int)) = n by omega]; (first | (refine leF_s ?_; ((repeat (first | simp (maxSteps := 2000000) (disch := omega) only [go_sem, ↓reduceIte, Nat.reduceEqDiff, Nat.reduceAdd, Nat.reduceMul, Nat.reduceSub, Int.reduceToNat, Int.reduceAdd, Int.reduceSub, Int.reduceMul, Int.reduceNeg] | with_reducible refine vIf_t ?_ | with_reducible refine vIf_f ?_)); all_goals (try simp); all_goals (try omega)); done) | (refine leF_p ?_; ((repeat (first | simp (maxSteps := 2000000) (disch := omega) only [go_sem, ↓reduceIte, Nat.reduceEqDiff, Nat.reduceAdd, Nat.reduceMul, Nat.reduceSub, Int.reduceToNat, Int.reduceAdd, Int.reduceSub, Int.reduceMul, Int.reduceNeg] | with_reducible refine vIf_t ?_ | with_reducible refine vIf_f ?_)); all_goals (try simp); all_goals (try omega)); done))) ?_
    rintro ⟨kk, out⟩ ⟨hk, he⟩
    simp only at hk he
    have hol : out.length ≤ 19 := by have := congrArg List.length he; simp only [List.length_append] at this; omega
    (repeat (first | simp (maxSteps := 2000000) (disch := omega) only [go_sem, ↓reduceIte, Nat.reduceEqDiff, Nat.reduceAdd, Nat.reduceMul, Nat.reduceSub, Int.reduceToNat, Int.reduceAdd, Int.reduceSub, Int.reduceMul, Int.reduceNeg] | with_reducible refine vIf_t ?_ | with_reducible refine vIf_f ?_))
    by_cases hz : kk = 0
    · subst hz
      have c0 : ((((0 : Nat) : Int)) != 0) = false := by simp
      have eo : out = decX n.natAbs := by simpa [decX] using he
      (repeat (first | simp (maxSteps := 2000000) (disch := omega) only [go_sem, ↓reduceIte, Nat.reduceEqDiff, Nat.reduceAdd, Nat.reduceMul, Nat.reduceSub, Int.reduceToNat, Int.reduceAdd, Int.reduceSub, Int.reduceMul, Int.reduceNeg, c0] | with_reducible refine vIf_t ?_ | with_reducible refine vIf_f ?_))
      by_cases hn0 : n.natAbs = 0
      · have e0 : out = [] := by rw [eo, hn0]; rfl
        subst e0
        (try (repeat (first | simp (maxSteps := 2000000) (disch := omega) only [go_sem, ↓reduceIte, Nat.reduceEqDiff, Nat.reduceAdd, Nat.reduceMul, Nat.reduceSub, Int.reduceToNat, Int.reduceAdd, Int.reduceSub, Int.reduceMul, Int.reduceNeg] | with_reducible refine vIf_t ?_ | with_reducible refine vIf_f ?_)))
        (refine retK_of ?_; (repeat (first | simp (maxSteps := 2000000) (disch := omega) only [go_sem, ↓reduceIte, Nat.reduceEqDiff, Nat.reduceAdd, Nat.reduceMul, Nat.reduceSub, Int.reduceToNat, Int.reduceAdd, Int.reduceSub, Int.reduceMul, Int.reduceNeg] | with_reducible refine vIf_t ?_ | with_reducible refine vIf_f ?_)))
        rw [show n = 0 by omega, itoa0]
      · have e0 : out = decI n.natAbs := by rw [eo, decX, if_neg hn0]
        have hl0 : ((out.length : Int) == 0) = false := by
          have : out ≠ [] := by rw [e0, decI]; simp [dig_ne]
          have : 0 < out.length := List.length_pos_iff.2 this
          simp; omega
        (try (repeat (first | simp (maxSteps := 2000000) (disch := omega) only [go_sem, ↓reduceIte, Nat.reduceEqDiff, Nat.reduceAdd, Nat.reduceMul, Nat.reduceSub, Int.reduceToNat, Int.reduceAdd, Int.reduceSub, Int.reduceMul, Int.reduceNeg, hl0, cn] | with_reducible refine vIf_t ?_ | with_reducible refine vIf_f ?_)))
        (refine retK_of ?_; (repeat (first | simp (maxSteps := 2000000) (disch := omega) only [go_sem, ↓reduceIte, Nat.reduceEqDiff, Nat.reduceAdd, Nat.reduceMul, Nat.reduceSub, Int.reduceToNat, Int.reduceAdd, Int.reduceSub, Int.reduceMul, Int.reduceNeg] | with_reducible refine vIf_t ?_ | with_reducible refine vIf_f ?_)))
        rw [e0, mkS_decI, itoa, if_neg hn, show n.natAbs = n.toNat by omega]
    · have c0 : (((kk : Int)) != 0) = true := by simp; omega
      have es := decX_step kk hz
      have t1 : ((kk : Int)).tmod 10 = ((kk % 10 : Nat) : Int) := by rw [Int.tmod_eq_emod_of_nonneg (by omega)]; omega
      have t2 : ((kk : Int)).tdiv 10 = ((kk / 10 : Nat) : Int) := by rw [Int.tdiv_eq_ediv_of_nonneg (by omega)]; omega
      have hm : kk % 10 < 10 := Nat.mod_lt _ (by omega)
      have w1 : IntKind.wrap .u8 (48 + ((kk % 10 : Nat) : Int)) = 48 + ((kk % 10 : Nat) : Int) := by rw [IntKind.wrap_u8]; omega
      have c1 : decide (((kk % 10 : Nat) : Int) < 0) = false := decide_eq_false (by omega)
      (repeat (first | simp (maxSteps := 2000000) (disch := omega) only [go_sem, ↓reduceIte, Nat.reduceEqDiff, Nat.reduceAdd, Nat.reduceMul, Nat.reduceSub, Int.reduceToNat, Int.reduceAdd, Int.reduceSub, Int.reduceMul, Int.reduceNeg, c0, t1] | with_reducible refine vIf_t ?_ | with_reducible refine vIf_f ?_))
      (try (repeat (first | simp (maxSteps := 2000000) (disch := omega) only [go_sem, ↓reduceIte, Nat.reduceEqDiff, Nat.reduceAdd, Nat.reduceMul, Nat.reduceSub, Int.reduceToNat, Int.reduceAdd, Int.reduceSub, Int.reduceMul, Int.reduceNeg, c1, t2, w1] | with_reducible refine vIf_t ?_ | with_reducible refine vIf_f ?_)))
      refine againF (kk / 10, [48 + ((kk % 10 : Nat) : Int)] ++ out) ⟨by simp only; omega, by simp only; rw [← he, es, List.append_assoc]⟩ (by simp only; omega) ?_
      refine leF_p ?_
      (repeat (first | simp (maxSteps := 2000000) (disch := omega) only [go_sem, ↓reduceIte, Nat.reduceEqDiff, Nat.reduceAdd, Nat.reduceMul, Nat.reduceSub, Int.reduceToNat, Int.reduceAdd, Int.reduceSub, Int.reduceMul, Int.reduceNeg] | with_reducible refine vIf_t ?_ | with_reducible refine vIf_f ?_))
      exact ⟨by omega, rfl⟩
theorem joinT {G H : Prop} (h : G → H) (g : G) : H := h g
theorem tx_bq {a b : List UInt8} (h : a ≠ b) : ((tx a).toList == (tx b).toList) = false := by
  rw [Bool.eq_false_iff]
  intro e
  have e2 : (tx a).toList = (tx b).toList := by simpa using e
  rw [ByteArray.toList_eq, ByteArray.toList_eq, list_tx, list_tx] at e2
  exact h e2
theorem byteAt_0 (c : UInt8) (r : List UInt8) : byteAt (tx (c :: r)) 0 = (c.toNat : Int) := byteAt_tx (c :: r) 0 (by simp)
theorem u8_eq45 (c : UInt8) : ((c.toNat : Int) == 45) = decide (c = 45) := by
  by_cases h : c = 45
  · subst h; rfl
  · rw [decide_eq_false h]
    have : c.toNat ≠ 45 := fun e => h (by
      have := congrArg UInt8.ofNat e
      simpa using this)
    simp
    omega
theorem isDg_int (c : UInt8) : (decide (48 ≤ (c.toNat : Int)) && decide ((c.toNat : Int) ≤ 57)) = isDg c := by
  unfold isDg
  rw [decide_eq_decide.2 (show (48 ≤ (c.toNat : Int)) ↔ 48 ≤ c.toNat by omega), decide_eq_decide.2 (show ((c.toNat : Int) ≤ 57) ↔ c.toNat ≤ 57 by omega)]
end Go.Proofs.YthgjcanhemohfaaDoor

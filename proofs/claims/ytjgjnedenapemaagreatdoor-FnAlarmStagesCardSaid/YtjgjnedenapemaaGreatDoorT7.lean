/- texts: the model's decimals, parts and spoiled texts -/
import Derived.Test.YtjgjnedenapemaaGreatDoorT6
import Derived.Test.YtjgjnedenapemaaGreatDoorSrc2
set_option linter.unusedVariables false
set_option linter.unusedSimpArgs false
namespace Go.Proofs.YtjgjnedenapemaaGreatDoor
open Go.AG Go.Lib

attribute [local go_sem] beq_self_eq_true bne_self_eq_false Bool.not_true
/-- digits as numbers -/
def decI (u : Nat) : List Int := (decDigits u).map fun c => (c.toNat : Int)
def decX (u : Nat) : List Int := if u = 0 then [] else decI u
theorem decX_step (u : Nat) (h : u ≠ 0) : decX u = decX (u / 10) ++ [48 + ((u % 10 : Nat) : Int)] := by
  have key : ∀ k, k < 10 → (UInt8.ofNat (48 + k)).toNat = 48 + k := by
    intro k hk
    rw [UInt8.toNat_ofNat']
    omega
  unfold decX
  rw [if_neg h]
  unfold decI
  rw [decDigits]
  split
  · rename_i h10
    rw [if_pos (by omega)]
    simp only [List.map_cons, List.map_nil, List.nil_append, key u h10]
    rw [Nat.mod_eq_of_lt h10]; simp
  · rw [if_neg (by omega)]
    simp only [List.map_append, List.map_cons, List.map_nil, key (u % 10) (by omega)]
    simp
theorem mkS_decI (u : Nat) : mkS (decI u) = tx (decDigits u) := by
  unfold mkS decI tx
  congr 2
  rw [List.map_map]
  conv => rhs; rw [← List.map_id (decDigits u)]
  congr 1
  funext c
  simp
theorem decI_bd (u : Nat) : ∀ x ∈ decI u, 48 ≤ x ∧ x ≤ 57 := by
  intro x hx
  obtain ⟨c, hc, rfl⟩ := List.mem_map.1 hx
  have := dig_mem u c hc
  omega
theorem decX_len (u : Nat) (h : u < 10 ^ 19) : (decX u).length ≤ 19 := by
  unfold decX
  split
  · simp
  · unfold decI
    rw [List.length_map, decDigits_length]
    exact nDigits_lt u 19 h (by omega)
theorem itoa0 : itoa 0 = [48] := by
  unfold itoa
  rw [if_neg (by omega), decDigits]
  rfl
theorem mkS_nil : mkS [] = tx [] := rfl
theorem byteAt_tx (l : List UInt8) (i : Nat) (h : i < l.length) : byteAt (tx l) i = (l[i].toNat : Int) := by
  simp [byteAt, list_tx, h]
theorem tx_extract (l : List UInt8) (a b : Nat) : (tx l).extract a b = tx ((l.take b).drop a) := by
  rw [← tx_list ((tx l).extract a b)]
  congr 1
  simp [list_tx, List.drop_take]
set_option maxRecDepth 20000 in
set_option maxHeartbeats 4000000 in
theorem l01Dec_ok (n : Int) (h : -9223372036854775808 ≤ n ∧ n ≤ 9223372036854775807) : ACalls Tryz.prog 120 [I n] [] (fun r o => r = St (decS n) ∧ o = []) := by
  refine ACalls.of_vc Tryz.func120 rfl (by decide) 34 rfl [.tmp 2] rfl (by simp) ?_
  have hxl := decX_len n.natAbs (by omega)
  have hdl : (decDigits n.natAbs).length ≤ 19 := by rw [decDigits_length]; exact nDigits_lt _ 19 (by omega) (by omega)
  by_cases hn : n < 0
  · have cn : decide (n < 0) = true := decide_eq_true hn
    (repeat (first | simp (maxSteps := 2000000) (disch := omega) only [go_sem, ↓reduceIte] | with_reducible refine vIf_t ?_ | with_reducible refine vIf_f ?_))
    refine vcLoop_invF (fun x : Nat × List Int => x.1 ≤ n.natAbs ∧ decX x.1 ++ x.2 = decX n.natAbs) (fun x => ⟨34, 0, [(4, I (-(x.1 : Int))), (3, .ref 0 0 x.2.length), (0, I n)], [some ⟨1, bts x.2⟩]⟩) (fun x => x.1) (n.natAbs, []) ⟨Nat.le_refl _, by simp⟩ (by simp only; rw [show (-(n.natAbs : Int)) = n by omega]; (first | (refine leF_s ?_; ((repeat (first | simp (maxSteps := 2000000) (disch := omega) only [go_sem, ↓reduceIte] | with_reducible refine vIf_t ?_ | with_reducible refine vIf_f ?_)); all_goals (try simp); all_goals (try omega)); done) | (refine leF_p ?_; ((repeat (first | simp (maxSteps := 2000000) (disch := omega) only [go_sem, ↓reduceIte] | with_reducible refine vIf_t ?_ | with_reducible refine vIf_f ?_)); all_goals (try simp); all_goals (try omega)); done))) ?_
    rintro ⟨kk, out⟩ ⟨hk, he⟩
    simp only at hk he
    have hol : out.length ≤ 19 := by have := congrArg List.length he; simp only [List.length_append] at this; omega
    (repeat (first | simp (maxSteps := 2000000) (disch := omega) only [go_sem, ↓reduceIte] | with_reducible refine vIf_t ?_ | with_reducible refine vIf_f ?_))
    by_cases hz : kk = 0
    · subst hz
      have c0 : ((-((0 : Nat) : Int)) != 0) = false := by simp
      have eo : out = decX n.natAbs := by simpa [decX] using he
      (repeat (first | simp (maxSteps := 2000000) (disch := omega) only [go_sem, ↓reduceIte, c0] | with_reducible refine vIf_t ?_ | with_reducible refine vIf_f ?_))
      have hn0 : n.natAbs ≠ 0 := by omega
      have e0 : out = decI n.natAbs := by rw [eo, decX, if_neg hn0]
      have hl0 : ((out.length : Int) == 0) = false := by
        have : out ≠ [] := by rw [e0, decI]; simp [dig_ne]
        have : 0 < out.length := List.length_pos_iff.2 this
        simp; omega
      (try (repeat (first | simp (maxSteps := 2000000) (disch := omega) only [go_sem, ↓reduceIte, hl0, cn] | with_reducible refine vIf_t ?_ | with_reducible refine vIf_f ?_)))
      rw [e0, mkS_decI]
      (try (repeat (first | simp (maxSteps := 2000000) (disch := omega) only [go_sem, ↓reduceIte] | with_reducible refine vIf_t ?_ | with_reducible refine vIf_f ?_)))
      (refine retK_of ?_; (repeat (first | simp (maxSteps := 2000000) (disch := omega) only [go_sem, ↓reduceIte] | with_reducible refine vIf_t ?_ | with_reducible refine vIf_f ?_)))
      rw [itoa, if_pos hn]
      try rfl
    · have c0 : ((-(kk : Int)) != 0) = true := by simp; omega
      have es := decX_step kk hz
      have t1 : (-(kk : Int)).tmod 10 = -((kk % 10 : Nat) : Int) := by rw [Int.neg_tmod, Int.tmod_eq_emod_of_nonneg (by omega)]; omega
      have t2 : (-(kk : Int)).tdiv 10 = -((kk / 10 : Nat) : Int) := by rw [Int.neg_tdiv, Int.tdiv_eq_ediv_of_nonneg (by omega)]; omega
      have hm : kk % 10 < 10 := Nat.mod_lt _ (by omega)
      have w1 : IntKind.wrap .u8 (48 + ((kk % 10 : Nat) : Int)) = 48 + ((kk % 10 : Nat) : Int) := by rw [IntKind.wrap_u8]; omega
      by_cases h0 : kk % 10 = 0
      · have c1 : decide (-((kk % 10 : Nat) : Int) < 0) = false := decide_eq_false (by omega)
        have e1 : -((kk % 10 : Nat) : Int) = ((kk % 10 : Nat) : Int) := by omega
        rw [e1] at t1
        have c2 : decide (((kk % 10 : Nat) : Int) < 0) = false := decide_eq_false (by omega)
        (repeat (first | simp (maxSteps := 2000000) (disch := omega) only [go_sem, ↓reduceIte, c0, t1] | with_reducible refine vIf_t ?_ | with_reducible refine vIf_f ?_))
        (try (repeat (first | simp (maxSteps := 2000000) (disch := omega) only [go_sem, ↓reduceIte, c2, t2, w1] | with_reducible refine vIf_t ?_ | with_reducible refine vIf_f ?_)))
        refine againF (kk / 10, [48 + ((kk % 10 : Nat) : Int)] ++ out) ⟨by simp only; omega, by simp only; rw [← he, es, List.append_assoc]⟩ (by simp only; omega) ?_
        refine leF_p ?_
        (repeat (first | simp (maxSteps := 2000000) (disch := omega) only [go_sem, ↓reduceIte] | with_reducible refine vIf_t ?_ | with_reducible refine vIf_f ?_))
        exact ⟨by omega, rfl⟩
      · have c1 : decide (-((kk % 10 : Nat) : Int) < 0) = true := decide_eq_true (by omega)
        have e1 : 0 - -((kk % 10 : Nat) : Int) = ((kk % 10 : Nat) : Int) := by omega
        (repeat (first | simp (maxSteps := 2000000) (disch := omega) only [go_sem, ↓reduceIte, c0, t1] | with_reducible refine vIf_t ?_ | with_reducible refine vIf_f ?_))
        (try (repeat (first | simp (maxSteps := 2000000) (disch := omega) only [go_sem, ↓reduceIte, c1, t2, e1] | with_reducible refine vIf_t ?_ | with_reducible refine vIf_f ?_)))
        (try (repeat (first | simp (maxSteps := 2000000) (disch := omega) only [go_sem, ↓reduceIte, w1] | with_reducible refine vIf_t ?_ | with_reducible refine vIf_f ?_)))
        refine againF (kk / 10, [48 + ((kk % 10 : Nat) : Int)] ++ out) ⟨by simp only; omega, by simp only; rw [← he, es, List.append_assoc]⟩ (by simp only; omega) ?_
        refine leF_p ?_
        (repeat (first | simp (maxSteps := 2000000) (disch := omega) only [go_sem, ↓reduceIte] | with_reducible refine vIf_t ?_ | with_reducible refine vIf_f ?_))
        exact ⟨by omega, rfl⟩
  · have cn : decide (n < 0) = false := decide_eq_false hn
    (repeat (first | simp (maxSteps := 2000000) (disch := omega) only [go_sem, ↓reduceIte] | with_reducible refine vIf_t ?_ | with_reducible refine vIf_f ?_))
    refine vcLoop_invF (fun x : Nat × List Int => x.1 ≤ n.natAbs ∧ decX x.1 ++ x.2 = decX n.natAbs) (fun x => ⟨34, 0, [(4, I ((x.1 : Int))), (3, .ref 0 0 x.2.length), (0, I n)], [some ⟨1, bts x.2⟩]⟩) (fun x => x.1) (n.natAbs, []) ⟨Nat.le_refl _, by simp⟩ (by simp only; rw [show ((n.natAbs : Int)) = n by omega]; (first | (refine leF_s ?_; ((repeat (first | simp (maxSteps := 2000000) (disch := omega) only [go_sem, ↓reduceIte] | with_reducible refine vIf_t ?_ | with_reducible refine vIf_f ?_)); all_goals (try simp); all_goals (try omega)); done) | (refine leF_p ?_; ((repeat (first | simp (maxSteps := 2000000) (disch := omega) only [go_sem, ↓reduceIte] | with_reducible refine vIf_t ?_ | with_reducible refine vIf_f ?_)); all_goals (try simp); all_goals (try omega)); done))) ?_
    rintro ⟨kk, out⟩ ⟨hk, he⟩
    simp only at hk he
    have hol : out.length ≤ 19 := by have := congrArg List.length he; simp only [List.length_append] at this; omega
    (repeat (first | simp (maxSteps := 2000000) (disch := omega) only [go_sem, ↓reduceIte] | with_reducible refine vIf_t ?_ | with_reducible refine vIf_f ?_))
    by_cases hz : kk = 0
    · subst hz
      have c0 : ((((0 : Nat) : Int)) != 0) = false := by simp
      have eo : out = decX n.natAbs := by simpa [decX] using he
      (repeat (first | simp (maxSteps := 2000000) (disch := omega) only [go_sem, ↓reduceIte, c0] | with_reducible refine vIf_t ?_ | with_reducible refine vIf_f ?_))
      by_cases hn0 : n.natAbs = 0
      · have e0 : out = [] := by rw [eo, hn0]; rfl
        subst e0
        (try (repeat (first | simp (maxSteps := 2000000) (disch := omega) only [go_sem, ↓reduceIte] | with_reducible refine vIf_t ?_ | with_reducible refine vIf_f ?_)))
        (refine retK_of ?_; (repeat (first | simp (maxSteps := 2000000) (disch := omega) only [go_sem, ↓reduceIte] | with_reducible refine vIf_t ?_ | with_reducible refine vIf_f ?_)))
        rw [show n = 0 by omega, itoa0]
      · have e0 : out = decI n.natAbs := by rw [eo, decX, if_neg hn0]
        have hl0 : ((out.length : Int) == 0) = false := by
          have : out ≠ [] := by rw [e0, decI]; simp [dig_ne]
          have : 0 < out.length := List.length_pos_iff.2 this
          simp; omega
        (try (repeat (first | simp (maxSteps := 2000000) (disch := omega) only [go_sem, ↓reduceIte, hl0, cn] | with_reducible refine vIf_t ?_ | with_reducible refine vIf_f ?_)))
        (refine retK_of ?_; (repeat (first | simp (maxSteps := 2000000) (disch := omega) only [go_sem, ↓reduceIte] | with_reducible refine vIf_t ?_ | with_reducible refine vIf_f ?_)))
        rw [e0, mkS_decI, itoa, if_neg hn, show n.natAbs = n.toNat by omega]
    · have c0 : (((kk : Int)) != 0) = true := by simp; omega
      have es := decX_step kk hz
      have t1 : ((kk : Int)).tmod 10 = ((kk % 10 : Nat) : Int) := by rw [Int.tmod_eq_emod_of_nonneg (by omega)]; omega
      have t2 : ((kk : Int)).tdiv 10 = ((kk / 10 : Nat) : Int) := by rw [Int.tdiv_eq_ediv_of_nonneg (by omega)]; omega
      have hm : kk % 10 < 10 := Nat.mod_lt _ (by omega)
      have w1 : IntKind.wrap .u8 (48 + ((kk % 10 : Nat) : Int)) = 48 + ((kk % 10 : Nat) : Int) := by rw [IntKind.wrap_u8]; omega
      have c1 : decide (((kk % 10 : Nat) : Int) < 0) = false := decide_eq_false (by omega)
      (repeat (first | simp (maxSteps := 2000000) (disch := omega) only [go_sem, ↓reduceIte, c0, t1] | with_reducible refine vIf_t ?_ | with_reducible refine vIf_f ?_))
      (try (repeat (first | simp (maxSteps := 2000000) (disch := omega) only [go_sem, ↓reduceIte, c1, t2, w1] | with_reducible refine vIf_t ?_ | with_reducible refine vIf_f ?_)))
      refine againF (kk / 10, [48 + ((kk % 10 : Nat) : Int)] ++ out) ⟨by simp only; omega, by simp only; rw [← he, es, List.append_assoc]⟩ (by simp only; omega) ?_
      refine leF_p ?_
      (repeat (first | simp (maxSteps := 2000000) (disch := omega) only [go_sem, ↓reduceIte] | with_reducible refine vIf_t ?_ | with_reducible refine vIf_f ?_))
      exact ⟨by omega, rfl⟩
theorem joinT {G H : Prop} (h : G → H) (g : G) : H := h g
theorem tx_bq {a b : List UInt8} (h : a ≠ b) : ((tx a).toList == (tx b).toList) = false := by
  rw [Bool.eq_false_iff]
  intro e
  have e2 : (tx a).toList = (tx b).toList := by simpa using e
  rw [ByteArray.toList_eq, ByteArray.toList_eq, list_tx, list_tx] at e2
  exact h e2
theorem l01Digit_ok (c : Int) : ACalls Tryz.prog 90 [.sc (.int .u8 c)] [] (fun r o => r = B (decide (48 ≤ c) && decide (c ≤ 57)) ∧ o = []) := by
  refine ACalls.of_vc Tryz.func90 rfl (by decide) 9 rfl [.tmp 2] rfl (by simp) ?_
  cases h : decide (48 ≤ c) with
  | true =>
    (repeat (first | simp (maxSteps := 2000000) (disch := omega) only [go_sem, ↓reduceIte, h] | with_reducible refine vIf_t ?_ | with_reducible refine vIf_f ?_))
    (refine retK_of ?_; (repeat (first | simp (maxSteps := 2000000) (disch := omega) only [go_sem, ↓reduceIte] | with_reducible refine vIf_t ?_ | with_reducible refine vIf_f ?_)))
    try simp
  | false =>
    (repeat (first | simp (maxSteps := 2000000) (disch := omega) only [go_sem, ↓reduceIte, h] | with_reducible refine vIf_t ?_ | with_reducible refine vIf_f ?_))
    (refine retK_of ?_; (repeat (first | simp (maxSteps := 2000000) (disch := omega) only [go_sem, ↓reduceIte] | with_reducible refine vIf_t ?_ | with_reducible refine vIf_f ?_)))
    try simp
theorem byteAt_0 (c : UInt8) (r : List UInt8) : byteAt (tx (c :: r)) 0 = (c.toNat : Int) := byteAt_tx (c :: r) 0 (by simp)
theorem u8_eq45 (c : UInt8) : ((c.toNat : Int) == 45) = decide (c = 45) := by
  by_cases h : c = 45
  · subst h; rfl
  · rw [decide_eq_false h]
    have : c.toNat ≠ 45 := fun e => h (by
      have := congrArg UInt8.ofNat e
      simpa using this)
    simp
    omega
theorem isDg_int (c : UInt8) : (decide (48 ≤ (c.toNat : Int)) && decide ((c.toNat : Int) ≤ 57)) = isDg c := by
  unfold isDg
  rw [decide_eq_decide.2 (show (48 ≤ (c.toNat : Int)) ↔ 48 ≤ c.toNat by omega), decide_eq_decide.2 (show ((c.toNat : Int) ≤ 57) ↔ c.toNat ≤ 57 by omega)]
set_option maxRecDepth 20000 in
set_option maxHeartbeats 4000000 in
theorem l01Number_ok (l : List UInt8) (hl : l.length ≤ 100000) : ACalls Tryz.prog 91 [St (tx l)] [] (fun r o => r = rdR (rdD l) ∧ o = []) := by
  refine ACalls.of_vc Tryz.func91 rfl (by decide) 56 rfl [.tmp 2, .tmp 3] rfl (by simp) ?_
  have hsp := rdD_spec l
  have htl : (tailN l).length ≤ l.length := by unfold tailN; split <;> simp
  (repeat (first | simp (maxSteps := 2000000) (disch := omega) only [go_sem, ↓reduceIte] | with_reducible refine vIf_t ?_ | with_reducible refine vIf_f ?_))
  cases hc : l with
  | nil =>
    subst hc
    have e : rdD [] = none := by rw [hsp, if_neg]; simp [tailN]
    rw [e]
    (repeat (first | simp (maxSteps := 2000000) (disch := omega) only [go_sem, ↓reduceIte] | with_reducible refine vIf_t ?_ | with_reducible refine vIf_f ?_))
    (refine retK_of ?_; (repeat (first | simp (maxSteps := 2000000) (disch := omega) only [go_sem, ↓reduceIte] | with_reducible refine vIf_t ?_ | with_reducible refine vIf_f ?_)))
    try rfl
  | cons c r =>
    rw [← hc]
    have hne : l ≠ [] := by rw [hc]; simp
    have b0 := tx_bq hne
    have b1 : byteAt (tx l) 0 = (c.toNat : Int) := by rw [hc]; exact byteAt_0 c r
    have hlp : 0 < l.length := by rw [hc]; simp
    have br : (((c.toNat : Int) == 45) = true ∧ (tx l).extract 1 l.length = tx (tailN l) ∧ (tailN l).length + 1 = l.length ∧ numN l = -(dgV (tailN l) : Int)) ∨ (((c.toNat : Int) == 45) = false ∧ tailN l = l ∧ numN l = dgV (tailN l)) := by
      by_cases h45 : c = 45
      · have et : tailN l = r := by rw [hc]; simp [tailN, h45]
        refine .inl ⟨by rw [u8_eq45]; exact decide_eq_true h45, by rw [et, hc, tx_extract]; simp, by rw [et, hc]; simp, ?_⟩
        rw [numN, if_pos (by rw [hc, h45]; rfl)]
      · refine .inr ⟨by rw [u8_eq45]; exact decide_eq_false h45, ?_, ?_⟩
        · rw [hc]; simp [tailN, h45]
        · rw [numN, if_neg (by rw [hc]; simp [h45])]
    generalize htn : tailN l = tl at br hsp htl ⊢
    generalize hnn : numN l = nn at br hsp ⊢
    by_cases hlen : 1 ≤ tl.length ∧ tl.length ≤ 18
    · have d1 : decide ((tl.length : Int) < 1) = false := decide_eq_false (by omega)
      have d2 : decide (18 < (tl.length : Int)) = false := decide_eq_false (by omega)
      have q0 : (tx l).size = l.length := tx_size l
      apply joinT
      · intro common
        rcases br with ⟨c45, ex, _, _⟩ | ⟨c45, ex, _⟩
        · (try (repeat (first | simp (maxSteps := 2000000) (disch := omega) only [go_sem, ↓reduceIte, b0, b1, c45, ex, d1, d2] | with_reducible refine vIf_t ?_ | with_reducible refine vIf_f ?_)))
          refine vcLoop_invF (fun i : Nat => i ≤ tl.length ∧ (tl.take i).all isDg = true) (fun i => ⟨56, 0, [(6, I i), (4, St (tx tl)), (5, I ((dgV (tl.take i) : Nat) : Int)), (0, St (tx l))], []⟩) (fun i => tl.length - i) 0 ⟨Nat.zero_le _, rfl⟩ (by simp only [List.take_zero]; rw [show dgV [] = 0 from rfl]; (first | (refine leF_s ?_; ((repeat (first | simp (maxSteps := 2000000) (disch := omega) only [go_sem, ↓reduceIte] | with_reducible refine vIf_t ?_ | with_reducible refine vIf_f ?_)); all_goals (try simp); all_goals (try omega)); done) | (refine leF_p ?_; ((repeat (first | simp (maxSteps := 2000000) (disch := omega) only [go_sem, ↓reduceIte] | with_reducible refine vIf_t ?_ | with_reducible refine vIf_f ?_)); all_goals (try simp); all_goals (try omega)); done))) common
        · rw [ex] at d1 d2
          (try (repeat (first | simp (maxSteps := 2000000) (disch := omega) only [go_sem, ↓reduceIte, b0, b1, c45, d1, d2] | with_reducible refine vIf_t ?_ | with_reducible refine vIf_f ?_)))
          refine vcLoop_invF (fun i : Nat => i ≤ tl.length ∧ (tl.take i).all isDg = true) (fun i => ⟨56, 0, [(6, I i), (4, St (tx tl)), (5, I ((dgV (tl.take i) : Nat) : Int)), (0, St (tx l))], []⟩) (fun i => tl.length - i) 0 ⟨Nat.zero_le _, rfl⟩ (by simp only [List.take_zero]; rw [show dgV [] = 0 from rfl, ex]; (first | (refine leF_s ?_; ((repeat (first | simp (maxSteps := 2000000) (disch := omega) only [go_sem, ↓reduceIte] | with_reducible refine vIf_t ?_ | with_reducible refine vIf_f ?_)); all_goals (try simp); all_goals (try omega)); done) | (refine leF_p ?_; ((repeat (first | simp (maxSteps := 2000000) (disch := omega) only [go_sem, ↓reduceIte] | with_reducible refine vIf_t ?_ | with_reducible refine vIf_f ?_)); all_goals (try simp); all_goals (try omega)); done))) common
      rintro i ⟨hi, hall⟩
      have hlt := dgV_lt _ hall
      have hli : (tl.take i).length = i := by simp; omega
      have h18 : 10 ^ (tl.take i).length ≤ 10 ^ 18 := Nat.pow_le_pow_right (by omega) (by omega)
      (repeat (first | simp (maxSteps := 2000000) (disch := omega) only [go_sem, ↓reduceIte] | with_reducible refine vIf_t ?_ | with_reducible refine vIf_f ?_))
      refine vIf_dec (fun h => ?_) (fun h => ?_)
      · have hil : i < tl.length := by omega
        have hb := byteAt_tx tl i hil
        have et : tl.take (i + 1) = tl.take i ++ [tl[i]] := List.take_succ_eq_append_getElem hil
        have hd := l01Digit_ok (tl[i].toNat : Int)
        rw [isDg_int] at hd
        (repeat (first | simp (maxSteps := 2000000) (disch := omega) only [go_sem, ↓reduceIte, hb] | with_reducible refine vIf_t ?_ | with_reducible refine vIf_f ?_))
        cases hg : isDg tl[i] with
        | false =>
          rw [hg] at hd
          (refine vCallX_of ?_; (repeat (first | simp (maxSteps := 2000000) (disch := omega) only [go_sem, ↓reduceIte] | with_reducible refine vIf_t ?_ | with_reducible refine vIf_f ?_)); refine vCall_eq (hd) (by simp (disch := omega) only [go_sem]) rfl (by first | exact Or.inl rfl | exact Or.inr ⟨rfl, rfl⟩ | (apply Or.inr; simp only [go_sem])) ?_; (repeat (first | simp (maxSteps := 2000000) (disch := omega) only [go_sem, ↓reduceIte] | with_reducible refine vIf_t ?_ | with_reducible refine vIf_f ?_)))
          (refine retK_of ?_; (repeat (first | simp (maxSteps := 2000000) (disch := omega) only [go_sem, ↓reduceIte] | with_reducible refine vIf_t ?_ | with_reducible refine vIf_f ?_)))
          rw [hsp, if_neg]
          · rfl
          · rintro ⟨_, h2, _⟩
            rw [List.all_eq_true] at h2
            rw [h2 _ (List.getElem_mem hil)] at hg
            exact absurd hg (by simp)
        | true =>
          rw [hg] at hd
          have hall2 : (tl.take (i + 1)).all isDg = true := by rw [et, List.all_append, hall]; simp [hg]
          have hlt2 := dgV_lt _ hall2
          have h182 : 10 ^ (tl.take (i + 1)).length ≤ 10 ^ 18 := Nat.pow_le_pow_right (by omega) (by simp; omega)
          have ev : dgV (tl.take (i + 1)) = 10 * dgV (tl.take i) + (tl[i].toNat - 48) := by rw [et, dgV_snoc]
          have hgb : 48 ≤ tl[i].toNat ∧ tl[i].toNat ≤ 57 := by simpa [isDg] using hg
          have w1 : IntKind.wrap .u8 ((tl[i].toNat : Int) - 48) = (tl[i].toNat : Int) - 48 := by rw [IntKind.wrap_u8]; omega
          have w2 : IntKind.wrap .i64 ((tl[i].toNat : Int) - 48) = (tl[i].toNat : Int) - 48 := wrap_i64_id _ (by omega)
          (refine vCallX_of ?_; (repeat (first | simp (maxSteps := 2000000) (disch := omega) only [go_sem, ↓reduceIte] | with_reducible refine vIf_t ?_ | with_reducible refine vIf_f ?_)); refine vCall_eq (hd) (by simp (disch := omega) only [go_sem]) rfl (by first | exact Or.inl rfl | exact Or.inr ⟨rfl, rfl⟩ | (apply Or.inr; simp only [go_sem])) ?_; (repeat (first | simp (maxSteps := 2000000) (disch := omega) only [go_sem, ↓reduceIte] | with_reducible refine vIf_t ?_ | with_reducible refine vIf_f ?_)))
          (try (repeat (first | simp (maxSteps := 2000000) (disch := omega) only [go_sem, ↓reduceIte, hb, w1] | with_reducible refine vIf_t ?_ | with_reducible refine vIf_f ?_)))
          (try (repeat (first | simp (maxSteps := 2000000) (disch := omega) only [go_sem, ↓reduceIte, w2] | with_reducible refine vIf_t ?_ | with_reducible refine vIf_f ?_)))
          refine againF (i + 1) ⟨by omega, hall2⟩ (by omega) ?_
          have evI : ((dgV (tl.take (i + 1)) : Nat) : Int) = 10 * ((dgV (tl.take i) : Nat) : Int) + ((tl[i].toNat : Int) - 48) := by rw [ev]; omega
          rw [evI]
          (first | (refine leF_s ?_; ((repeat (first | simp (maxSteps := 2000000) (disch := omega) only [go_sem, ↓reduceIte] | with_reducible refine vIf_t ?_ | with_reducible refine vIf_f ?_)); all_goals (try simp); all_goals (try omega)); done) | (refine leF_p ?_; ((repeat (first | simp (maxSteps := 2000000) (disch := omega) only [go_sem, ↓reduceIte] | with_reducible refine vIf_t ?_ | with_reducible refine vIf_f ?_)); all_goals (try simp); all_goals (try omega)); done))
      · have ei : i = tl.length := by omega
        subst ei
        rw [List.take_length] at hall hlt ⊢
        have hpw : 10 ^ tl.length ≤ 10 ^ 18 := Nat.pow_le_pow_right (by omega) (by omega)
        have hvb : dgV tl < 10 ^ 18 := Nat.lt_of_lt_of_le hlt hpw
        have hdec := l01Dec_ok nn (by rcases br with ⟨_, _, _, hv⟩ | ⟨_, _, hv⟩ <;> omega)
        rw [decS_tx] at hdec
        have fin1 : ∀ (b : Bool), b = decide (itoa nn = l) → rdD l = if b = true then some nn else none := by
          intro b hb
          rw [hsp, hb]
          by_cases he : itoa nn = l
          · rw [if_pos ⟨hlen, hall, he⟩, if_pos (decide_eq_true he)]
          · rw [if_neg (fun h => he h.2.2), if_neg (by simp [he])]
        rcases br with ⟨c45, ex, hl1, hv⟩ | ⟨c45, ex, hv⟩
        · have d3 : decide ((tl.length : Int) < l.length) = true := decide_eq_true (by omega)
          have e5 : (0 : Int) - ((dgV tl : Nat) : Int) = nn := by omega
          by_cases he : itoa nn = l
          · rw [he] at hdec
            rw [fin1 true (by simp [he])]
            (repeat (first | simp (maxSteps := 2000000) (disch := omega) only [go_sem, ↓reduceIte, d3] | with_reducible refine vIf_t ?_ | with_reducible refine vIf_f ?_))
            (try (repeat (first | simp (maxSteps := 2000000) (disch := omega) only [go_sem, ↓reduceIte, e5] | with_reducible refine vIf_t ?_ | with_reducible refine vIf_f ?_)))
            (refine vCallX_of ?_; (repeat (first | simp (maxSteps := 2000000) (disch := omega) only [go_sem, ↓reduceIte] | with_reducible refine vIf_t ?_ | with_reducible refine vIf_f ?_)); refine vCall_eq (hdec) (by simp (disch := omega) only [go_sem]) rfl (by first | exact Or.inl rfl | exact Or.inr ⟨rfl, rfl⟩ | (apply Or.inr; simp only [go_sem])) ?_; (repeat (first | simp (maxSteps := 2000000) (disch := omega) only [go_sem, ↓reduceIte] | with_reducible refine vIf_t ?_ | with_reducible refine vIf_f ?_)))
            (refine retK_of ?_; (repeat (first | simp (maxSteps := 2000000) (disch := omega) only [go_sem, ↓reduceIte] | with_reducible refine vIf_t ?_ | with_reducible refine vIf_f ?_)))
            try rfl
          · have nb := tx_bq he
            rw [fin1 false (by simp [he])]
            (repeat (first | simp (maxSteps := 2000000) (disch := omega) only [go_sem, ↓reduceIte, d3] | with_reducible refine vIf_t ?_ | with_reducible refine vIf_f ?_))
            (try (repeat (first | simp (maxSteps := 2000000) (disch := omega) only [go_sem, ↓reduceIte, e5] | with_reducible refine vIf_t ?_ | with_reducible refine vIf_f ?_)))
            (refine vCallX_of ?_; (repeat (first | simp (maxSteps := 2000000) (disch := omega) only [go_sem, ↓reduceIte] | with_reducible refine vIf_t ?_ | with_reducible refine vIf_f ?_)); refine vCall_eq (hdec) (by simp (disch := omega) only [go_sem]) rfl (by first | exact Or.inl rfl | exact Or.inr ⟨rfl, rfl⟩ | (apply Or.inr; simp only [go_sem])) ?_; (repeat (first | simp (maxSteps := 2000000) (disch := omega) only [go_sem, ↓reduceIte] | with_reducible refine vIf_t ?_ | with_reducible refine vIf_f ?_)))
            (try (repeat (first | simp (maxSteps := 2000000) (disch := omega) only [go_sem, ↓reduceIte, nb] | with_reducible refine vIf_t ?_ | with_reducible refine vIf_f ?_)))
            (refine retK_of ?_; (repeat (first | simp (maxSteps := 2000000) (disch := omega) only [go_sem, ↓reduceIte] | with_reducible refine vIf_t ?_ | with_reducible refine vIf_f ?_)))
            try rfl
        · have d3 : decide ((tl.length : Int) < l.length) = false := decide_eq_false (by rw [ex]; omega)
          rw [← hv]
          by_cases he : itoa nn = l
          · rw [he] at hdec
            rw [fin1 true (by simp [he])]
            (repeat (first | simp (maxSteps := 2000000) (disch := omega) only [go_sem, ↓reduceIte, d3] | with_reducible refine vIf_t ?_ | with_reducible refine vIf_f ?_))
            (refine vCallX_of ?_; (repeat (first | simp (maxSteps := 2000000) (disch := omega) only [go_sem, ↓reduceIte] | with_reducible refine vIf_t ?_ | with_reducible refine vIf_f ?_)); refine vCall_eq (hdec) (by simp (disch := omega) only [go_sem]) rfl (by first | exact Or.inl rfl | exact Or.inr ⟨rfl, rfl⟩ | (apply Or.inr; simp only [go_sem])) ?_; (repeat (first | simp (maxSteps := 2000000) (disch := omega) only [go_sem, ↓reduceIte] | with_reducible refine vIf_t ?_ | with_reducible refine vIf_f ?_)))
            (refine retK_of ?_; (repeat (first | simp (maxSteps := 2000000) (disch := omega) only [go_sem, ↓reduceIte] | with_reducible refine vIf_t ?_ | with_reducible refine vIf_f ?_)))
            try rfl
          · have nb := tx_bq he
            rw [fin1 false (by simp [he])]
            (repeat (first | simp (maxSteps := 2000000) (disch := omega) only [go_sem, ↓reduceIte, d3] | with_reducible refine vIf_t ?_ | with_reducible refine vIf_f ?_))
            (refine vCallX_of ?_; (repeat (first | simp (maxSteps := 2000000) (disch := omega) only [go_sem, ↓reduceIte] | with_reducible refine vIf_t ?_ | with_reducible refine vIf_f ?_)); refine vCall_eq (hdec) (by simp (disch := omega) only [go_sem]) rfl (by first | exact Or.inl rfl | exact Or.inr ⟨rfl, rfl⟩ | (apply Or.inr; simp only [go_sem])) ?_; (repeat (first | simp (maxSteps := 2000000) (disch := omega) only [go_sem, ↓reduceIte] | with_reducible refine vIf_t ?_ | with_reducible refine vIf_f ?_)))
            (try (repeat (first | simp (maxSteps := 2000000) (disch := omega) only [go_sem, ↓reduceIte, nb] | with_reducible refine vIf_t ?_ | with_reducible refine vIf_f ?_)))
            (refine retK_of ?_; (repeat (first | simp (maxSteps := 2000000) (disch := omega) only [go_sem, ↓reduceIte] | with_reducible refine vIf_t ?_ | with_reducible refine vIf_f ?_)))
            try rfl
    · have er : rdD l = none := by rw [hsp, if_neg (fun h => hlen h.1)]
      rw [er]
      have q0 : (tx l).size = l.length := tx_size l
      have hd : decide ((tl.length : Int) < 1) = true ∨ (decide ((tl.length : Int) < 1) = false ∧ decide (18 < (tl.length : Int)) = true) := by
        by_cases h : (tl.length : Int) < 1
        · exact .inl (decide_eq_true h)
        · exact .inr ⟨decide_eq_false h, decide_eq_true (by omega)⟩
      rcases br with ⟨c45, ex, _, _⟩ | ⟨c45, ex, _⟩
      · rcases hd with d1 | ⟨d1, d2⟩
        · (repeat (first | simp (maxSteps := 2000000) (disch := omega) only [go_sem, ↓reduceIte, b0] | with_reducible refine vIf_t ?_ | with_reducible refine vIf_f ?_))
          (try (repeat (first | simp (maxSteps := 2000000) (disch := omega) only [go_sem, ↓reduceIte, b0, b1, c45, ex, d1] | with_reducible refine vIf_t ?_ | with_reducible refine vIf_f ?_)))
          (refine retK_of ?_; (repeat (first | simp (maxSteps := 2000000) (disch := omega) only [go_sem, ↓reduceIte] | with_reducible refine vIf_t ?_ | with_reducible refine vIf_f ?_)))
          try rfl
        · (repeat (first | simp (maxSteps := 2000000) (disch := omega) only [go_sem, ↓reduceIte, b0] | with_reducible refine vIf_t ?_ | with_reducible refine vIf_f ?_))
          (try (repeat (first | simp (maxSteps := 2000000) (disch := omega) only [go_sem, ↓reduceIte, b0, b1, c45, ex, d1, d2] | with_reducible refine vIf_t ?_ | with_reducible refine vIf_f ?_)))
          (refine retK_of ?_; (repeat (first | simp (maxSteps := 2000000) (disch := omega) only [go_sem, ↓reduceIte] | with_reducible refine vIf_t ?_ | with_reducible refine vIf_f ?_)))
          try rfl
      · rcases hd with d1 | ⟨d1, d2⟩
        · rw [ex] at d1
          (repeat (first | simp (maxSteps := 2000000) (disch := omega) only [go_sem, ↓reduceIte, b0] | with_reducible refine vIf_t ?_ | with_reducible refine vIf_f ?_))
          (try (repeat (first | simp (maxSteps := 2000000) (disch := omega) only [go_sem, ↓reduceIte, b0, b1, c45, d1] | with_reducible refine vIf_t ?_ | with_reducible refine vIf_f ?_)))
          (refine retK_of ?_; (repeat (first | simp (maxSteps := 2000000) (disch := omega) only [go_sem, ↓reduceIte] | with_reducible refine vIf_t ?_ | with_reducible refine vIf_f ?_)))
          try rfl
        · rw [ex] at d1 d2
          (repeat (first | simp (maxSteps := 2000000) (disch := omega) only [go_sem, ↓reduceIte, b0] | with_reducible refine vIf_t ?_ | with_reducible refine vIf_f ?_))
          (try (repeat (first | simp (maxSteps := 2000000) (disch := omega) only [go_sem, ↓reduceIte, b0, b1, c45, d1, d2] | with_reducible refine vIf_t ?_ | with_reducible refine vIf_f ?_)))
          (refine retK_of ?_; (repeat (first | simp (maxSteps := 2000000) (disch := omega) only [go_sem, ↓reduceIte] | with_reducible refine vIf_t ?_ | with_reducible refine vIf_f ?_)))
          try rfl
end Go.Proofs.YtjgjnedenapemaaGreatDoor

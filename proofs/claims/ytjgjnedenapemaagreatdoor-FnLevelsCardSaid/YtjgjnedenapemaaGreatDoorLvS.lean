/- level texts, read by the model -/
import Derived.Test.YtjgjnedenapemaaGreatDoorLvR
import Derived.Test.YtjgjnedenapemaaGreatDoorT8
set_option linter.unusedVariables false
set_option linter.unusedSimpArgs false
namespace Go.Proofs.YtjgjnedenapemaaGreatDoor
open Go.AG Go.Lib

attribute [local go_sem] beq_self_eq_true bne_self_eq_false Bool.not_true Bool.not_false
theorem lvF_free (k : Nat) (h : k < 2001) : (46 : UInt8) ∉ itoa ((k / 100 : Nat) : Int) := by
  have : ∀ q, q < 21 → (46 : UInt8) ∉ itoa ((q : Nat) : Int) := by decide +kernel
  exact this _ (by omega)
theorem lvF_dig (x : Nat) (h : x < 10) : (UInt8.ofNat (48 + x)).toNat = 48 + x ∧ UInt8.ofNat (48 + x) ≠ 46 := by
  have : ∀ x, x < 10 → (UInt8.ofNat (48 + x)).toNat = 48 + x ∧ UInt8.ofNat (48 + x) ≠ 46 := by decide
  exact this x h
theorem lv_parts {n : Int} (hv : -2000 ≤ n ∧ n ≤ 2000) {a z : UInt8} {m : List UInt8} (e : lvE n = a :: (m ++ [z])) :
    a = (if n < 0 then 45 else 43) ∧ z = 109 ∧ splB 46 m [] = [itoa ((n.natAbs / 100 : Nat) : Int), [UInt8.ofNat (48 + n.natAbs % 100 / 10), UInt8.ofNat (48 + n.natAbs % 100 % 10)]] := by
  rw [lvE_eq, lvG_eq] at e
  obtain ⟨e1, e2⟩ := List.cons.inj e
  have e3 : (itoa ((n.natAbs / 100 : Nat) : Int) ++ 46 :: [UInt8.ofNat (48 + n.natAbs % 100 / 10), UInt8.ofNat (48 + n.natAbs % 100 % 10)]) ++ [109] = m ++ [z] := by rw [← e2]; simp
  obtain ⟨e4, e5⟩ := List.append_inj' e3 rfl
  have hd1 := lvF_dig (n.natAbs % 100 / 10) (by omega)
  have hd2 := lvF_dig (n.natAbs % 100 % 10) (by omega)
  have := splB_joB 46 [itoa ((n.natAbs / 100 : Nat) : Int), [UInt8.ofNat (48 + n.natAbs % 100 / 10), UInt8.ofNat (48 + n.natAbs % 100 % 10)]] (by simp) (by
    intro x hx
    simp only [List.mem_cons, List.not_mem_nil, or_false] at hx
    rcases hx with rfl | rfl
    · exact lvF_free _ (by omega)
    · simp only [List.mem_cons, List.not_mem_nil, or_false, not_or]
      exact ⟨fun h => hd1.2 h.symm, fun h => hd2.2 h.symm⟩)
  refine ⟨e1.symm, (List.cons.inj e5).1.symm, ?_⟩
  rw [← e4]
  exact this
theorem lv_num {n : Int} (hv : -2000 ≤ n ∧ n ≤ 2000) {a z x y : UInt8} {m w0 : List UInt8} {k : Int} (e : lvE n = a :: (m ++ [z])) (h1 : splB 46 m [] = [w0, [x, y]]) (h2 : rdD w0 = some k) :
    n = if a = 45 then -(100 * k + 10 * ((x.toNat : Int) - 48) + ((y.toNat : Int) - 48)) else 100 * k + 10 * ((x.toNat : Int) - 48) + ((y.toNat : Int) - 48) := by
  obtain ⟨p1, p2, p3⟩ := lv_parts hv e
  rw [h1] at p3
  simp only [List.cons.injEq, and_true] at p3
  obtain ⟨rfl, rfl, rfl⟩ := p3
  rw [rdD_itoa _ (by unfold nOk; omega)] at h2
  simp only [Option.some.injEq] at h2
  have hd1 := lvF_dig (n.natAbs % 100 / 10) (by omega)
  have hd2 := lvF_dig (n.natAbs % 100 % 10) (by omega)
  rw [hd1.1, hd2.1, ← h2]
  by_cases hn : n < 0
  · rw [if_pos hn] at p1
    rw [if_pos p1]
    push_cast
    omega
  · rw [if_neg hn] at p1
    rw [if_neg (by rw [p1]; decide)]
    push_cast
    omega
structure BoxLv (G : Prop) : Prop where
  out : G
theorem joinLv {G H : Prop} (h : BoxLv G → H) (g : G) : H := h ⟨g⟩
theorem u8i (c : UInt8) (k : Nat) (h : k < 256) : ((c.toNat : Int) == (k : Int)) = decide (c = UInt8.ofNat k) := by
  by_cases e : c = UInt8.ofNat k
  · subst e
    have : (UInt8.ofNat k).toNat = k := by simp; omega
    simp [this]
  · rw [decide_eq_false e]
    have : c.toNat ≠ k := fun q => e (by
      have := congrArg UInt8.ofNat q
      simpa using this)
    simp
    omega
theorem mid_of (s : List UInt8) (h : 2 ≤ s.length) : ∃ a m z, s = a :: (m ++ [z]) := by
  cases s with
  | nil => simp at h
  | cons a r =>
    have hr : r ≠ [] := fun e => by rw [e] at h; simp at h
    exact ⟨a, r.dropLast, r.getLast hr, by rw [List.dropLast_concat_getLast]⟩
set_option maxRecDepth 20000 in
set_option maxHeartbeats 4000000 in
theorem readLvS_ok (s : List UInt8) (hs : s.length ≤ 10000) : ACalls Tryz.prog 35 [St (tx s)] [] (fun r o => r = rdR (rlO s) ∧ o = []) := by
  refine ACalls.of_vc Tryz.func35 rfl (by decide) 107 rfl [.tmp 2, .tmp 3] rfl (by simp) ?_
  by_cases c1 : s.length < 6
  · have d1 : decide ((s.length : Int) < 6) = true := decide_eq_true (by omega)
    have e : rlO s = none := rlO_none fun n hv e => by
      have := lvE_len n hv
      rw [e] at this
      omega
    rw [e]
    (repeat (first | simp (maxSteps := 2000000) (disch := omega) only [go_sem, ↓reduceIte, d1, tx_size] | with_reducible refine vIf_t ?_ | with_reducible refine vIf_f ?_))
    (refine retK_of ?_; (repeat (first | simp (maxSteps := 2000000) (disch := omega) only [go_sem, ↓reduceIte] | with_reducible refine vIf_t ?_ | with_reducible refine vIf_f ?_)))
    try rfl
  have d1 : decide ((s.length : Int) < 6) = false := decide_eq_false (by omega)
  obtain ⟨a, m, z, rfl⟩ := mid_of s (by omega)
  have hlen : (a :: (m ++ [z])).length = m.length + 2 := by simp
  rw [hlen] at hs c1 d1
  have i1 : ((((m.length + 2 : Nat) : Int) - 1)).toNat = m.length + 1 := by omega
  have b0 := byteAt_0 a (m ++ [z])
  have b1 : byteAt (tx (a :: (m ++ [z]))) (m.length + 1) = (z.toNat : Int) := by
    rw [byteAt_tx _ _ (by simp)]
    simp
  have hex : (tx (a :: (m ++ [z]))).extract 1 (m.length + 1) = tx m := by
    rw [tx_extract]
    simp
  have hlen2 : (tx (a :: (m ++ [z]))).size = m.length + 2 := by rw [tx_size, hlen]
  obtain ⟨s, hse⟩ : ∃ s, s = a :: (m ++ [z]) := ⟨_, rfl⟩
  rw [← hse] at b0 b1 hex hlen2 ⊢
  have hsp := l01Split_ok m 46 (by omega)
  rw [show (((46 : UInt8).toNat : Nat) : Int) = 46 from rfl] at hsp
  have none_of : (∀ n, -2000 ≤ n ∧ n ≤ 2000 → lvE n = a :: (m ++ [z]) → False) → rlO s = none := fun h => by rw [hse]; exact rlO_none h
  have i2 : ((m.length : Int) + 1 + 1 - 1).toNat = m.length + 1 := by omega
  have f0 : ((z.toNat : Int) != 109) = !decide (z = 109) := by rw [bne, show (109 : Int) = ((109 : Nat) : Int) from rfl, u8i z 109 (by omega)]; rfl
  have f1 : ((a.toNat : Int) != 43) = !decide (a = 43) := by rw [bne, show (43 : Int) = ((43 : Nat) : Int) from rfl, u8i a 43 (by omega)]; rfl
  have f2 : ((a.toNat : Int) != 45) = !decide (a = 45) := by rw [bne, show (45 : Int) = ((45 : Nat) : Int) from rfl, u8i a 45 (by omega)]; rfl
  have f3 : ((a.toNat : Int) == 45) = decide (a = 45) := by rw [show (45 : Int) = ((45 : Nat) : Int) from rfl, u8i a 45 (by omega)]; rfl
  by_cases c2 : z = 109
  case neg =>
    have d2 := decide_eq_false c2
    rw [d2] at f0
    rw [none_of fun n hv e => c2 (lv_parts hv e).2.1]
    (repeat (first | simp (maxSteps := 2000000) (disch := omega) only [go_sem, ↓reduceIte, hlen2, i2, b1, f0] | with_reducible refine vIf_t ?_ | with_reducible refine vIf_f ?_))
    (try (repeat (first | simp (maxSteps := 2000000) (disch := omega) only [go_sem, ↓reduceIte, hlen2, i2, b1, f0] | with_reducible refine vIf_t ?_ | with_reducible refine vIf_f ?_)))
    (refine retK_of ?_; (repeat (first | simp (maxSteps := 2000000) (disch := omega) only [go_sem, ↓reduceIte] | with_reducible refine vIf_t ?_ | with_reducible refine vIf_f ?_)))
    try rfl
  have d2 := decide_eq_true c2
  rw [d2] at f0
  by_cases c3 : a = 43 ∨ a = 45
  case neg =>
    rw [not_or] at c3
    rw [decide_eq_false c3.1] at f1
    rw [decide_eq_false c3.2] at f2
    rw [none_of fun n hv e => by
      have := (lv_parts hv e).1
      split at this
      · exact c3.2 this
      · exact c3.1 this]
    (repeat (first | simp (maxSteps := 2000000) (disch := omega) only [go_sem, ↓reduceIte, hlen2, i2, b1, f0] | with_reducible refine vIf_t ?_ | with_reducible refine vIf_f ?_))
    (try (repeat (first | simp (maxSteps := 2000000) (disch := omega) only [go_sem, ↓reduceIte, hlen2, i2, b1, b0, f0, f1, f2] | with_reducible refine vIf_t ?_ | with_reducible refine vIf_f ?_)))
    (refine retK_of ?_; (repeat (first | simp (maxSteps := 2000000) (disch := omega) only [go_sem, ↓reduceIte] | with_reducible refine vIf_t ?_ | with_reducible refine vIf_f ?_)))
    try rfl
  apply joinLv
  · intro common
    by_cases c4 : a = 43
    · rw [decide_eq_true c4] at f1
      (repeat (first | simp (maxSteps := 2000000) (disch := omega) only [go_sem, ↓reduceIte, hlen2, i2, b1, f0] | with_reducible refine vIf_t ?_ | with_reducible refine vIf_f ?_))
      (try (repeat (first | simp (maxSteps := 2000000) (disch := omega) only [go_sem, ↓reduceIte, hlen2, i2, b1, b0, f0, f1, hex] | with_reducible refine vIf_t ?_ | with_reducible refine vIf_f ?_)))
      (refine vCallX_keep [33, 0] rfl ?_; (repeat (first | simp (maxSteps := 2000000) (disch := omega) only [go_sem, ↓reduceIte] | with_reducible refine vIf_t ?_ | with_reducible refine vIf_f ?_)))
      exact common.out
    · rw [decide_eq_false c4] at f1
      rw [decide_eq_true (c3.resolve_left c4)] at f2
      (repeat (first | simp (maxSteps := 2000000) (disch := omega) only [go_sem, ↓reduceIte, hlen2, i2, b1, f0] | with_reducible refine vIf_t ?_ | with_reducible refine vIf_f ?_))
      (try (repeat (first | simp (maxSteps := 2000000) (disch := omega) only [go_sem, ↓reduceIte, hlen2, i2, b1, b0, f0, f1, f2, hex] | with_reducible refine vIf_t ?_ | with_reducible refine vIf_f ?_)))
      (refine vCallX_keep [33, 0] rfl ?_; (repeat (first | simp (maxSteps := 2000000) (disch := omega) only [go_sem, ↓reduceIte] | with_reducible refine vIf_t ?_ | with_reducible refine vIf_f ?_)))
      exact common.out
  have hm2 : m.length + 1 ≤ 10000 := by omega
  by_cases c5 : (splB 46 m []).length = 2
  case neg =>
    have d5 : (((splB 46 m []).length : Int) != 2) = true := by simp; omega
    rw [none_of fun n hv e => c5 (by rw [(lv_parts hv e).2.2]; rfl)]
    (refine vCallX_of ?_; (repeat (first | simp (maxSteps := 2000000) (disch := omega) only [go_sem, ↓reduceIte] | with_reducible refine vIf_t ?_ | with_reducible refine vIf_f ?_)); refine vCall_eq (hsp) (by simp (disch := omega) only [go_sem]) rfl (by first | exact Or.inl rfl | exact Or.inr ⟨rfl, rfl⟩ | (apply Or.inr; simp only [go_sem])) ?_; (repeat (first | simp (maxSteps := 2000000) (disch := omega) only [go_sem, ↓reduceIte] | with_reducible refine vIf_t ?_ | with_reducible refine vIf_f ?_)))
    (try (repeat (first | simp (maxSteps := 2000000) (disch := omega) only [go_sem, ↓reduceIte, d5] | with_reducible refine vIf_t ?_ | with_reducible refine vIf_f ?_)))
    (refine retK_of ?_; (repeat (first | simp (maxSteps := 2000000) (disch := omega) only [go_sem, ↓reduceIte] | with_reducible refine vIf_t ?_ | with_reducible refine vIf_f ?_)))
    try rfl
  obtain ⟨w0, w1, hw⟩ : ∃ w0 w1, splB 46 m [] = [w0, w1] := by
    match h : splB 46 m [], c5 with
    | [w0, w1], _ => exact ⟨w0, w1, rfl⟩
  have hwl := splB_len 46 m []
  have hw0 : w0.length ≤ 10000 := by
    have := joB_splB 46 m []
    rw [hw] at this
    have := congrArg List.length this
    simp [joB] at this
    omega
  rw [hw] at hsp
  have hl2 : ([w0, w1] : List (List UInt8)).length = 2 := rfl
  rw [hl2] at hsp
  have hmap : strs ([w0, w1].map tx) = strs [tx w0, tx w1] := rfl
  rw [hmap] at hsp
  have g0 : gs [tx w0, tx w1] 0 = tx w0 := rfl
  have g1 : gs [tx w0, tx w1] 1 = tx w1 := rfl
  by_cases c6 : w1.length = 2
  case neg =>
    have d6 : ((w1.length : Int) != 2) = true := by simp; omega
    rw [none_of fun n hv e => by
      have := (lv_parts hv e).2.2
      rw [hw] at this
      simp only [List.cons.injEq, and_true] at this
      exact c6 (by rw [this.2]; rfl)]
    (refine vCallX_of ?_; (repeat (first | simp (maxSteps := 2000000) (disch := omega) only [go_sem, ↓reduceIte] | with_reducible refine vIf_t ?_ | with_reducible refine vIf_f ?_)); refine vCall_eq (hsp) (by simp (disch := omega) only [go_sem]) rfl (by first | exact Or.inl rfl | exact Or.inr ⟨rfl, rfl⟩ | (apply Or.inr; simp only [go_sem])) ?_; (repeat (first | simp (maxSteps := 2000000) (disch := omega) only [go_sem, ↓reduceIte] | with_reducible refine vIf_t ?_ | with_reducible refine vIf_f ?_)))
    (try (repeat (first | simp (maxSteps := 2000000) (disch := omega) only [go_sem, ↓reduceIte, g1, tx_size, d6] | with_reducible refine vIf_t ?_ | with_reducible refine vIf_f ?_)))
    (refine retK_of ?_; (repeat (first | simp (maxSteps := 2000000) (disch := omega) only [go_sem, ↓reduceIte] | with_reducible refine vIf_t ?_ | with_reducible refine vIf_f ?_)))
    try rfl
  obtain ⟨x, y, rfl⟩ : ∃ x y, w1 = [x, y] := by
    match w1, c6 with
    | [x, y], _ => exact ⟨x, y, rfl⟩
  have bx : byteAt (tx [x, y]) 0 = (x.toNat : Int) := byteAt_0 x [y]
  have byy : byteAt (tx [x, y]) 1 = (y.toNat : Int) := byteAt_tx [x, y] 1 (by simp)
  have hx := l01Digit_ok (x.toNat : Int)
  have hy := l01Digit_ok (y.toNat : Int)
  have hsz : (tx [x, y]).size = 2 := tx_size _
  by_cases c7 : 48 ≤ (x.toNat : Int) ∧ (x.toNat : Int) ≤ 57
  case neg =>
    have d7 : (decide (48 ≤ (x.toNat : Int)) && decide ((x.toNat : Int) ≤ 57)) = false := by
      rw [← Bool.decide_and]; exact decide_eq_false c7
    rw [none_of fun n hv e => by
      have := (lv_parts hv e).2.2
      rw [hw] at this
      simp only [List.cons.injEq, and_true] at this
      have hd := (lvF_dig (n.natAbs % 100 / 10) (by omega)).1
      rw [← this.2.1] at hd
      omega]
    rw [d7] at hx
    (refine vCallX_of ?_; (repeat (first | simp (maxSteps := 2000000) (disch := omega) only [go_sem, ↓reduceIte] | with_reducible refine vIf_t ?_ | with_reducible refine vIf_f ?_)); refine vCall_eq (hsp) (by simp (disch := omega) only [go_sem]) rfl (by first | exact Or.inl rfl | exact Or.inr ⟨rfl, rfl⟩ | (apply Or.inr; simp only [go_sem])) ?_; (repeat (first | simp (maxSteps := 2000000) (disch := omega) only [go_sem, ↓reduceIte] | with_reducible refine vIf_t ?_ | with_reducible refine vIf_f ?_)))
    (try (repeat (first | simp (maxSteps := 2000000) (disch := omega) only [go_sem, ↓reduceIte, g1, hsz, bx] | with_reducible refine vIf_t ?_ | with_reducible refine vIf_f ?_)))
    (refine vCallX_of ?_; (repeat (first | simp (maxSteps := 2000000) (disch := omega) only [go_sem, ↓reduceIte] | with_reducible refine vIf_t ?_ | with_reducible refine vIf_f ?_)); refine vCall_eq (hx) (by simp (disch := omega) only [go_sem]) rfl (by first | exact Or.inl rfl | exact Or.inr ⟨rfl, rfl⟩ | (apply Or.inr; simp only [go_sem])) ?_; (repeat (first | simp (maxSteps := 2000000) (disch := omega) only [go_sem, ↓reduceIte] | with_reducible refine vIf_t ?_ | with_reducible refine vIf_f ?_)))
    (try (repeat (first | simp (maxSteps := 2000000) (disch := omega) only [go_sem, ↓reduceIte] | with_reducible refine vIf_t ?_ | with_reducible refine vIf_f ?_)))
    (refine retK_of ?_; (repeat (first | simp (maxSteps := 2000000) (disch := omega) only [go_sem, ↓reduceIte] | with_reducible refine vIf_t ?_ | with_reducible refine vIf_f ?_)))
    try rfl
  have d7 : (decide (48 ≤ (x.toNat : Int)) && decide ((x.toNat : Int) ≤ 57)) = true := by
    rw [← Bool.decide_and]; exact decide_eq_true c7
  rw [d7] at hx
  by_cases c8 : 48 ≤ (y.toNat : Int) ∧ (y.toNat : Int) ≤ 57
  case neg =>
    have d8 : (decide (48 ≤ (y.toNat : Int)) && decide ((y.toNat : Int) ≤ 57)) = false := by
      rw [← Bool.decide_and]; exact decide_eq_false c8
    rw [none_of fun n hv e => by
      have := (lv_parts hv e).2.2
      rw [hw] at this
      simp only [List.cons.injEq, and_true] at this
      have hd := (lvF_dig (n.natAbs % 100 % 10) (by omega)).1
      rw [← this.2.2] at hd
      omega]
    rw [d8] at hy
    (refine vCallX_of ?_; (repeat (first | simp (maxSteps := 2000000) (disch := omega) only [go_sem, ↓reduceIte] | with_reducible refine vIf_t ?_ | with_reducible refine vIf_f ?_)); refine vCall_eq (hsp) (by simp (disch := omega) only [go_sem]) rfl (by first | exact Or.inl rfl | exact Or.inr ⟨rfl, rfl⟩ | (apply Or.inr; simp only [go_sem])) ?_; (repeat (first | simp (maxSteps := 2000000) (disch := omega) only [go_sem, ↓reduceIte] | with_reducible refine vIf_t ?_ | with_reducible refine vIf_f ?_)))
    (try (repeat (first | simp (maxSteps := 2000000) (disch := omega) only [go_sem, ↓reduceIte, g1, hsz, bx] | with_reducible refine vIf_t ?_ | with_reducible refine vIf_f ?_)))
    (refine vCallX_of ?_; (repeat (first | simp (maxSteps := 2000000) (disch := omega) only [go_sem, ↓reduceIte] | with_reducible refine vIf_t ?_ | with_reducible refine vIf_f ?_)); refine vCall_eq (hx) (by simp (disch := omega) only [go_sem]) rfl (by first | exact Or.inl rfl | exact Or.inr ⟨rfl, rfl⟩ | (apply Or.inr; simp only [go_sem])) ?_; (repeat (first | simp (maxSteps := 2000000) (disch := omega) only [go_sem, ↓reduceIte] | with_reducible refine vIf_t ?_ | with_reducible refine vIf_f ?_)))
    (try (repeat (first | simp (maxSteps := 2000000) (disch := omega) only [go_sem, ↓reduceIte, g1, byy] | with_reducible refine vIf_t ?_ | with_reducible refine vIf_f ?_)))
    (refine vCallX_of ?_; (repeat (first | simp (maxSteps := 2000000) (disch := omega) only [go_sem, ↓reduceIte] | with_reducible refine vIf_t ?_ | with_reducible refine vIf_f ?_)); refine vCall_eq (hy) (by simp (disch := omega) only [go_sem]) rfl (by first | exact Or.inl rfl | exact Or.inr ⟨rfl, rfl⟩ | (apply Or.inr; simp only [go_sem])) ?_; (repeat (first | simp (maxSteps := 2000000) (disch := omega) only [go_sem, ↓reduceIte] | with_reducible refine vIf_t ?_ | with_reducible refine vIf_f ?_)))
    (try (repeat (first | simp (maxSteps := 2000000) (disch := omega) only [go_sem, ↓reduceIte] | with_reducible refine vIf_t ?_ | with_reducible refine vIf_f ?_)))
    (refine retK_of ?_; (repeat (first | simp (maxSteps := 2000000) (disch := omega) only [go_sem, ↓reduceIte] | with_reducible refine vIf_t ?_ | with_reducible refine vIf_f ?_)))
    try rfl
  have d8 : (decide (48 ≤ (y.toNat : Int)) && decide ((y.toNat : Int) ≤ 57)) = true := by
    rw [← Bool.decide_and]; exact decide_eq_true c8
  rw [d8] at hy
  have hnum := l01Number_ok w0 (by omega)
  (refine vCallX_of ?_; (repeat (first | simp (maxSteps := 2000000) (disch := omega) only [go_sem, ↓reduceIte] | with_reducible refine vIf_t ?_ | with_reducible refine vIf_f ?_)); refine vCall_eq (hsp) (by simp (disch := omega) only [go_sem]) rfl (by first | exact Or.inl rfl | exact Or.inr ⟨rfl, rfl⟩ | (apply Or.inr; simp only [go_sem])) ?_; (repeat (first | simp (maxSteps := 2000000) (disch := omega) only [go_sem, ↓reduceIte] | with_reducible refine vIf_t ?_ | with_reducible refine vIf_f ?_)))
  (try (repeat (first | simp (maxSteps := 2000000) (disch := omega) only [go_sem, ↓reduceIte, g1, hsz, bx] | with_reducible refine vIf_t ?_ | with_reducible refine vIf_f ?_)))
  (refine vCallX_of ?_; (repeat (first | simp (maxSteps := 2000000) (disch := omega) only [go_sem, ↓reduceIte] | with_reducible refine vIf_t ?_ | with_reducible refine vIf_f ?_)); refine vCall_eq (hx) (by simp (disch := omega) only [go_sem]) rfl (by first | exact Or.inl rfl | exact Or.inr ⟨rfl, rfl⟩ | (apply Or.inr; simp only [go_sem])) ?_; (repeat (first | simp (maxSteps := 2000000) (disch := omega) only [go_sem, ↓reduceIte] | with_reducible refine vIf_t ?_ | with_reducible refine vIf_f ?_)))
  (try (repeat (first | simp (maxSteps := 2000000) (disch := omega) only [go_sem, ↓reduceIte, g1, byy] | with_reducible refine vIf_t ?_ | with_reducible refine vIf_f ?_)))
  (refine vCallX_of ?_; (repeat (first | simp (maxSteps := 2000000) (disch := omega) only [go_sem, ↓reduceIte] | with_reducible refine vIf_t ?_ | with_reducible refine vIf_f ?_)); refine vCall_eq (hy) (by simp (disch := omega) only [go_sem]) rfl (by first | exact Or.inl rfl | exact Or.inr ⟨rfl, rfl⟩ | (apply Or.inr; simp only [go_sem])) ?_; (repeat (first | simp (maxSteps := 2000000) (disch := omega) only [go_sem, ↓reduceIte] | with_reducible refine vIf_t ?_ | with_reducible refine vIf_f ?_)))
  (try (repeat (first | simp (maxSteps := 2000000) (disch := omega) only [go_sem, ↓reduceIte, g0] | with_reducible refine vIf_t ?_ | with_reducible refine vIf_f ?_)))
  cases hr : rdD w0 with
  | none =>
    rw [none_of fun n hv e => by
      have := (lv_parts hv e).2.2
      rw [hw] at this
      simp only [List.cons.injEq, and_true] at this
      rw [this.1, rdD_itoa _ (by unfold nOk; omega)] at hr
      simp at hr]
    rw [hr] at hnum
    unfold rdR at hnum
    (refine vCallX_of ?_; (repeat (first | simp (maxSteps := 2000000) (disch := omega) only [go_sem, ↓reduceIte] | with_reducible refine vIf_t ?_ | with_reducible refine vIf_f ?_)); refine vCall_eq (hnum) (by simp (disch := omega) only [go_sem]) rfl (by first | exact Or.inl rfl | exact Or.inr ⟨rfl, rfl⟩ | (apply Or.inr; simp only [go_sem])) ?_; (repeat (first | simp (maxSteps := 2000000) (disch := omega) only [go_sem, ↓reduceIte] | with_reducible refine vIf_t ?_ | with_reducible refine vIf_f ?_)))
    (try (repeat (first | simp (maxSteps := 2000000) (disch := omega) only [go_sem, ↓reduceIte] | with_reducible refine vIf_t ?_ | with_reducible refine vIf_f ?_)))
    (refine retK_of ?_; (repeat (first | simp (maxSteps := 2000000) (disch := omega) only [go_sem, ↓reduceIte] | with_reducible refine vIf_t ?_ | with_reducible refine vIf_f ?_)))
    try rfl
  | some k =>
    rw [hr] at hnum
    unfold rdR at hnum
    (refine vCallX_of ?_; (repeat (first | simp (maxSteps := 2000000) (disch := omega) only [go_sem, ↓reduceIte] | with_reducible refine vIf_t ?_ | with_reducible refine vIf_f ?_)); refine vCall_eq (hnum) (by simp (disch := omega) only [go_sem]) rfl (by first | exact Or.inl rfl | exact Or.inr ⟨rfl, rfl⟩ | (apply Or.inr; simp only [go_sem])) ?_; (repeat (first | simp (maxSteps := 2000000) (disch := omega) only [go_sem, ↓reduceIte] | with_reducible refine vIf_t ?_ | with_reducible refine vIf_f ?_)))
    (refine vCallX_of ?_; (repeat (first | simp (maxSteps := 2000000) (disch := omega) only [go_sem, ↓reduceIte] | with_reducible refine vIf_t ?_ | with_reducible refine vIf_f ?_)); refine vCall_eq (inS_ok k 0 20) (by simp (disch := omega) only [go_sem]) rfl (by first | exact Or.inl rfl | exact Or.inr ⟨rfl, rfl⟩ | (apply Or.inr; simp only [go_sem])) ?_; (repeat (first | simp (maxSteps := 2000000) (disch := omega) only [go_sem, ↓reduceIte] | with_reducible refine vIf_t ?_ | with_reducible refine vIf_f ?_)))
    by_cases c9 : 0 ≤ k ∧ k ≤ 20
    case neg =>
      have d9 := decide_eq_false c9
      rw [none_of fun n hv e => by
        have := (lv_parts hv e).2.2
        rw [hw] at this
        simp only [List.cons.injEq, and_true] at this
        rw [this.1, rdD_itoa _ (by unfold nOk; omega)] at hr
        simp only [Option.some.injEq] at hr
        omega]
      (try (repeat (first | simp (maxSteps := 2000000) (disch := omega) only [go_sem, ↓reduceIte, d9] | with_reducible refine vIf_t ?_ | with_reducible refine vIf_f ?_)))
      (refine retK_of ?_; (repeat (first | simp (maxSteps := 2000000) (disch := omega) only [go_sem, ↓reduceIte] | with_reducible refine vIf_t ?_ | with_reducible refine vIf_f ?_)))
      try rfl
    have d9 := decide_eq_true c9
    obtain ⟨N, hNe⟩ : ∃ N : Int, N = 100 * k + 10 * ((x.toNat : Int) - 48) + ((y.toNat : Int) - 48) := ⟨_, rfl⟩
    have hN : ∀ n, -2000 ≤ n ∧ n ≤ 2000 → lvE n = s → n = if a = 45 then -N else N := fun n hv e => by rw [hNe]; exact lv_num hv (e.trans hse) hw hr
    clear none_of hnum hsp hx hy d8 d7
    have hsl : s.length = m.length + 2 := by rw [hse]; exact hlen
    have hs0 : (0 : Int) < s.length := by omega
    (try (repeat (first | simp (maxSteps := 2000000) (disch := omega) only [go_sem, ↓reduceIte, d9] | with_reducible refine vIf_t ?_ | with_reducible refine vIf_f ?_)))
    (refine vDraw_sch 16 [(0, false), (1, false), (2, false), (3, false), (10, false), (11, false), (4, false), (5, false), (6, false), (7, false), (8, false), (9, false), (12, true), (13, false), (14, false), (15, false)] mixed (by kernel_rfl) ?_; simp only [List.cons_append, List.nil_append, List.map_cons, List.map_nil, nthO_zero, nthO_succ, List.drop_succ_cons, List.drop_zero, List.drop_nil]; (repeat (first | simp (maxSteps := 2000000) (disch := omega) only [go_sem, ↓reduceIte] | with_reducible refine vIf_t ?_ | with_reducible refine vIf_f ?_)))
    (try (repeat (first | simp (maxSteps := 2000000) (disch := omega) only [go_sem, ↓reduceIte, g1, bx, byy] | with_reducible refine vIf_t ?_ | with_reducible refine vIf_f ?_)))
    by_cases c10 : a = 45
    · rw [if_pos c10] at hN
      rw [decide_eq_true c10] at f3
      obtain ⟨M, hM⟩ : ∃ M : Int, M = -N := ⟨_, rfl⟩
      rw [← hM] at hN
      have hno : ¬ ((-2000 ≤ M ∧ M ≤ 2000) ∧ lvE M = s) → rlO s = none := fun q => rlO_none fun n hv e => q (by rw [← hN n hv e]; exact ⟨hv, e⟩)
      (try (repeat (first | simp (maxSteps := 2000000) (disch := omega) only [go_sem, ↓reduceIte, b0, f3, hs0] | with_reducible refine vIf_t ?_ | with_reducible refine vIf_f ?_)))
      (refine vCallX_keep [7, 0, 97] rfl ?_; (repeat (first | simp (maxSteps := 2000000) (disch := omega) only [go_sem, ↓reduceIte] | with_reducible refine vIf_t ?_ | with_reducible refine vIf_f ?_)))
      have hval : 0 - (100 * k + 10 * ((x.toNat : Int) - 48) + ((y.toNat : Int) - 48)) = M := by omega
      rw [hval]
      (refine vCallX_of ?_; (repeat (first | simp (maxSteps := 2000000) (disch := omega) only [go_sem, ↓reduceIte] | with_reducible refine vIf_t ?_ | with_reducible refine vIf_f ?_)); refine vCall_eq (lvS_ok M) (by simp (disch := omega) only [go_sem]) rfl (by first | exact Or.inl rfl | exact Or.inr ⟨rfl, rfl⟩ | (apply Or.inr; simp only [go_sem])) ?_; (repeat (first | simp (maxSteps := 2000000) (disch := omega) only [go_sem, ↓reduceIte] | with_reducible refine vIf_t ?_ | with_reducible refine vIf_f ?_)))
      by_cases v1 : -2000 ≤ M ∧ M ≤ 2000
      · have ht := l02Text_ok M v1
        rw [decide_eq_true v1]
        (repeat (first | simp (maxSteps := 2000000) (disch := omega) only [go_sem, ↓reduceIte] | with_reducible refine vIf_t ?_ | with_reducible refine vIf_f ?_))
        (refine vCallX_of ?_; (repeat (first | simp (maxSteps := 2000000) (disch := omega) only [go_sem, ↓reduceIte] | with_reducible refine vIf_t ?_ | with_reducible refine vIf_f ?_)); refine vCall_eq (ht) (by simp (disch := omega) only [go_sem]) rfl (by first | exact Or.inl rfl | exact Or.inr ⟨rfl, rfl⟩ | (apply Or.inr; simp only [go_sem])) ?_; (repeat (first | simp (maxSteps := 2000000) (disch := omega) only [go_sem, ↓reduceIte] | with_reducible refine vIf_t ?_ | with_reducible refine vIf_f ?_)))
        by_cases v2 : lvE M = s
        · have nb : ((tx (lvE M)).toList == (tx s).toList) = true := by rw [v2]; simp
          rw [(rlO_iff s M).2 ⟨v1, v2⟩]
          (try (repeat (first | simp (maxSteps := 2000000) (disch := omega) only [go_sem, ↓reduceIte, nb] | with_reducible refine vIf_t ?_ | with_reducible refine vIf_f ?_)))
          (refine retK_of ?_; (repeat (first | simp (maxSteps := 2000000) (disch := omega) only [go_sem, ↓reduceIte] | with_reducible refine vIf_t ?_ | with_reducible refine vIf_f ?_)))
          try rfl
        · have nb := tx_bq v2
          rw [hno fun q => v2 q.2]
          (try (repeat (first | simp (maxSteps := 2000000) (disch := omega) only [go_sem, ↓reduceIte, nb] | with_reducible refine vIf_t ?_ | with_reducible refine vIf_f ?_)))
          (refine retK_of ?_; (repeat (first | simp (maxSteps := 2000000) (disch := omega) only [go_sem, ↓reduceIte] | with_reducible refine vIf_t ?_ | with_reducible refine vIf_f ?_)))
          try rfl
      · rw [decide_eq_false v1, hno fun q => v1 q.1]
        (repeat (first | simp (maxSteps := 2000000) (disch := omega) only [go_sem, ↓reduceIte] | with_reducible refine vIf_t ?_ | with_reducible refine vIf_f ?_))
        (refine retK_of ?_; (repeat (first | simp (maxSteps := 2000000) (disch := omega) only [go_sem, ↓reduceIte] | with_reducible refine vIf_t ?_ | with_reducible refine vIf_f ?_)))
        try rfl
    · rw [if_neg c10] at hN
      rw [decide_eq_false c10] at f3
      obtain ⟨M, hM⟩ : ∃ M : Int, M = N := ⟨_, rfl⟩
      rw [← hM] at hN
      have hno : ¬ ((-2000 ≤ M ∧ M ≤ 2000) ∧ lvE M = s) → rlO s = none := fun q => rlO_none fun n hv e => q (by rw [← hN n hv e]; exact ⟨hv, e⟩)
      (try (repeat (first | simp (maxSteps := 2000000) (disch := omega) only [go_sem, ↓reduceIte, b0, f3, hs0] | with_reducible refine vIf_t ?_ | with_reducible refine vIf_f ?_)))
      (refine vCallX_keep [7, 0, 97] rfl ?_; (repeat (first | simp (maxSteps := 2000000) (disch := omega) only [go_sem, ↓reduceIte] | with_reducible refine vIf_t ?_ | with_reducible refine vIf_f ?_)))
      have hval : 100 * k + 10 * ((x.toNat : Int) - 48) + ((y.toNat : Int) - 48) = M := by omega
      rw [hval]
      (refine vCallX_of ?_; (repeat (first | simp (maxSteps := 2000000) (disch := omega) only [go_sem, ↓reduceIte] | with_reducible refine vIf_t ?_ | with_reducible refine vIf_f ?_)); refine vCall_eq (lvS_ok M) (by simp (disch := omega) only [go_sem]) rfl (by first | exact Or.inl rfl | exact Or.inr ⟨rfl, rfl⟩ | (apply Or.inr; simp only [go_sem])) ?_; (repeat (first | simp (maxSteps := 2000000) (disch := omega) only [go_sem, ↓reduceIte] | with_reducible refine vIf_t ?_ | with_reducible refine vIf_f ?_)))
      by_cases v1 : -2000 ≤ M ∧ M ≤ 2000
      · have ht := l02Text_ok M v1
        rw [decide_eq_true v1]
        (repeat (first | simp (maxSteps := 2000000) (disch := omega) only [go_sem, ↓reduceIte] | with_reducible refine vIf_t ?_ | with_reducible refine vIf_f ?_))
        (refine vCallX_of ?_; (repeat (first | simp (maxSteps := 2000000) (disch := omega) only [go_sem, ↓reduceIte] | with_reducible refine vIf_t ?_ | with_reducible refine vIf_f ?_)); refine vCall_eq (ht) (by simp (disch := omega) only [go_sem]) rfl (by first | exact Or.inl rfl | exact Or.inr ⟨rfl, rfl⟩ | (apply Or.inr; simp only [go_sem])) ?_; (repeat (first | simp (maxSteps := 2000000) (disch := omega) only [go_sem, ↓reduceIte] | with_reducible refine vIf_t ?_ | with_reducible refine vIf_f ?_)))
        by_cases v2 : lvE M = s
        · have nb : ((tx (lvE M)).toList == (tx s).toList) = true := by rw [v2]; simp
          rw [(rlO_iff s M).2 ⟨v1, v2⟩]
          (try (repeat (first | simp (maxSteps := 2000000) (disch := omega) only [go_sem, ↓reduceIte, nb] | with_reducible refine vIf_t ?_ | with_reducible refine vIf_f ?_)))
          (refine retK_of ?_; (repeat (first | simp (maxSteps := 2000000) (disch := omega) only [go_sem, ↓reduceIte] | with_reducible refine vIf_t ?_ | with_reducible refine vIf_f ?_)))
          try rfl
        · have nb := tx_bq v2
          rw [hno fun q => v2 q.2]
          (try (repeat (first | simp (maxSteps := 2000000) (disch := omega) only [go_sem, ↓reduceIte, nb] | with_reducible refine vIf_t ?_ | with_reducible refine vIf_f ?_)))
          (refine retK_of ?_; (repeat (first | simp (maxSteps := 2000000) (disch := omega) only [go_sem, ↓reduceIte] | with_reducible refine vIf_t ?_ | with_reducible refine vIf_f ?_)))
          try rfl
      · rw [decide_eq_false v1, hno fun q => v1 q.1]
        (repeat (first | simp (maxSteps := 2000000) (disch := omega) only [go_sem, ↓reduceIte] | with_reducible refine vIf_t ?_ | with_reducible refine vIf_f ?_))
        (refine retK_of ?_; (repeat (first | simp (maxSteps := 2000000) (disch := omega) only [go_sem, ↓reduceIte] | with_reducible refine vIf_t ?_ | with_reducible refine vIf_f ?_)))
        try rfl
end Go.Proofs.YtjgjnedenapemaaGreatDoor

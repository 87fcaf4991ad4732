/- levels as texts -/
import Derived.Test.YtjgjnedenapemaaGreatDoorLand
import Derived.Test.YtjgjnedenapemaaGreatDoorT7
set_option linter.unusedVariables false
set_option linter.unusedSimpArgs false
namespace Go.Proofs.YtjgjnedenapemaaGreatDoor
open Go.AG Go.Lib

theorem absL_ok (a : Int) (ha : -1000000000000000000 ≤ a ∧ a ≤ 1000000000000000000) : ACalls Tryz.prog 63 [I a] [] (fun r o => r = I a.natAbs ∧ o = []) := by
  refine ACalls.of_vc Tryz.func63 rfl (by decide) 7 rfl [.tmp 2] rfl (by simp) ?_
  (repeat (first | simp (maxSteps := 2000000) (disch := omega) only [go_sem, ↓reduceIte] | with_reducible refine vIf_t ?_ | with_reducible refine vIf_f ?_))
  (refine retK_of ?_; (repeat (first | simp (maxSteps := 2000000) (disch := omega) only [go_sem, ↓reduceIte] | with_reducible refine vIf_t ?_ | with_reducible refine vIf_f ?_)))
  congr 2
  split <;> omega
theorem sizL_ok (a : Int) (ha : -1000000000000000000 ≤ a ∧ a ≤ 1000000000000000000) : ACalls Tryz.prog 67 [I a] [] (fun r o => r = I a.natAbs ∧ o = []) := by
  refine ACalls.of_vc Tryz.func67 rfl (by decide) 8 rfl [.tmp 2] rfl (by simp) ?_
  (repeat (first | simp (maxSteps := 2000000) (disch := omega) only [go_sem, ↓reduceIte] | with_reducible refine vIf_t ?_ | with_reducible refine vIf_f ?_))
  by_cases h : a < 0
  · (try (repeat (first | simp (maxSteps := 2000000) (disch := omega) only [go_sem, ↓reduceIte, h] | with_reducible refine vIf_t ?_ | with_reducible refine vIf_f ?_)))
    (refine retK_of ?_; (repeat (first | simp (maxSteps := 2000000) (disch := omega) only [go_sem, ↓reduceIte] | with_reducible refine vIf_t ?_ | with_reducible refine vIf_f ?_)))
    congr 2
    omega
  · (try (repeat (first | simp (maxSteps := 2000000) (disch := omega) only [go_sem, ↓reduceIte, h] | with_reducible refine vIf_t ?_ | with_reducible refine vIf_f ?_)))
    (refine retK_of ?_; (repeat (first | simp (maxSteps := 2000000) (disch := omega) only [go_sem, ↓reduceIte] | with_reducible refine vIf_t ?_ | with_reducible refine vIf_f ?_)))
    congr 2
    omega
/-- the text of a level -/
def lvE (n : Int) : List UInt8 := (if n < 0 then [45] else [43]) ++ itoa ((n.natAbs / 100 : Nat) : Int) ++ [46] ++ (itoa ((100 + n.natAbs % 100 : Nat) : Int)).drop 1 ++ [109]
def lvT (n : Int) : List UInt8 := if -2000 ≤ n ∧ n ≤ 2000 then lvE n else []
theorem itoa3 (m : Nat) (h : m < 100) : (itoa ((100 + m : Nat) : Int)).length = 3 ∧ (itoa ((100 + m : Nat) : Int)).drop 1 = itoa ((m / 10 : Nat) : Int) ++ itoa ((m % 10 : Nat) : Int) := by
  have : ∀ m, m < 100 → (itoa ((100 + m : Nat) : Int)).length = 3 ∧ (itoa ((100 + m : Nat) : Int)).drop 1 = itoa ((m / 10 : Nat) : Int) ++ itoa ((m % 10 : Nat) : Int) := by decide +kernel
  exact this m h
theorem lvText_ok (n : Int) : ACalls Tryz.prog 32 [I n] [] (fun r o => r = St (tx (lvT n)) ∧ o = []) := by
  refine ACalls.of_vc Tryz.func32 rfl (by decide) 24 rfl [.tmp 2] rfl (by simp) ?_
  (repeat (first | simp (maxSteps := 2000000) (disch := omega) only [go_sem, ↓reduceIte] | with_reducible refine vIf_t ?_ | with_reducible refine vIf_f ?_))
  (refine vCallX_of ?_; (repeat (first | simp (maxSteps := 2000000) (disch := omega) only [go_sem, ↓reduceIte] | with_reducible refine vIf_t ?_ | with_reducible refine vIf_f ?_)); refine vCall_eq (lv_ok n) (by simp (disch := omega) only [go_sem]) rfl (by first | exact Or.inl rfl | exact Or.inr ⟨rfl, rfl⟩ | (apply Or.inr; simp only [go_sem])) ?_; (repeat (first | simp (maxSteps := 2000000) (disch := omega) only [go_sem, ↓reduceIte] | with_reducible refine vIf_t ?_ | with_reducible refine vIf_f ?_)))
  by_cases hv : -2000 ≤ n ∧ n ≤ 2000
  case neg =>
    (try (repeat (first | simp (maxSteps := 2000000) (disch := omega) only [go_sem, ↓reduceIte, hv, lvT] | with_reducible refine vIf_t ?_ | with_reducible refine vIf_f ?_)))
    (refine retK_of ?_; (repeat (first | simp (maxSteps := 2000000) (disch := omega) only [go_sem, ↓reduceIte] | with_reducible refine vIf_t ?_ | with_reducible refine vIf_f ?_)))
    try rfl
  have hab : (n.natAbs : Int) ≤ 2000 := by omega
  have h3 := itoa3 (n.natAbs % 100) (Nat.mod_lt _ (by omega))
  obtain ⟨q, hq⟩ : ∃ q : Int, (n.natAbs : Int).tdiv 100 = q := ⟨_, rfl⟩
  obtain ⟨m, hm⟩ : ∃ m : Int, (n.natAbs : Int).tmod 100 = m := ⟨_, rfl⟩
  have hm2 : (m : Int) = ((n.natAbs % 100 : Nat) : Int) := by rw [← hm]; rfl
  have hq2 : (q : Int) = ((n.natAbs / 100 : Nat) : Int) := by rw [← hq]; rfl
  have hr : 0 ≤ m ∧ m < 100 ∧ 0 ≤ q ∧ q ≤ 20 := by omega
  have e3 : itoa (100 + m) = itoa ((100 + n.natAbs % 100 : Nat) : Int) := by congr 1; omega
  have l3 : (itoa (100 + m)).length = 3 := by rw [e3]; exact h3.1
  have hex : (tx (itoa (100 + m))).extract 1 3 = tx ((itoa (100 + m)).drop 1) := by
    rw [tx_extract, List.take_of_length_le (by omega)]
  have fin : lvT n = (if n < 0 then [45] else [43]) ++ itoa q ++ [46] ++ (itoa (100 + m)).drop 1 ++ [109] := by
    rw [lvT, if_pos hv, lvE, e3, hq2]
  have hlq : (itoa q).length ≤ 2 := by
    have : ∀ k, k < 21 → (itoa ((k : Nat) : Int)).length ≤ 2 := by decide +kernel
    rw [hq2]
    exact this _ (by omega)
  have hld : ((itoa (100 + m)).drop 1).length = 2 := by rw [List.length_drop, l3]
  rw [fin]
  by_cases hn : n < 0
  · rw [if_pos hn]
    (try (repeat (first | simp (maxSteps := 2000000) (disch := omega) only [go_sem, ↓reduceIte, hv, hn] | with_reducible refine vIf_t ?_ | with_reducible refine vIf_f ?_)))
    (refine vCallX_of ?_; (repeat (first | simp (maxSteps := 2000000) (disch := omega) only [go_sem, ↓reduceIte] | with_reducible refine vIf_t ?_ | with_reducible refine vIf_f ?_)); refine vCall_eq (absL_ok n (by omega)) (by simp (disch := omega) only [go_sem]) rfl (by first | exact Or.inl rfl | exact Or.inr ⟨rfl, rfl⟩ | (apply Or.inr; simp only [go_sem])) ?_; (repeat (first | simp (maxSteps := 2000000) (disch := omega) only [go_sem, ↓reduceIte] | with_reducible refine vIf_t ?_ | with_reducible refine vIf_f ?_)))
    (repeat (first | simp (maxSteps := 2000000) (disch := omega) only [go_sem, ↓reduceIte, hq] | with_reducible refine vIf_t ?_ | with_reducible refine vIf_f ?_))
    (refine vCallX_of ?_; (repeat (first | simp (maxSteps := 2000000) (disch := omega) only [go_sem, ↓reduceIte] | with_reducible refine vIf_t ?_ | with_reducible refine vIf_f ?_)); refine vCall_eq (decimal_ok q (by omega)) (by simp (disch := omega) only [go_sem]) rfl (by first | exact Or.inl rfl | exact Or.inr ⟨rfl, rfl⟩ | (apply Or.inr; simp only [go_sem])) ?_; (repeat (first | simp (maxSteps := 2000000) (disch := omega) only [go_sem, ↓reduceIte] | with_reducible refine vIf_t ?_ | with_reducible refine vIf_f ?_)))
    (refine vCallX_of ?_; (repeat (first | simp (maxSteps := 2000000) (disch := omega) only [go_sem, ↓reduceIte] | with_reducible refine vIf_t ?_ | with_reducible refine vIf_f ?_)); refine vCall_eq (absL_ok n (by omega)) (by simp (disch := omega) only [go_sem]) rfl (by first | exact Or.inl rfl | exact Or.inr ⟨rfl, rfl⟩ | (apply Or.inr; simp only [go_sem])) ?_; (repeat (first | simp (maxSteps := 2000000) (disch := omega) only [go_sem, ↓reduceIte] | with_reducible refine vIf_t ?_ | with_reducible refine vIf_f ?_)))
    (repeat (first | simp (maxSteps := 2000000) (disch := omega) only [go_sem, ↓reduceIte, hm] | with_reducible refine vIf_t ?_ | with_reducible refine vIf_f ?_))
    (refine vCallX_of ?_; (repeat (first | simp (maxSteps := 2000000) (disch := omega) only [go_sem, ↓reduceIte] | with_reducible refine vIf_t ?_ | with_reducible refine vIf_f ?_)); refine vCall_eq (decimal_ok (100 + m) (by omega)) (by simp (disch := omega) only [go_sem]) rfl (by first | exact Or.inl rfl | exact Or.inr ⟨rfl, rfl⟩ | (apply Or.inr; simp only [go_sem])) ?_; (repeat (first | simp (maxSteps := 2000000) (disch := omega) only [go_sem, ↓reduceIte] | with_reducible refine vIf_t ?_ | with_reducible refine vIf_f ?_)))
    (repeat (first | simp (maxSteps := 2000000) (disch := omega) only [go_sem, ↓reduceIte, decS, tx_size, l3, hex, tx_app] | with_reducible refine vIf_t ?_ | with_reducible refine vIf_f ?_))
    (refine retK_of ?_; (repeat (first | simp (maxSteps := 2000000) (disch := omega) only [go_sem, ↓reduceIte] | with_reducible refine vIf_t ?_ | with_reducible refine vIf_f ?_)))
  · rw [if_neg hn]
    (try (repeat (first | simp (maxSteps := 2000000) (disch := omega) only [go_sem, ↓reduceIte, hv, hn] | with_reducible refine vIf_t ?_ | with_reducible refine vIf_f ?_)))
    (refine vCallX_of ?_; (repeat (first | simp (maxSteps := 2000000) (disch := omega) only [go_sem, ↓reduceIte] | with_reducible refine vIf_t ?_ | with_reducible refine vIf_f ?_)); refine vCall_eq (absL_ok n (by omega)) (by simp (disch := omega) only [go_sem]) rfl (by first | exact Or.inl rfl | exact Or.inr ⟨rfl, rfl⟩ | (apply Or.inr; simp only [go_sem])) ?_; (repeat (first | simp (maxSteps := 2000000) (disch := omega) only [go_sem, ↓reduceIte] | with_reducible refine vIf_t ?_ | with_reducible refine vIf_f ?_)))
    (repeat (first | simp (maxSteps := 2000000) (disch := omega) only [go_sem, ↓reduceIte, hq] | with_reducible refine vIf_t ?_ | with_reducible refine vIf_f ?_))
    (refine vCallX_of ?_; (repeat (first | simp (maxSteps := 2000000) (disch := omega) only [go_sem, ↓reduceIte] | with_reducible refine vIf_t ?_ | with_reducible refine vIf_f ?_)); refine vCall_eq (decimal_ok q (by omega)) (by simp (disch := omega) only [go_sem]) rfl (by first | exact Or.inl rfl | exact Or.inr ⟨rfl, rfl⟩ | (apply Or.inr; simp only [go_sem])) ?_; (repeat (first | simp (maxSteps := 2000000) (disch := omega) only [go_sem, ↓reduceIte] | with_reducible refine vIf_t ?_ | with_reducible refine vIf_f ?_)))
    (refine vCallX_of ?_; (repeat (first | simp (maxSteps := 2000000) (disch := omega) only [go_sem, ↓reduceIte] | with_reducible refine vIf_t ?_ | with_reducible refine vIf_f ?_)); refine vCall_eq (absL_ok n (by omega)) (by simp (disch := omega) only [go_sem]) rfl (by first | exact Or.inl rfl | exact Or.inr ⟨rfl, rfl⟩ | (apply Or.inr; simp only [go_sem])) ?_; (repeat (first | simp (maxSteps := 2000000) (disch := omega) only [go_sem, ↓reduceIte] | with_reducible refine vIf_t ?_ | with_reducible refine vIf_f ?_)))
    (repeat (first | simp (maxSteps := 2000000) (disch := omega) only [go_sem, ↓reduceIte, hm] | with_reducible refine vIf_t ?_ | with_reducible refine vIf_f ?_))
    (refine vCallX_of ?_; (repeat (first | simp (maxSteps := 2000000) (disch := omega) only [go_sem, ↓reduceIte] | with_reducible refine vIf_t ?_ | with_reducible refine vIf_f ?_)); refine vCall_eq (decimal_ok (100 + m) (by omega)) (by simp (disch := omega) only [go_sem]) rfl (by first | exact Or.inl rfl | exact Or.inr ⟨rfl, rfl⟩ | (apply Or.inr; simp only [go_sem])) ?_; (repeat (first | simp (maxSteps := 2000000) (disch := omega) only [go_sem, ↓reduceIte] | with_reducible refine vIf_t ?_ | with_reducible refine vIf_f ?_)))
    (repeat (first | simp (maxSteps := 2000000) (disch := omega) only [go_sem, ↓reduceIte, decS, tx_size, l3, hex, tx_app] | with_reducible refine vIf_t ?_ | with_reducible refine vIf_f ?_))
    (refine retK_of ?_; (repeat (first | simp (maxSteps := 2000000) (disch := omega) only [go_sem, ↓reduceIte] | with_reducible refine vIf_t ?_ | with_reducible refine vIf_f ?_)))
theorem l02Two_ok (m : Int) (h : 0 ≤ m ∧ m < 100) : ACalls Tryz.prog 121 [I m] [] (fun r o => r = St (tx ((itoa (100 + m)).drop 1)) ∧ o = []) := by
  obtain ⟨k, rfl⟩ : ∃ k : Nat, m = k := ⟨m.toNat, by omega⟩
  have h3 := itoa3 k (by omega)
  have e : (100 : Int) + (k : Int) = ((100 + k : Nat) : Int) := by omega
  rw [e, h3.2]
  have ea : (k : Int).tdiv 10 = ((k / 10 : Nat) : Int) := rfl
  have eb : (k : Int).tmod 10 = ((k % 10 : Nat) : Int) := rfl
  have hl : (itoa ((k / 10 : Nat) : Int)).length ≤ 2 ∧ (itoa ((k % 10 : Nat) : Int)).length ≤ 2 := by
    have : ∀ j, j < 10 → (itoa ((j : Nat) : Int)).length ≤ 2 := by decide +kernel
    exact ⟨this _ (by omega), this _ (by omega)⟩
  have hb : 0 ≤ ((k / 10 : Nat) : Int) ∧ ((k / 10 : Nat) : Int) ≤ 10 ∧ 0 ≤ ((k % 10 : Nat) : Int) ∧ ((k % 10 : Nat) : Int) ≤ 10 := by omega
  generalize ((k / 10 : Nat) : Int) = x at *
  generalize ((k % 10 : Nat) : Int) = y at *
  refine ACalls.of_vc Tryz.func121 rfl (by decide) 10 rfl [.tmp 2] rfl (by simp) ?_
  (repeat (first | simp (maxSteps := 2000000) (disch := omega) only [go_sem, ↓reduceIte, ea] | with_reducible refine vIf_t ?_ | with_reducible refine vIf_f ?_))
  (refine vCallX_of ?_; (repeat (first | simp (maxSteps := 2000000) (disch := omega) only [go_sem, ↓reduceIte] | with_reducible refine vIf_t ?_ | with_reducible refine vIf_f ?_)); refine vCall_eq (l01Dec_ok x (by omega)) (by simp (disch := omega) only [go_sem]) rfl (by first | exact Or.inl rfl | exact Or.inr ⟨rfl, rfl⟩ | (apply Or.inr; simp only [go_sem])) ?_; (repeat (first | simp (maxSteps := 2000000) (disch := omega) only [go_sem, ↓reduceIte] | with_reducible refine vIf_t ?_ | with_reducible refine vIf_f ?_)))
  (repeat (first | simp (maxSteps := 2000000) (disch := omega) only [go_sem, ↓reduceIte, eb] | with_reducible refine vIf_t ?_ | with_reducible refine vIf_f ?_))
  (refine vCallX_of ?_; (repeat (first | simp (maxSteps := 2000000) (disch := omega) only [go_sem, ↓reduceIte] | with_reducible refine vIf_t ?_ | with_reducible refine vIf_f ?_)); refine vCall_eq (l01Dec_ok y (by omega)) (by simp (disch := omega) only [go_sem]) rfl (by first | exact Or.inl rfl | exact Or.inr ⟨rfl, rfl⟩ | (apply Or.inr; simp only [go_sem])) ?_; (repeat (first | simp (maxSteps := 2000000) (disch := omega) only [go_sem, ↓reduceIte] | with_reducible refine vIf_t ?_ | with_reducible refine vIf_f ?_)))
  (repeat (first | simp (maxSteps := 2000000) (disch := omega) only [go_sem, ↓reduceIte, decS, tx_size, tx_app] | with_reducible refine vIf_t ?_ | with_reducible refine vIf_f ?_))
  (refine retK_of ?_; (repeat (first | simp (maxSteps := 2000000) (disch := omega) only [go_sem, ↓reduceIte] | with_reducible refine vIf_t ?_ | with_reducible refine vIf_f ?_)))
theorem l02Text_ok (n : Int) (hv : -2000 ≤ n ∧ n ≤ 2000) : ACalls Tryz.prog 85 [I n] [] (fun r o => r = St (tx (lvE n)) ∧ o = []) := by
  refine ACalls.of_vc Tryz.func85 rfl (by decide) 19 rfl [.tmp 2] rfl (by simp) ?_
  (repeat (first | simp (maxSteps := 2000000) (disch := omega) only [go_sem, ↓reduceIte] | with_reducible refine vIf_t ?_ | with_reducible refine vIf_f ?_))
  have hab : (n.natAbs : Int) ≤ 2000 := by omega
  have h3 := itoa3 (n.natAbs % 100) (Nat.mod_lt _ (by omega))
  obtain ⟨q, hq⟩ : ∃ q : Int, (n.natAbs : Int).tdiv 100 = q := ⟨_, rfl⟩
  obtain ⟨m, hm⟩ : ∃ m : Int, (n.natAbs : Int).tmod 100 = m := ⟨_, rfl⟩
  have hm2 : (m : Int) = ((n.natAbs % 100 : Nat) : Int) := by rw [← hm]; rfl
  have hq2 : (q : Int) = ((n.natAbs / 100 : Nat) : Int) := by rw [← hq]; rfl
  have hr : 0 ≤ m ∧ m < 100 ∧ 0 ≤ q ∧ q ≤ 20 := by omega
  have e3 : itoa (100 + m) = itoa ((100 + n.natAbs % 100 : Nat) : Int) := by congr 1; omega
  have l3 : (itoa (100 + m)).length = 3 := by rw [e3]; exact h3.1
  have fin : lvE n = (if n < 0 then [45] else [43]) ++ itoa q ++ [46] ++ (itoa (100 + m)).drop 1 ++ [109] := by
    rw [lvE, e3, hq2]
  have hlq : (itoa q).length ≤ 2 := by
    have : ∀ k, k < 21 → (itoa ((k : Nat) : Int)).length ≤ 2 := by decide +kernel
    rw [hq2]
    exact this _ (by omega)
  have hld : ((itoa (100 + m)).drop 1).length = 2 := by rw [List.length_drop, l3]
  rw [fin]
  by_cases hn : n < 0
  · rw [if_pos hn]
    (try (repeat (first | simp (maxSteps := 2000000) (disch := omega) only [go_sem, ↓reduceIte, hn] | with_reducible refine vIf_t ?_ | with_reducible refine vIf_f ?_)))
    (refine vCallX_of ?_; (repeat (first | simp (maxSteps := 2000000) (disch := omega) only [go_sem, ↓reduceIte] | with_reducible refine vIf_t ?_ | with_reducible refine vIf_f ?_)); refine vCall_eq (sizL_ok n (by omega)) (by simp (disch := omega) only [go_sem]) rfl (by first | exact Or.inl rfl | exact Or.inr ⟨rfl, rfl⟩ | (apply Or.inr; simp only [go_sem])) ?_; (repeat (first | simp (maxSteps := 2000000) (disch := omega) only [go_sem, ↓reduceIte] | with_reducible refine vIf_t ?_ | with_reducible refine vIf_f ?_)))
    (repeat (first | simp (maxSteps := 2000000) (disch := omega) only [go_sem, ↓reduceIte, hq] | with_reducible refine vIf_t ?_ | with_reducible refine vIf_f ?_))
    (refine vCallX_of ?_; (repeat (first | simp (maxSteps := 2000000) (disch := omega) only [go_sem, ↓reduceIte] | with_reducible refine vIf_t ?_ | with_reducible refine vIf_f ?_)); refine vCall_eq (l01Dec_ok q (by omega)) (by simp (disch := omega) only [go_sem]) rfl (by first | exact Or.inl rfl | exact Or.inr ⟨rfl, rfl⟩ | (apply Or.inr; simp only [go_sem])) ?_; (repeat (first | simp (maxSteps := 2000000) (disch := omega) only [go_sem, ↓reduceIte] | with_reducible refine vIf_t ?_ | with_reducible refine vIf_f ?_)))
    (refine vCallX_of ?_; (repeat (first | simp (maxSteps := 2000000) (disch := omega) only [go_sem, ↓reduceIte] | with_reducible refine vIf_t ?_ | with_reducible refine vIf_f ?_)); refine vCall_eq (sizL_ok n (by omega)) (by simp (disch := omega) only [go_sem]) rfl (by first | exact Or.inl rfl | exact Or.inr ⟨rfl, rfl⟩ | (apply Or.inr; simp only [go_sem])) ?_; (repeat (first | simp (maxSteps := 2000000) (disch := omega) only [go_sem, ↓reduceIte] | with_reducible refine vIf_t ?_ | with_reducible refine vIf_f ?_)))
    (repeat (first | simp (maxSteps := 2000000) (disch := omega) only [go_sem, ↓reduceIte, hm] | with_reducible refine vIf_t ?_ | with_reducible refine vIf_f ?_))
    (refine vCallX_of ?_; (repeat (first | simp (maxSteps := 2000000) (disch := omega) only [go_sem, ↓reduceIte] | with_reducible refine vIf_t ?_ | with_reducible refine vIf_f ?_)); refine vCall_eq (l02Two_ok m (by omega)) (by simp (disch := omega) only [go_sem]) rfl (by first | exact Or.inl rfl | exact Or.inr ⟨rfl, rfl⟩ | (apply Or.inr; simp only [go_sem])) ?_; (repeat (first | simp (maxSteps := 2000000) (disch := omega) only [go_sem, ↓reduceIte] | with_reducible refine vIf_t ?_ | with_reducible refine vIf_f ?_)))
    (repeat (first | simp (maxSteps := 2000000) (disch := omega) only [go_sem, ↓reduceIte, decS, tx_size, l3, hld, tx_app] | with_reducible refine vIf_t ?_ | with_reducible refine vIf_f ?_))
    (refine retK_of ?_; (repeat (first | simp (maxSteps := 2000000) (disch := omega) only [go_sem, ↓reduceIte] | with_reducible refine vIf_t ?_ | with_reducible refine vIf_f ?_)))
  · rw [if_neg hn]
    (try (repeat (first | simp (maxSteps := 2000000) (disch := omega) only [go_sem, ↓reduceIte, hn] | with_reducible refine vIf_t ?_ | with_reducible refine vIf_f ?_)))
    (refine vCallX_of ?_; (repeat (first | simp (maxSteps := 2000000) (disch := omega) only [go_sem, ↓reduceIte] | with_reducible refine vIf_t ?_ | with_reducible refine vIf_f ?_)); refine vCall_eq (sizL_ok n (by omega)) (by simp (disch := omega) only [go_sem]) rfl (by first | exact Or.inl rfl | exact Or.inr ⟨rfl, rfl⟩ | (apply Or.inr; simp only [go_sem])) ?_; (repeat (first | simp (maxSteps := 2000000) (disch := omega) only [go_sem, ↓reduceIte] | with_reducible refine vIf_t ?_ | with_reducible refine vIf_f ?_)))
    (repeat (first | simp (maxSteps := 2000000) (disch := omega) only [go_sem, ↓reduceIte, hq] | with_reducible refine vIf_t ?_ | with_reducible refine vIf_f ?_))
    (refine vCallX_of ?_; (repeat (first | simp (maxSteps := 2000000) (disch := omega) only [go_sem, ↓reduceIte] | with_reducible refine vIf_t ?_ | with_reducible refine vIf_f ?_)); refine vCall_eq (l01Dec_ok q (by omega)) (by simp (disch := omega) only [go_sem]) rfl (by first | exact Or.inl rfl | exact Or.inr ⟨rfl, rfl⟩ | (apply Or.inr; simp only [go_sem])) ?_; (repeat (first | simp (maxSteps := 2000000) (disch := omega) only [go_sem, ↓reduceIte] | with_reducible refine vIf_t ?_ | with_reducible refine vIf_f ?_)))
    (refine vCallX_of ?_; (repeat (first | simp (maxSteps := 2000000) (disch := omega) only [go_sem, ↓reduceIte] | with_reducible refine vIf_t ?_ | with_reducible refine vIf_f ?_)); refine vCall_eq (sizL_ok n (by omega)) (by simp (disch := omega) only [go_sem]) rfl (by first | exact Or.inl rfl | exact Or.inr ⟨rfl, rfl⟩ | (apply Or.inr; simp only [go_sem])) ?_; (repeat (first | simp (maxSteps := 2000000) (disch := omega) only [go_sem, ↓reduceIte] | with_reducible refine vIf_t ?_ | with_reducible refine vIf_f ?_)))
    (repeat (first | simp (maxSteps := 2000000) (disch := omega) only [go_sem, ↓reduceIte, hm] | with_reducible refine vIf_t ?_ | with_reducible refine vIf_f ?_))
    (refine vCallX_of ?_; (repeat (first | simp (maxSteps := 2000000) (disch := omega) only [go_sem, ↓reduceIte] | with_reducible refine vIf_t ?_ | with_reducible refine vIf_f ?_)); refine vCall_eq (l02Two_ok m (by omega)) (by simp (disch := omega) only [go_sem]) rfl (by first | exact Or.inl rfl | exact Or.inr ⟨rfl, rfl⟩ | (apply Or.inr; simp only [go_sem])) ?_; (repeat (first | simp (maxSteps := 2000000) (disch := omega) only [go_sem, ↓reduceIte] | with_reducible refine vIf_t ?_ | with_reducible refine vIf_f ?_)))
    (repeat (first | simp (maxSteps := 2000000) (disch := omega) only [go_sem, ↓reduceIte, decS, tx_size, l3, hld, tx_app] | with_reducible refine vIf_t ?_ | with_reducible refine vIf_f ?_))
    (refine retK_of ?_; (repeat (first | simp (maxSteps := 2000000) (disch := omega) only [go_sem, ↓reduceIte] | with_reducible refine vIf_t ?_ | with_reducible refine vIf_f ?_)))
theorem lvTextS_ok (n : Int) : ACalls Tryz.prog 37 [I n] [] (fun r o => r = St (tx (lvT n)) ∧ o = []) := by
  refine ACalls.of_vc Tryz.func37 rfl (by decide) 8 rfl [.tmp 2] rfl (by simp) ?_
  (repeat (first | simp (maxSteps := 2000000) (disch := omega) only [go_sem, ↓reduceIte] | with_reducible refine vIf_t ?_ | with_reducible refine vIf_f ?_))
  (refine vCallX_of ?_; (repeat (first | simp (maxSteps := 2000000) (disch := omega) only [go_sem, ↓reduceIte] | with_reducible refine vIf_t ?_ | with_reducible refine vIf_f ?_)); refine vCall_eq (lvS_ok n) (by simp (disch := omega) only [go_sem]) rfl (by first | exact Or.inl rfl | exact Or.inr ⟨rfl, rfl⟩ | (apply Or.inr; simp only [go_sem])) ?_; (repeat (first | simp (maxSteps := 2000000) (disch := omega) only [go_sem, ↓reduceIte] | with_reducible refine vIf_t ?_ | with_reducible refine vIf_f ?_)))
  by_cases hv : -2000 ≤ n ∧ n ≤ 2000
  · (try (repeat (first | simp (maxSteps := 2000000) (disch := omega) only [go_sem, ↓reduceIte, hv, lvT] | with_reducible refine vIf_t ?_ | with_reducible refine vIf_f ?_)))
    (refine vCallX_of ?_; (repeat (first | simp (maxSteps := 2000000) (disch := omega) only [go_sem, ↓reduceIte] | with_reducible refine vIf_t ?_ | with_reducible refine vIf_f ?_)); refine vCall_eq (l02Text_ok n hv) (by simp (disch := omega) only [go_sem]) rfl (by first | exact Or.inl rfl | exact Or.inr ⟨rfl, rfl⟩ | (apply Or.inr; simp only [go_sem])) ?_; (repeat (first | simp (maxSteps := 2000000) (disch := omega) only [go_sem, ↓reduceIte] | with_reducible refine vIf_t ?_ | with_reducible refine vIf_f ?_)))
    (refine retK_of ?_; (repeat (first | simp (maxSteps := 2000000) (disch := omega) only [go_sem, ↓reduceIte] | with_reducible refine vIf_t ?_ | with_reducible refine vIf_f ?_)))
  · (try (repeat (first | simp (maxSteps := 2000000) (disch := omega) only [go_sem, ↓reduceIte, hv, lvT] | with_reducible refine vIf_t ?_ | with_reducible refine vIf_f ?_)))
    (refine retK_of ?_; (repeat (first | simp (maxSteps := 2000000) (disch := omega) only [go_sem, ↓reduceIte] | with_reducible refine vIf_t ?_ | with_reducible refine vIf_f ?_)))
    try rfl
end Go.Proofs.YtjgjnedenapemaaGreatDoor

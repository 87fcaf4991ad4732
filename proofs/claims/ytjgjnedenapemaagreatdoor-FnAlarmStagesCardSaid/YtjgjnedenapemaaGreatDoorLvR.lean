/- level texts, read: the plain law -/
import Derived.Test.YtjgjnedenapemaaGreatDoorRp4
import Derived.Test.YtjgjnedenapemaaGreatDoorLvT
import Derived.Test.YtjgjnedenapemaaGreatDoorT6
set_option linter.unusedVariables false
set_option linter.unusedSimpArgs false
namespace Go.Proofs.YtjgjnedenapemaaGreatDoor
open Go.AG Go.Lib

def rlD (s : List UInt8) : List UInt8 := if hasPrefix s [45] = true then trimLeftB (trimPrefix (trimLeftB (s.filter kp) 48) [45]) 48 else trimLeftB (s.filter kp) 48
def rlN (s : List UInt8) : Int := (rdD (rlD s)).getD 0
def rlS (s : List UInt8) : Int := if hasPrefix s [45] = true then -rlN s else rlN s
theorem rlN_bd (s : List UInt8) : -999999999999999999 ≤ rlN s ∧ rlN s ≤ 999999999999999999 := by
  unfold rlN
  cases h : rdD (rlD s) with
  | none => simp
  | some n =>
    have := ((rdD_iff _ _).1 h).2
    unfold nOk at this
    simpa using this
/-- the level that a text is -/
def rlO (s : List UInt8) : Option Int := if lvT (rlS s) = s then some (rlS s) else none
/-- the digits of a level's text -/
def lvG (k : Nat) : List UInt8 := itoa ((k / 100 : Nat) : Int) ++ [46] ++ (itoa ((100 + k % 100 : Nat) : Int)).drop 1 ++ [109]
theorem lvE_eq (n : Int) : lvE n = (if n < 0 then 45 else 43) :: lvG n.natAbs := by
  unfold lvE lvG
  split <;> simp
set_option maxRecDepth 100000 in
theorem lvG_trim (k : Nat) (h : k < 2001) : trimLeftB ((lvG k).filter kp) 48 = if k = 0 then [] else itoa (k : Int) := by
  have : ∀ k, k < 2001 → trimLeftB ((lvG k).filter kp) 48 = if k = 0 then [] else itoa (k : Int) := by decide +kernel
  exact this k h
theorem rdD_nil : (rdD []).getD 0 = 0 := by decide +kernel
theorem lvG_num (k : Nat) (h : k < 2001) : (rdD (trimLeftB ((lvG k).filter kp) 48)).getD 0 = k := by
  rw [lvG_trim k h]
  split
  · rename_i h0; subst h0; exact rdD_nil
  · rw [rdD_itoa _ (by unfold nOk; omega)]; rfl
theorem rlS_lvE (n : Int) (h : -2000 ≤ n ∧ n ≤ 2000) : rlS (lvE n) = n := by
  have hg := lvG_num n.natAbs (by omega)
  rw [lvE_eq]
  by_cases hn : n < 0
  · rw [if_pos hn]
    have hp : hasPrefix (45 :: lvG n.natAbs) [45] = true := by simp [hasPrefix]
    have hf : (45 :: lvG n.natAbs).filter kp = 45 :: (lvG n.natAbs).filter kp := by simp [kp]
    have ht : trimLeftB (45 :: (lvG n.natAbs).filter kp) 48 = 45 :: (lvG n.natAbs).filter kp := by simp [trimLeftB]
    have ht2 : trimPrefix (45 :: (lvG n.natAbs).filter kp) [45] = (lvG n.natAbs).filter kp := by simp [trimPrefix, hasPrefix]
    unfold rlS rlN rlD
    rw [if_pos hp, if_pos hp, hf, ht, ht2, hg]
    omega
  · rw [if_neg hn]
    have hp : hasPrefix (43 :: lvG n.natAbs) [45] = false := by simp [hasPrefix, List.isPrefixOf]
    have hf : (43 :: lvG n.natAbs).filter kp = (lvG n.natAbs).filter kp := by simp [kp]
    unfold rlS rlN rlD
    rw [if_neg (by simp [hp]), if_neg (by simp [hp]), hf, hg]
    omega
theorem lvE_ne (n : Int) : lvE n ≠ [] := by rw [lvE_eq]; simp
theorem rlO_iff (s : List UInt8) (n : Int) : rlO s = some n ↔ (-2000 ≤ n ∧ n ≤ 2000) ∧ lvE n = s := by
  unfold rlO
  constructor
  · intro h
    split at h
    · rename_i he
      simp only [Option.some.injEq] at h
      rw [h] at he
      unfold lvT at he
      split at he
      · exact ⟨‹_›, he⟩
      · rename_i hv
        exfalso
        rw [← he] at h
        have : rlS [] = 0 := by decide +kernel
        omega
    · simp at h
  · rintro ⟨hv, rfl⟩
    rw [rlS_lvE n hv, lvT, if_pos hv]
    simp
theorem rlO_back {n : Int} (h : -2000 ≤ n ∧ n ≤ 2000) : rlO (lvE n) = some n := (rlO_iff _ _).2 ⟨h, rfl⟩
theorem lvE_inj {a b : Int} (ha : -2000 ≤ a ∧ a ≤ 2000) (hb : -2000 ≤ b ∧ b ≤ 2000) (h : lvE a = lvE b) : a = b := by
  have := rlO_back ha
  rw [h, rlO_back hb] at this
  simpa using this.symm
theorem rlO_none {s : List UInt8} (h : ∀ n, -2000 ≤ n ∧ n ≤ 2000 → lvE n = s → False) : rlO s = none := by
  cases hr : rlO s with
  | none => rfl
  | some n => obtain ⟨a, b⟩ := (rlO_iff s n).1 hr; exact (h n a b).elim
/-- the two digits behind the point -/
theorem lvD_eq (m : Nat) (h : m < 100) : (itoa ((100 + m : Nat) : Int)).drop 1 = [UInt8.ofNat (48 + m / 10), UInt8.ofNat (48 + m % 10)] := by
  have : ∀ m, m < 100 → (itoa ((100 + m : Nat) : Int)).drop 1 = [UInt8.ofNat (48 + m / 10), UInt8.ofNat (48 + m % 10)] := by decide +kernel
  exact this m h
theorem lvG_eq (k : Nat) : lvG k = itoa ((k / 100 : Nat) : Int) ++ 46 :: ([UInt8.ofNat (48 + k % 100 / 10), UInt8.ofNat (48 + k % 100 % 10)] ++ [109]) := by
  unfold lvG
  rw [lvD_eq _ (Nat.mod_lt _ (by omega))]
  simp
theorem lvQ_len (k : Nat) (h : k < 2001) : 1 ≤ (itoa ((k / 100 : Nat) : Int)).length ∧ (itoa ((k / 100 : Nat) : Int)).length ≤ 2 := by
  have : ∀ q, q < 21 → 1 ≤ (itoa ((q : Nat) : Int)).length ∧ (itoa ((q : Nat) : Int)).length ≤ 2 := by decide +kernel
  exact this _ (by omega)
theorem lvG_len (k : Nat) (h : k < 2001) : 5 ≤ (lvG k).length ∧ (lvG k).length ≤ 6 := by
  have := lvQ_len k h
  rw [lvG_eq]
  simp only [List.length_append, List.length_cons, List.length_nil]
  omega
theorem lvE_len (n : Int) (h : -2000 ≤ n ∧ n ≤ 2000) : 6 ≤ (lvE n).length ∧ (lvE n).length ≤ 7 := by
  have := lvG_len n.natAbs (by omega)
  rw [lvE_eq]
  simp
  omega
theorem lvE_asc (n : Int) (h : -2000 ≤ n ∧ n ≤ 2000) : Asc (lvE n) := by
  have hq : ∀ q, q < 21 → (itoa ((q : Nat) : Int)).all (fun c => decide (c.toNat < 128)) = true := by decide +kernel
  have hd : ∀ x, x < 10 → (UInt8.ofNat (48 + x)).toNat < 128 := by decide
  have := hq (n.natAbs / 100) (by omega)
  intro c hc
  rw [lvE_eq, lvG_eq] at hc
  simp only [List.mem_cons, List.mem_append, List.not_mem_nil, or_false] at hc
  rcases hc with rfl | hc | rfl | (rfl | rfl) | rfl
  · split <;> decide
  · exact of_decide_eq_true (List.all_eq_true.1 this c hc)
  · decide
  · exact hd _ (by omega)
  · exact hd _ (by omega)
  · decide
end Go.Proofs.YtjgjnedenapemaaGreatDoor

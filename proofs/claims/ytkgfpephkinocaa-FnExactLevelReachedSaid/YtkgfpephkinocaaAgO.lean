/-
  AG, part O: loops with a condition beside their relation; plain lemmas on lists of numbers. Conditions: none.
-/
import Derived.Test.YtkgfpephkinocaaAgN
set_option linter.unusedSimpArgs false
set_option linter.unusedVariables false
namespace Go.AG
open Go.RowKit

/-! ### lists of numbers -/

theorem gi_lt (xs : List Int) (i : Nat) (h : i < xs.length) : gi xs i = xs[i] := by simp [gi, h]
theorem gi_mem (xs : List Int) (i : Nat) (h : i < xs.length) : gi xs i ∈ xs := by rw [gi_lt xs i h]; exact List.getElem_mem h
theorem take_succ_gi (xs : List Int) (i : Nat) (h : i < xs.length) : xs.take (i + 1) = xs.take i ++ [gi xs i] := by
  rw [List.take_succ_eq_append_getElem h, gi_lt xs i h]
theorem gi_append_left (xs ys : List Int) (i : Nat) (h : i < xs.length) : gi (xs ++ ys) i = gi xs i := by
  simp [gi, List.getElem?_append_left h]
theorem gi_append_right (xs ys : List Int) (i : Nat) (h : xs.length ≤ i) : gi (xs ++ ys) i = gi ys (i - xs.length) := by
  simp [gi, List.getElem?_append_right h]
theorem gi_set_same (xs : List Int) (i : Nat) (n : Int) (h : i < xs.length) : gi (xs.set i n) i = n := by simp [gi, h]
theorem gi_set_ne (xs : List Int) (i j : Nat) (n : Int) (h : i ≠ j) : gi (xs.set i n) j = gi xs j := by simp [gi, h]
theorem gi_ext {xs ys : List Int} (hl : xs.length = ys.length) (h : ∀ i, i < xs.length → gi xs i = gi ys i) : xs = ys := by
  apply List.ext_getElem hl
  intro i h1 h2
  have := h i h1
  rwa [gi_lt xs i h1, gi_lt ys i h2] at this

theorem snoc_ind {α : Type} {M : List α → Prop} (h0 : M []) (h1 : ∀ xs x, M xs → M (xs ++ [x])) (xs : List α) : M xs := by
  have : ∀ ys : List α, M ys.reverse := by
    intro ys
    induction ys with
    | nil => exact h0
    | cons y ys ih => rw [List.reverse_cons]; exact h1 _ _ ih
  have h := this xs.reverse
  rwa [List.reverse_reverse] at h

/-- a sum as Go has it -/
def wsum (xs : List Int) : Int := xs.foldl (fun a x => IntKind.wrap .i64 (a + x)) 0
theorem wsum_snoc (xs : List Int) (x : Int) : wsum (xs ++ [x]) = IntKind.wrap .i64 (wsum xs + x) := by simp [wsum]
theorem wsum_nil : wsum [] = 0 := rfl
/-- the sum itself -/
def sumI (xs : List Int) : Int := xs.foldr (· + ·) 0
theorem sumI_nil : sumI [] = 0 := rfl
theorem sumI_cons (x : Int) (xs : List Int) : sumI (x :: xs) = x + sumI xs := rfl
theorem sumI_append (xs ys : List Int) : sumI (xs ++ ys) = sumI xs + sumI ys := by
  induction xs with
  | nil => simp [sumI_nil]
  | cons x xs ih => simp [sumI_cons, ih]; omega
theorem wsum_eq (xs : List Int) (b : Int) (hb : 0 ≤ b) (h : ∀ x ∈ xs, -b ≤ x ∧ x ≤ b) (hl : b * xs.length ≤ 9223372036854775807) : wsum xs = sumI xs ∧ -(b * xs.length) ≤ sumI xs ∧ sumI xs ≤ b * xs.length := by
  revert h hl
  refine snoc_ind (M := fun xs => (∀ x ∈ xs, -b ≤ x ∧ x ≤ b) → b * xs.length ≤ 9223372036854775807 → wsum xs = sumI xs ∧ -(b * xs.length) ≤ sumI xs ∧ sumI xs ≤ b * xs.length) ?_ ?_ xs
  · intro _ _; exact ⟨rfl, by simp [sumI_nil], by simp [sumI_nil]⟩
  · intro xs x ih h hl
    have hx := h x (by simp)
    have e1 : b * ((xs ++ [x]).length : Int) = b * xs.length + b := by simp [Int.mul_add]
    rw [e1] at hl ⊢
    have := ih (fun y hy => h y (by simp [hy])) (by omega)
    have e2 : sumI (xs ++ [x]) = sumI xs + x := by rw [sumI_append, sumI_cons, sumI_nil]; omega
    rw [wsum_snoc, e2, this.1]
    rw [wrap_i64_id _ (by omega)]
    omega

theorem set_fill (xs : List Int) (k : Nat) (z : Int) (h : k < xs.length) : (xs.take k ++ List.replicate (xs.length - k) z).set k (gi xs k) = xs.take (k + 1) ++ List.replicate (xs.length - (k + 1)) z := by
  have e : xs.length - k = (xs.length - (k + 1)) + 1 := by omega
  rw [e, List.replicate_succ, take_succ_gi xs k h, List.set_append_right _ _ (by simp; omega)]
  simp [Nat.min_eq_left (Nat.le_of_lt h)]
theorem take_all (xs : List Int) (k : Nat) (h : xs.length ≤ k) : xs.take k = xs := List.take_of_length_le h

theorem all_snoc (q : Int → Bool) (xs : List Int) (k : Nat) (h : k < xs.length) (he : (xs.take k).all q = true) (hq : q (gi xs k) = true) : (xs.take (k + 1)).all q = true := by
  rw [take_succ_gi xs k h, List.all_append, he]; simp [hq]
theorem all_no (q : Int → Bool) (xs : List Int) (k : Nat) (h : k < xs.length) (hq : q (gi xs k) = false) : xs.all q = false := by
  rw [List.all_eq_false]
  exact ⟨gi xs k, gi_mem xs k h, by simp [hq]⟩

end Go.AG

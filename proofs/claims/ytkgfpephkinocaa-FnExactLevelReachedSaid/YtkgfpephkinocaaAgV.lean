/-
  AG, part V: rows of structs, as cells: each element gives m cells. Conditions: none.
-/
import Derived.Test.YtkgfpephkinocaaAgU
set_option linter.unusedSimpArgs false
set_option linter.unusedVariables false
namespace Go.AG
open Go.RowKit

section
variable {α : Type} (f : α → List V) (m : Nat) (hf : ∀ d, (f d).length = m)
include hf
theorem rsLen (ds : List α) : (ds.flatMap f).length = ds.length * m := by
  induction ds with
  | nil => simp
  | cons d ds ih => simp only [List.flatMap_cons, List.length_append, hf, ih, List.length_cons, Nat.add_mul, Nat.one_mul]; omega
theorem rsDrop (ds : List α) (n : Nat) : (ds.flatMap f).drop (n * m) = (ds.drop n).flatMap f := by
  induction ds generalizing n with
  | nil => simp
  | cons d ds ih =>
    cases n with
    | zero => simp
    | succ n =>
      simp only [List.flatMap_cons, List.drop_succ_cons]
      rw [← ih n, List.drop_append, show (n + 1) * m - (f d).length = n * m from by rw [hf, Nat.add_mul]; omega, List.drop_eq_nil_of_le (by rw [hf, Nat.add_mul]; omega), List.nil_append]
theorem rsTake (ds : List α) (n : Nat) : (ds.flatMap f).take (n * m) = (ds.take n).flatMap f := by
  induction ds generalizing n with
  | nil => simp
  | cons d ds ih =>
    cases n with
    | zero => simp
    | succ n =>
      simp only [List.flatMap_cons, List.take_succ_cons]
      rw [← ih n, List.take_append, show (n + 1) * m - (f d).length = n * m from by rw [hf, Nat.add_mul]; omega, List.take_of_length_le (by rw [hf, Nat.add_mul]; omega)]
theorem rsGet (ds : List α) (i j : Nat) (hi : i < ds.length) (hj : j < m) : (ds.flatMap f)[i * m + j]? = (f ds[i])[j]? := by
  rw [← List.getElem?_drop, rsDrop f m hf, List.drop_eq_getElem_cons hi, List.flatMap_cons, List.getElem?_append_left (by rw [hf]; exact hj)]
theorem rsOut (ds : List α) (i j : Nat) (hi : ds.length ≤ i) : (ds.flatMap f)[i * m + j]? = none := by
  rw [List.getElem?_eq_none]
  rw [rsLen f m hf]
  have := Nat.mul_le_mul_right m hi
  omega
theorem rsAt [Inhabited α] (ds : List α) (i j : Nat) (hj : j < m) (c : α → V) (hc : ∀ d, (f d)[j]? = some (c d)) (K : V → Prop) : vAt (ds.flatMap f) (i * m + j) K = grd (i < ds.length) (K (c (ds.getD i default))) := by
  unfold vAt
  by_cases h : i < ds.length
  · rw [rsGet f m hf ds i j h hj, hc]
    simp [grd, h, List.getD]
  · rw [rsOut f m hf ds i j (by omega)]
    simp [grd, h]
theorem rsPart [Inhabited α] (hm : 0 < m) (ds : List α) (i : Nat) (K : V → Prop) : vPart true m (ds.flatMap f) (i * m) K = grd (i < ds.length) (K (.agg (f (ds.getD i default)))) := by
  unfold vPart
  by_cases h : i < ds.length
  · have h1 : i * m + m ≤ (ds.flatMap f).length := by
      rw [rsLen f m hf]
      have := Nat.mul_le_mul_right m (show i + 1 ≤ ds.length from h)
      rw [Nat.add_mul] at this; omega
    rw [rsDrop f m hf, List.drop_eq_getElem_cons h, List.flatMap_cons, List.take_append_of_le_length (by rw [hf]; exact Nat.le_refl _), List.take_of_length_le (by rw [hf]; exact Nat.le_refl _)]
    show grd _ _ = _
    rw [grd_of h1, grd_of h]
    simp [List.getD, h]
  · have h1 : ¬ i * m + m ≤ (ds.flatMap f).length := by
      rw [rsLen f m hf]
      have := Nat.mul_le_mul_right m (show ds.length ≤ i from by omega)
      omega
    show (_ ∧ _) = (_ ∧ _)
    simp only [h1, h, false_and]
theorem rsWrAll (ds : List α) (i : Nat) (h : i < ds.length) (d : α) : wr (ds.flatMap f) (i * m) (f d) = (ds.set i d).flatMap f := by
  unfold wr
  rw [rsTake f m hf, hf, show i * m + m = (i + 1) * m from by rw [Nat.add_mul]; omega, rsDrop f m hf, List.set_eq_take_append_cons_drop, if_pos h]
  simp
theorem rsWr [Inhabited α] (ds : List α) (i j : Nat) (hj : j < m) (h : i < ds.length) (v : V) (d : α) (hd : f d = (f (ds.getD i default)).set j v) : wr (ds.flatMap f) (i * m + j) [v] = (ds.set i d).flatMap f := by
  rw [← rsWrAll f m hf ds i h d, hd]
  have hl := rsLen f m hf ds
  have h1 : i * m + m ≤ (ds.flatMap f).length := by
    have := Nat.mul_le_mul_right m (show i + 1 ≤ ds.length from h)
    rw [Nat.add_mul] at this; omega
  have hg : ds.getD i default = ds[i] := by simp [List.getD, h]
  have hfl := hf (ds[i])
  have hsl : (((f (ds.getD i default)).set j v).length) = m := by rw [List.length_set, hf]
  apply List.ext_getElem?
  intro k
  rw [get_wr _ _ _ (by rw [List.length_singleton]; omega), get_wr _ _ _ (by rw [hsl]; omega), hsl]
  simp only [List.length_cons, List.length_nil]
  by_cases k1 : k < i * m
  · rw [if_pos (by omega), if_pos k1]
  · rw [if_neg k1]
    by_cases k2 : k < i * m + m
    · rw [if_pos k2, List.getElem?_set, hf]
      have hgk : (ds.flatMap f)[k]? = (f ds[i])[k - i * m]? := by
        have := rsGet f m hf ds i (k - i * m) h (by omega)
        rwa [show i * m + (k - i * m) = k from by omega] at this
      by_cases k3 : k < i * m + j
      · rw [if_pos k3, if_neg (by omega), hg, hgk]
      · rw [if_neg k3]
        by_cases k4 : k < i * m + j + 1
        · rw [if_pos (by omega), if_pos (by omega), if_pos (by omega), show k - (i * m + j) = 0 by omega]; rfl
        · rw [if_neg (by omega), if_neg (by omega), hg, hgk]
    · rw [if_neg k2, if_neg (by omega), if_neg (by omega)]
theorem rsInj (hm : 0 < m) (hi : ∀ a b, f a = f b → a = b) : ∀ xs ys : List α, xs.flatMap f = ys.flatMap f → xs = ys
  | [], [], _ => rfl
  | [], y :: ys, h => by
    have := congrArg List.length h
    rw [rsLen f m hf, rsLen f m hf] at this
    simp [Nat.add_mul] at this; omega
  | x :: xs, [], h => by
    have := congrArg List.length h
    rw [rsLen f m hf, rsLen f m hf] at this
    simp [Nat.add_mul] at this; omega
  | x :: xs, y :: ys, h => by
    simp only [List.flatMap_cons] at h
    obtain ⟨h1, h2⟩ := List.append_inj h (by rw [hf, hf])
    rw [hi _ _ h1, rsInj hm hi xs ys h2]
end
theorem rsReps {α : Type} (f : α → List V) (n : Nat) (d : α) : reps n (f d) = (List.replicate n d).flatMap f := by
  induction n with
  | zero => rfl
  | succ n ih => simp only [reps, List.replicate_succ, List.flatMap_cons, ih]
attribute [go_sem] List.set_set
theorem fillG {α : Type} [Inhabited α] (xs : List α) (k : Nat) (z : α) (h : k < xs.length) : (xs.take k ++ List.replicate (xs.length - k) z).set k (xs.getD k default) = xs.take (k + 1) ++ List.replicate (xs.length - (k + 1)) z := by
  have e : xs.length - k = (xs.length - (k + 1)) + 1 := by omega
  have e2 : xs.getD k default = xs[k] := by simp [List.getD, h]
  rw [e, List.replicate_succ, List.take_succ_eq_append_getElem h, List.set_append_right _ _ (by simp; omega), e2, show k - (xs.take k).length = 0 by simp; omega, List.set_cons_zero, List.append_assoc]
  rfl
/-- one more element of a row is written, from the left -/
theorem growG {α : Type} (ys xs : List α) (k : Nat) (d : α) (h : ys.length = k) (hk : k < xs.length) : (ys ++ xs.drop k).set k d = (ys ++ [d]) ++ xs.drop (k + 1) := by
  subst h
  rw [List.set_append, if_neg (by omega), Nat.sub_self, List.drop_eq_getElem_cons hk, List.set_cons_zero, List.append_assoc]
  rfl
end Go.AG

/- rows of texts; all over texts and over rows of texts -/
import Derived.Test.YtilocioajpcoiaaDoorStrL
set_option linter.unusedVariables false
set_option linter.unusedSimpArgs false
namespace Go.Proofs.YtilocioajpcoiaaDoor
open Go.AG Go.Lib Go.RowKit

def rwT (xs : List (List ByteArray)) : List V := xs.map fun s => .sl s.length (strs s)
def grT (xs : List (List ByteArray)) (i : Nat) : List ByteArray := xs.getD i []
theorem grT_lt (xs : List (List ByteArray)) (i : Nat) (h : i < xs.length) : grT xs i = xs[i] := by simp [grT, h]
theorem grT_mem (xs : List (List ByteArray)) (i : Nat) (h : i < xs.length) : grT xs i ∈ xs := by rw [grT_lt xs i h]; exact List.getElem_mem h
theorem grT_take_succ (xs : List (List ByteArray)) (i : Nat) (h : i < xs.length) : xs.take (i + 1) = xs.take i ++ [grT xs i] := by rw [List.take_succ_eq_append_getElem h, grT_lt xs i h]
@[go_sem] theorem length_rwT (xs : List (List ByteArray)) : (rwT xs).length = xs.length := by simp [rwT]
@[go_sem] theorem rwT_append (xs ys : List (List ByteArray)) : rwT xs ++ rwT ys = rwT (xs ++ ys) := by simp [rwT]
@[go_sem] theorem rwT_nil : rwT [] = [] := rfl
@[go_sem] theorem rwT_snoc (xs : List (List ByteArray)) (x : List ByteArray) : rwT xs ++ [V.sl x.length (strs x)] = rwT (xs ++ [x]) := by simp [rwT]
@[go_sem] theorem rwT_take_all (xs : List (List ByteArray)) (n : Nat) (h : xs.length ≤ n) : (rwT xs).take n = rwT xs := by rw [List.take_of_length_le (by simpa [rwT] using h)]
@[go_sem low] theorem rwT_take (xs : List (List ByteArray)) (n : Nat) : (rwT xs).take n = rwT (xs.take n) := by simp [rwT, List.map_take]
@[go_sem] theorem vAt_rwT (xs : List (List ByteArray)) (i : Nat) (K : V → Prop) : vAt (rwT xs) i K = grd (i < xs.length) (K (.sl (grT xs i).length (strs (grT xs i)))) := by
  by_cases h : i < xs.length <;> simp [vAt, rwT, grT, h, grd]
@[go_sem] theorem imm_rwT (xs : List (List ByteArray)) : V.immL (rwT xs) = true := by
  induction xs with
  | nil => rfl
  | cons x xs ih => simpa [rwT, V.immL, V.imm, imm_strs] using ih
@[go_sem] theorem one_rwT (xs : List (List ByteArray)) : V.oneL (rwT xs) = true := by
  induction xs with
  | nil => rfl
  | cons x xs ih => simpa [rwT, V.oneL, V.one] using ih
@[go_sem] theorem noref_rwT (xs : List (List ByteArray)) : V.norefL (rwT xs) = true := by
  induction xs with
  | nil => rfl
  | cons x xs ih => simpa [rwT, V.norefL, V.noref] using ih
@[go_sem] theorem kill_rwT (p : Nat → Bool) (xs : List (List ByteArray)) : V.killL p (rwT xs) = rwT xs := by simp [killL_eq, rwT, V.kill]
@[go_sem] theorem frz_rwT (f : Nat → Option Ob) (xs : List (List ByteArray)) : V.frzL f (rwT xs) = rwT xs := by simp [frzL_eq, rwT, V.frz]
@[go_sem] theorem ren_rwT (g : Nat → Nat) (xs : List (List ByteArray)) : V.renL g (rwT xs) = rwT xs := by simp [renL_eq, rwT, V.ren]
theorem allS_snoc (q : ByteArray → Bool) (xs : List ByteArray) (k : Nat) (h : k < xs.length) (he : (xs.take k).all q = true) (hq : q (gs xs k) = true) : (xs.take (k + 1)).all q = true := by
  rw [gs_take_succ xs k h, List.all_append, he]; simp [hq]
theorem allS_no (q : ByteArray → Bool) (xs : List ByteArray) (k : Nat) (h : k < xs.length) (hq : q (gs xs k) = false) : xs.all q = false := by
  rw [List.all_eq_false]
  exact ⟨gs xs k, gs_mem xs k h, by simp [hq]⟩
theorem allRS_snoc (q : List ByteArray → Bool) (xs : List (List ByteArray)) (k : Nat) (h : k < xs.length) (he : (xs.take k).all q = true) (hq : q (grT xs k) = true) : (xs.take (k + 1)).all q = true := by
  rw [grT_take_succ xs k h, List.all_append, he]; simp [hq]
theorem allRS_no (q : List ByteArray → Bool) (xs : List (List ByteArray)) (k : Nat) (h : k < xs.length) (hq : q (grT xs k) = false) : xs.all q = false := by
  rw [List.all_eq_false]
  exact ⟨grT xs k, grT_mem xs k h, by simp [hq]⟩
theorem ba_eq (a b : ByteArray) : (a.toList == b.toList) = decide (a = b) := by
  by_cases h : a = b
  · subst h; simp
  · rw [decide_eq_false h, Bool.eq_false_iff]
    intro e
    have e2 : a.toList = b.toList := by simpa using e
    rw [ByteArray.toList_eq, ByteArray.toList_eq] at e2
    exact h (by rw [← tx_list a, ← tx_list b, e2])
end Go.Proofs.YtilocioajpcoiaaDoor

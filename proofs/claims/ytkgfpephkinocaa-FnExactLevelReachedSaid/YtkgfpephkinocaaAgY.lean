/-
  AG, part Y: rows of Booleans, as cells. Conditions: none.
-/
import Derived.Test.YtkgfpephkinocaaAgX
set_option linter.unusedSimpArgs false
set_option linter.unusedVariables false
namespace Go.AG
open Go.RowKit

def bls (xs : List Bool) : List V := xs.map fun b => .sc (.bool b)
def gb (xs : List Bool) (i : Nat) : Bool := xs.getD i false
@[go_sem] theorem length_bls (xs : List Bool) : (bls xs).length = xs.length := by simp [bls]
@[go_sem] theorem bls_nil : bls [] = [] := rfl
@[go_sem] theorem bls_append (xs ys : List Bool) : bls xs ++ bls ys = bls (xs ++ ys) := by simp [bls]
@[go_sem] theorem bls_snoc (xs : List Bool) (b : Bool) : bls xs ++ [.sc (.bool b)] = bls (xs ++ [b]) := by simp [bls]
@[go_sem] theorem bls_take_all (xs : List Bool) (n : Nat) (h : xs.length ≤ n) : (bls xs).take n = bls xs := by rw [List.take_of_length_le (by simpa [bls] using h)]
@[go_sem low] theorem bls_take (xs : List Bool) (n : Nat) : (bls xs).take n = bls (xs.take n) := by simp [bls, List.map_take]
@[go_sem] theorem bls_drop (xs : List Bool) (n : Nat) : (bls xs).drop n = bls (xs.drop n) := by simp [bls, List.map_drop]
@[go_sem] theorem bls_replicate (n : Nat) (z : Bool) : List.replicate n (V.sc (.bool z)) = bls (List.replicate n z) := by simp [bls]
@[go_sem] theorem reps_bls (n : Nat) (z : Bool) : reps n [.sc (.bool z)] = bls (List.replicate n z) := by rw [reps_one, bls_replicate]
@[go_sem] theorem wr_bls (xs : List Bool) (i : Nat) (b : Bool) (h : i < xs.length) : wr (bls xs) i [.sc (.bool b)] = bls (xs.set i b) := by
  rw [wr_set _ _ _ (by simpa [bls] using h)]; simp [bls, List.map_set]
@[go_sem] theorem vAt_bls (xs : List Bool) (i : Nat) (K : V → Prop) : vAt (bls xs) i K = grd (i < xs.length) (K (.sc (.bool (gb xs i)))) := by
  by_cases h : i < xs.length <;> simp [vAt, bls, gb, h, grd]
@[go_sem] theorem imm_bls (xs : List Bool) : V.immL (bls xs) = true := by induction xs with | nil => rfl | cons x xs ih => simpa [bls, V.immL, V.imm] using ih
@[go_sem] theorem one_bls (xs : List Bool) : V.oneL (bls xs) = true := by induction xs with | nil => rfl | cons x xs ih => simpa [bls, V.oneL, V.one, Value.oneCell'] using ih
@[go_sem] theorem flat_bls (xs : List Bool) : V.flatL (bls xs) = true := by induction xs with | nil => rfl | cons x xs ih => simpa [bls, V.flatL, V.flat] using ih
@[go_sem] theorem noref_bls (xs : List Bool) : V.norefL (bls xs) = true := by induction xs with | nil => rfl | cons x xs ih => simpa [bls, V.norefL, V.noref] using ih
@[go_sem] theorem kill_bls (p : Nat → Bool) (xs : List Bool) : V.killL p (bls xs) = bls xs := by simp [killL_eq, bls, V.kill]
@[go_sem] theorem frz_bls (f : Nat → Option Ob) (xs : List Bool) : V.frzL f (bls xs) = bls xs := by simp [frzL_eq, bls, V.frz]
@[go_sem] theorem ren_bls (g : Nat → Nat) (xs : List Bool) : V.renL g (bls xs) = bls xs := by simp [renL_eq, bls, V.ren]
theorem bls_inj {xs ys : List Bool} (h : bls xs = bls ys) : xs = ys := by
  induction xs generalizing ys with
  | nil => cases ys with
    | nil => rfl
    | cons y ys => simp [bls] at h
  | cons x xs ih => cases ys with
    | nil => simp [bls] at h
    | cons y ys =>
      simp only [bls, List.map_cons, List.cons.injEq, V.sc.injEq, Value.bool.injEq] at h
      rw [h.1, ih h.2]
@[go_sem] theorem bls_eq (xs ys : List Bool) : (bls xs = bls ys) = (xs = ys) := propext ⟨bls_inj, fun h => by rw [h]⟩
theorem gb_lt (xs : List Bool) (i : Nat) (h : i < xs.length) : gb xs i = xs[i] := by simp [gb, h]
theorem gb_set_same (xs : List Bool) (i : Nat) (b : Bool) (h : i < xs.length) : gb (xs.set i b) i = b := by simp [gb, h]
theorem gb_set_ne (xs : List Bool) (i j : Nat) (b : Bool) (h : i ≠ j) : gb (xs.set i b) j = gb xs j := by simp [gb, h]
theorem vIf_gb {P : Program} {x y : Code} {Q : Exit → AState → Prop} {s : AState} {b : Bool} (h1 : b = true → vc P x Q s) (h2 : b = false → vc P y Q s) : vIf P (.sc (.bool b)) x y Q s := vIf_bool h1 h2
end Go.AG

/-
  AG, part Z: arrays: built from parts, and their elements' addresses. Conditions: none.
-/
import Derived.Test.YtkgfpephkinocaaAgY
set_option linter.unusedSimpArgs false
set_option linter.unusedVariables false
namespace Go.AG
open Go.RowKit

def plR (m : Nat) (i : Nat) : Option (Nat × Nat) := some (i * m, m)
@[go_sem] theorem plR_mk (m i : Nat) : plR m i = some (i * m, m) := rfl
@[go_sem] theorem vBuildD_array (P : Program) (ok : Bool) (n : Nat) (e : TypeId) (size bytes : Nat) (zero : List Value) (s : AState) (parts : List (Nat × V)) (d : Option Nat) (K : AState → Prop) :
    vBuildD P ⟨ok, .array n e, size, bytes, zero⟩ s parts d K = grd (ok = true ∧ zero ≠ [] ∧ zero.all Value.oneCell' = true) (grd ((ti P e).ok = true)
      (vFill (plR (ti P e).size) (zero.map V.sc) parts fun cells => fin d K s (.agg cells))) := rfl
@[go_sem] theorem reps_4 (z : List V) : reps 4 z = z ++ (z ++ (z ++ (z ++ []))) := rfl
@[go_sem] theorem reps_3 (z : List V) : reps 3 z = z ++ (z ++ (z ++ [])) := rfl
@[go_sem] theorem reps_2 (z : List V) : reps 2 z = z ++ (z ++ []) := rfl
@[go_sem] theorem wr_succL (x : V) (xs : List V) (n : Nat) (ys : List V) : wr (x :: xs) (n + 1) ys = x :: wr xs n ys := by
  simp [wr, Nat.add_right_comm]
def vIAA (m : Nat) (t : TI) (x : V) (n : Int) (K : V → Prop) : Prop := match x with
  | .ip xs off => grd (t.ok = true ∧ 0 ≤ n ∧ n < m) (K (.ip xs (off + n.toNat * t.size)))
  | .ptr l off => grd (t.ok = true ∧ 0 ≤ n ∧ n < m) (K (.ptr l (off + n.toNat * t.size)))
  | _ => False
@[go_sem] theorem vIdxAddr_array (P : Program) (m : Nat) (e : TypeId) (x : V) (k : IntKind) (n : Int) (K : V → Prop) : vIdxAddr P (.array m e) x (.sc (.int k n)) K = vIAA m (ti P e) x n K := rfl
@[go_sem] theorem vIAA_ip (m : Nat) (t : TI) (xs : List V) (off : Nat) (n : Int) (K : V → Prop) : vIAA m t (.ip xs off) n K = grd (t.ok = true ∧ 0 ≤ n ∧ n < m) (K (.ip xs (off + n.toNat * t.size))) := rfl
@[go_sem] theorem vIAA_ptr (m : Nat) (t : TI) (l off : Nat) (n : Int) (K : V → Prop) : vIAA m t (.ptr l off) n K = grd (t.ok = true ∧ 0 ≤ n ∧ n < m) (K (.ptr l (off + n.toNat * t.size))) := rfl
@[congr] theorem vIAA_congr {m : Nat} {t t' : TI} {x x' : V} {n n' : Int} {K : V → Prop} (ht : t = t') (hx : x = x') (hn : n = n') : vIAA m t x n K = vIAA m t' x' n' K := by rw [ht, hx, hn]
@[go_sem] theorem i2n (k : Nat) : (((k : Nat) : Int)).toNat = k := Int.toNat_natCast k
end Go.AG

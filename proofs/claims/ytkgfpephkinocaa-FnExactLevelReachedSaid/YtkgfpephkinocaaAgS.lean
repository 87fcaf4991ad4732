/-
  AG, part S: rows of rows of numbers, as cells. Conditions: none.
-/
import Derived.Test.YtkgfpephkinocaaAgR
set_option linter.unusedSimpArgs false
set_option linter.unusedVariables false
namespace Go.AG
open Go.RowKit

/-- rows of numbers, as cells -/
def rws (xs : List (List Int)) : List V := xs.map iS
def gr (xs : List (List Int)) (i : Nat) : List Int := xs.getD i []
@[go_sem] theorem length_rws (xs : List (List Int)) : (rws xs).length = xs.length := by simp [rws]
@[go_sem] theorem rws_append (xs ys : List (List Int)) : rws xs ++ rws ys = rws (xs ++ ys) := by simp [rws]
theorem rws_one (x : List Int) : [V.sl x.length (ints x)] = rws [x] := rfl
@[go_sem] theorem rws_snoc (xs : List (List Int)) (x : List Int) : rws xs ++ [V.sl x.length (ints x)] = rws (xs ++ [x]) := by simp [rws, iS]
@[go_sem] theorem rws_take_all (xs : List (List Int)) (n : Nat) (h : xs.length ≤ n) : (rws xs).take n = rws xs := by rw [List.take_of_length_le (by simpa [rws] using h)]
@[go_sem] theorem vAt_rws (xs : List (List Int)) (i : Nat) (K : V → Prop) : vAt (rws xs) i K = grd (i < xs.length) (K (.sl (gr xs i).length (ints (gr xs i)))) := by
  by_cases h : i < xs.length <;> simp [vAt, rws, gr, h, grd, iS]
@[go_sem] theorem imm_rws (xs : List (List Int)) : V.immL (rws xs) = true := by
  induction xs with
  | nil => rfl
  | cons x xs ih => simpa [rws, V.immL, V.imm, iS, imm_ints] using ih
@[go_sem] theorem one_rws (xs : List (List Int)) : V.oneL (rws xs) = true := by
  induction xs with
  | nil => rfl
  | cons x xs ih => simpa [rws, V.oneL, V.one, iS] using ih
@[go_sem] theorem noref_rws (xs : List (List Int)) : V.norefL (rws xs) = true := by
  induction xs with
  | nil => rfl
  | cons x xs ih => simpa [rws, V.norefL, V.noref, iS] using ih
@[go_sem] theorem kill_rws (p : Nat → Bool) (xs : List (List Int)) : V.killL p (rws xs) = rws xs := by simp [killL_eq, rws, V.kill, iS]
@[go_sem] theorem frz_rws (f : Nat → Option Ob) (xs : List (List Int)) : V.frzL f (rws xs) = rws xs := by simp [frzL_eq, rws, V.frz, iS]
@[go_sem] theorem ren_rws (g : Nat → Nat) (xs : List (List Int)) : V.renL g (rws xs) = rws xs := by simp [renL_eq, rws, V.ren, iS]
@[go_sem] theorem wr_rep1V (z x : V) : wr (List.replicate 1 z) 0 [x] = [x] := rfl
@[go_sem] theorem ints_rep0 (z : Int) : ints (List.replicate 0 z) = [] := rfl
theorem again_new_frz {α : Type} {p : α → Prop} {I : α → AState} {μ : α → Nat} {x : α} {Q : Exit → AState → Prop} {s s1 : AState} (x' : α) (hp : p x') (h : μ x' < μ x) (hf : Frz s s1) (hl : leP s1 (I x')) : loopK p I μ x Q .normal s := ⟨x', hp, h, s1, hf, .inr hl⟩
theorem vcLoop_new {P : Program} {c : Code} {Q : Exit → AState → Prop} {s s1 : AState} {α : Type} (p : α → Prop) (I : α → AState) (μ : α → Nat) (x0 : α) (hf : Frz s s1) (hp : p x0) (h0 : leP s1 (I x0)) (h : ∀ x, p x → vc P c (loopK p I μ x Q) (I x)) : vcLoop P c Q s := ⟨Q, .inl rfl, α, p, I, μ, x0, hp, ⟨s1, hf, .inr h0⟩, h⟩
end Go.AG

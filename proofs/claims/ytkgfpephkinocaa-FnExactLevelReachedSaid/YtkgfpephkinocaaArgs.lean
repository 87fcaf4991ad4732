/- contracts read arguments as weaker ones -/
import Derived.Test.YtkgfpephkinocaaAgZ
set_option linter.unusedVariables false
set_option linter.unusedSimpArgs false
namespace Go.AG
open Go.RowKit

def leArgs : List V → List V → Prop
  | [], [] => True
  | x :: xs, y :: ys => V.le x y ∧ leArgs xs ys
  | _, _ => False
theorem leArgs_get : ∀ (xs ys : List V), leArgs xs ys → xs.length = ys.length ∧ ∀ i (h : i < xs.length) (h' : i < ys.length), V.le xs[i] ys[i]
  | [], [], _ => ⟨rfl, fun i h => absurd h (by simp)⟩
  | x :: xs, y :: ys, h => by
    obtain ⟨h1, h2⟩ := leArgs_get xs ys h.2
    refine ⟨by simp [h1], fun i hi hi' => ?_⟩
    cases i with
    | zero => exact h.1
    | succ i => exact h2 i (by simpa using hi) (by simpa using hi')
theorem ACalls.arg {P : Program} {f : FuncId} {args args' : List V} {ob : Objs} {Q : V → Objs → Prop} (h : ACalls P f args ob Q) (hl : leArgs args' args) : ACalls P f args' ob Q := by
  obtain ⟨h1, h2⟩ := leArgs_get _ _ hl
  exact ⟨h.1, fun w X ρ vs hs hh hr => h.2 w X ρ vs (by omega) hh (fun i hi => (hr i (by omega)).le (h2 i (by omega) hi))⟩
theorem leA_nil : leArgs [] [] := trivial
theorem leA_same (x : V) {xs ys : List V} (h : leArgs xs ys) : leArgs (x :: xs) (x :: ys) := ⟨V.le_refl x, h⟩
theorem leA_nilS {xs ys : List V} (h : leArgs xs ys) : leArgs (.sc (.slice none 0 0) :: xs) (.sl 0 [] :: ys) := ⟨.inr (.inr ⟨rfl, rfl⟩), h⟩
end Go.AG

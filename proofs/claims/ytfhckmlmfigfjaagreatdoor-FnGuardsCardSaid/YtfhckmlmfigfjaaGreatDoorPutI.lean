/- rising lists: numbers put in -/
import Derived.Test.YtfhckmlmfigfjaaGreatDoorAgT
import Derived.Test.YtfhckmlmfigfjaaGreatDoorAgZ
set_option linter.unusedVariables false
set_option linter.unusedSimpArgs false
namespace Go.Proofs.YtfhckmlmfigfjaaGreatDoor
open Go.AG

attribute [local go_sem] beq_self_eq_true bne_self_eq_false Bool.not_true Bool.not_false
/-! rising lists -/
theorem srt_ext : ∀ {xs ys : List Int}, xs.Pairwise (· < ·) → ys.Pairwise (· < ·) → (∀ z, z ∈ xs ↔ z ∈ ys) → xs = ys
  | [], [], _, _, _ => rfl
  | [], y :: ys, _, _, h => absurd ((h y).2 (by simp)) (by simp)
  | x :: xs, [], _, _, h => absurd ((h x).1 (by simp)) (by simp)
  | x :: xs, y :: ys, hx, hy, h => by
    rw [List.pairwise_cons] at hx hy
    have e : x = y := by
      rcases List.mem_cons.1 ((h x).1 (by simp)) with h1 | h1
      · exact h1
      · rcases List.mem_cons.1 ((h y).2 (by simp)) with h2 | h2
        · exact h2.symm
        · have := hy.1 x h1
          have := hx.1 y h2
          omega
    subst e
    rw [srt_ext hx.2 hy.2 fun z => ?_]
    constructor
    · intro hz
      rcases List.mem_cons.1 ((h z).1 (List.mem_cons_of_mem _ hz)) with h1 | h1
      · subst h1
        have := hx.1 z hz
        omega
      · exact h1
    · intro hz
      rcases List.mem_cons.1 ((h z).2 (List.mem_cons_of_mem _ hz)) with h1 | h1
      · subst h1
        have := hy.1 z hz
        omega
      · exact h1
def putI (n : Int) : List Int → List Int
  | [] => [n]
  | x :: r => if x < n then x :: putI n r else if n < x then n :: x :: r else x :: r
theorem putI_mem (n : Int) : ∀ (xs : List Int) (z : Int), z ∈ putI n xs ↔ z = n ∨ z ∈ xs
  | [], z => by simp [putI]
  | x :: r, z => by
    have ih := putI_mem n r z
    simp only [putI]
    split
    · simp only [List.mem_cons, ih]
      constructor
      · rintro (h | h | h) <;> simp [h]
      · rintro (h | h | h) <;> simp [h]
    · split
      · simp only [List.mem_cons]
      · have e : x = n := by omega
        subst e
        simp only [List.mem_cons]
        constructor
        · rintro (h | h) <;> simp [h]
        · rintro (h | h | h) <;> simp [h]
theorem putI_srt (n : Int) : ∀ (xs : List Int), xs.Pairwise (· < ·) → (putI n xs).Pairwise (· < ·)
  | [], _ => by simp [putI]
  | x :: r, h => by
    have h' := List.pairwise_cons.1 h
    simp only [putI]
    split
    · rename_i hx
      rw [List.pairwise_cons]
      refine ⟨fun z hz => ?_, putI_srt n r h'.2⟩
      rcases (putI_mem n r z).1 hz with rfl | hz
      · exact hx
      · exact h'.1 z hz
    · split
      · rename_i h1 h2
        rw [List.pairwise_cons]
        refine ⟨fun z hz => ?_, h⟩
        rcases List.mem_cons.1 hz with rfl | hz
        · exact h2
        · have := h'.1 z hz
          omega
      · exact h
theorem putI_len (n : Int) : ∀ (xs : List Int), (putI n xs).length ≤ xs.length + 1
  | [] => by simp [putI]
  | x :: r => by
    have := putI_len n r
    simp only [putI]
    split
    · simp; omega
    · split <;> simp
end Go.Proofs.YtfhckmlmfigfjaaGreatDoor

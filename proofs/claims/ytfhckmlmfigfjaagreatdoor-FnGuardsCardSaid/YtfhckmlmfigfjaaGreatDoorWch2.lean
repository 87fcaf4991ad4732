/- watches: faults, hours, watchers: walks -/
import Derived.Test.YtfhckmlmfigfjaaGreatDoorWch1
set_option linter.unusedVariables false
set_option linter.unusedSimpArgs false
namespace Go.Proofs.YtfhckmlmfigfjaaGreatDoor
open Go.AG Go.Lib

attribute [local go_sem] beq_self_eq_true bne_self_eq_false Bool.not_true Bool.not_false
theorem sizeG_ok (xs : List V) (n : Nat) : ACalls Tryz.prog 185 [.sl n xs] [] (fun r o => r = I n ∧ o = []) := by
  refine ACalls.of_vc Tryz.func185 rfl (by decide) 5 rfl [.tmp 2] rfl (by simp) ?_
  (repeat (first | simp (maxSteps := 2000000) (disch := omega) only [go_sem, ↓reduceIte] | with_reducible refine vIf_t ?_ | with_reducible refine vIf_f ?_))
  (refine retK_of ?_; (repeat (first | simp (maxSteps := 2000000) (disch := omega) only [go_sem, ↓reduceIte] | with_reducible refine vIf_t ?_ | with_reducible refine vIf_f ?_)))
/-- two shifts of a guard clash -/
def clP (x y : Sh) (rest : Int) : Prop := x.g = y.g ∧ x.a < y.b + rest ∧ y.a < x.b + rest
theorem wrP_iff (n : Nat) (sh : List Sh) (i : Nat) (rest : Int) : wrP n sh i rest ↔ ¬ (0 ≤ (gSh sh i).g ∧ (gSh sh i).g < n) ∨ (gSh sh i).b ≤ (gSh sh i).a ∨ ∃ k, k < i ∧ clP (gSh sh k) (gSh sh i) rest := Iff.rfl
def sfC (ds : List Gd) (sh : List Sh) (rest : Int) : Int := if waC ds sh = 0 then if 0 ≤ rest ∧ rest ≤ 100 then 0 else 2 else waC ds sh
def SfV (ds : List Gd) (sh : List Sh) (rest v : Int) : Prop := (sfC ds sh rest = 0 ∧ FaV ds.length sh rest v) ∨ (sfC ds sh rest ≠ 0 ∧ v = 0)
theorem SfV.uniq {ds : List Gd} {sh : List Sh} {rest v w : Int} (h : SfV ds sh rest v) (k : SfV ds sh rest w) : v = w := by
  rcases h with ⟨h1, h2⟩ | ⟨h1, h2⟩ <;> rcases k with ⟨k1, k2⟩ | ⟨k1, k2⟩
  · exact h2.uniq k2
  · exact absurd h1 k1
  · exact absurd k1 h1
  · omega
def gcV : Bool → Int
  | true => 0
  | false => 6
@[local go_sem] theorem gcV_t : gcV true = 0 := rfl
@[local go_sem] theorem gcV_f : gcV false = 6 := rfl
theorem hoV_0 {ds : List Gd} {sh : List Sh} (h : goC ds sh = 0) : hoV ds sh = acc Sh.g (fun s => s.b - s.a) ds.length sh := if_pos h
theorem hoV_n {ds : List Gd} {sh : List Sh} (h : goC ds sh ≠ 0) : hoV ds sh = [] := if_neg h
theorem fault0 {ds : List Gd} {sh : List Sh} {v : Int} (h : FaV ds.length sh 0 v) : (v < 0 ↔ FaN ds.length sh) ∧ -1 ≤ v ∧ v < sh.length := h.none
end Go.Proofs.YtfhckmlmfigfjaaGreatDoor

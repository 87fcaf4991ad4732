/- watches: who watches, hours without guards, plans: walks -/
import Derived.Test.YtfhckmlmfigfjaaGreatDoorWch2
set_option linter.unusedVariables false
set_option linter.unusedSimpArgs false
namespace Go.Proofs.YtfhckmlmfigfjaaGreatDoor
open Go.AG Go.Lib

attribute [local go_sem] beq_self_eq_true bne_self_eq_false Bool.not_true Bool.not_false
def atQ (hour : Int) (i : Nat) (s : Sh) : Bool := (s.g != (i : Int)) || !decide (s.a ≤ hour ∧ hour ≤ s.b - 1)
theorem onB_all (sh : List Sh) (hour : Int) (i : Nat) : (!sh.all (atQ hour i)) = onB sh hour i := by
  unfold onB
  rw [List.not_all_eq_any_not]
  congr 1
  funext s
  unfold atQ
  rw [Bool.not_or, Bool.not_not]
  congr 1
  rw [Bool.eq_iff_iff, Bool.not_eq_true', bne_eq_false_iff_eq, decide_eq_true_eq]
theorem atV_0 {ds : List Gd} {sh : List Sh} {hour : Int} (h : atC ds sh hour = 0) : atV ds sh hour = onL ds.length sh hour := if_pos h
theorem atV_n {ds : List Gd} {sh : List Sh} {hour : Int} (h : atC ds sh hour ≠ 0) : atV ds sh hour = [] := if_neg h
theorem unV_0 {ds : List Gd} {sh : List Sh} {fr tw least : Int} (h : unC ds sh fr tw least = 0) : unV ds sh fr tw least = unK ds.length sh fr least (tw - fr).toNat := if_pos h
theorem unV_n {ds : List Gd} {sh : List Sh} {fr tw least : Int} (h : unC ds sh fr tw least ≠ 0) : unV ds sh fr tw least = [] := if_neg h
end Go.Proofs.YtfhckmlmfigfjaaGreatDoor

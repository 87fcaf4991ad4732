/- lands: data, whether they are valid, neighbours -/
import Derived.Test.YtbbdfifpncjpnaaDoorX6
import Derived.Test.YtbbdfifpncjpnaaDoorAgZ
set_option linter.unusedVariables false
set_option linter.unusedSimpArgs false
namespace Go.Proofs.YtbbdfifpncjpnaaDoor
open Go.AG

structure Ld where
  rows : Int
  cols : Int
  hs : List Int
def lC (l : Ld) : List V := [I l.rows, I l.cols, .sl l.hs.length (ints l.hs)]
def okL (l : Ld) : Bool := decide (1 ≤ l.rows ∧ l.rows ≤ 12) && decide (1 ≤ l.cols ∧ l.cols ≤ 12) && decide ((l.hs.length : Int) = l.rows * l.cols) && l.hs.all (fun x => decide (-2000 ≤ x ∧ x ≤ 2000))
theorem mul12 {a b : Int} (ha : 1 ≤ a ∧ a ≤ 12) (hb : 1 ≤ b ∧ b ≤ 12) : 1 ≤ a * b ∧ a * b ≤ 144 := by
  have h1 : 1 * 1 ≤ a * b := Int.mul_le_mul ha.1 hb.1 (by omega) (by omega)
  have h2 : a * b ≤ 12 * 12 := Int.mul_le_mul ha.2 hb.2 (by omega) (by omega)
  omega
end Go.Proofs.YtbbdfifpncjpnaaDoor

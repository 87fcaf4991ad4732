/- texts: any decimal read; the numbers of any text -/
import Derived.Test.YthgjcanhemohfaaDoorT5
import Derived.Test.YthgjcanhemohfaaDoorRepl
import Derived.Lib.ParseIntBTie
set_option linter.unusedVariables false
set_option linter.unusedSimpArgs false
namespace Go.Proofs.YthgjcanhemohfaaDoor
open Go.AG Go.Lib Go.RowKit

theorem flG_memA (p : Nat → Bool) : ∀ (l : List UInt8) (o : Option (List UInt8)), ∀ d ∈ flG p l o, d.length ≤ (o.getD []).length + l.length
  | [], none => by simp [flG]
  | [], some c => by simp [flG]
  | b :: r, none => by
    simp only [flG]
    have h1 := flG_memA p r none
    have h2 := flG_memA p r (some [b])
    split
    · intro d hd; have := h1 d hd; simp at this ⊢; omega
    · intro d hd; have := h2 d hd; simp at this ⊢; omega
  | b :: r, some c => by
    simp only [flG]
    have h1 := flG_memA p r none
    have h2 := flG_memA p r (some (c ++ [b]))
    split
    · intro d hd
      rcases List.mem_cons.1 hd with rfl | hd
      · simp
      · have := h1 d hd; simp at this ⊢; omega
    · intro d hd; have := h2 d hd; simp at this ⊢; omega
theorem flG_mem (l : List UInt8) : ∀ d ∈ flG pn l none, d.length ≤ l.length := by
  intro d hd
  have := flG_memA pn l none d hd
  simpa using this
def rdV : Option Int → Value
  | none => .tuple #[.int .i64 0, .bool false]
  | some n => .tuple #[.int .i64 n, .bool true]
/-- what ReadDecimal gives -/
def rdR : Option Int → V
  | none => .tup [I 0, B false]
  | some n => .tup [I n, B true]
theorem allD_take {ws : List (List UInt8)} (k : Nat) (hk : k < ws.length) : ws.take (k + 1) = ws.take k ++ [ws[k]] := List.take_succ_eq_append_getElem hk
end Go.Proofs.YthgjcanhemohfaaDoor

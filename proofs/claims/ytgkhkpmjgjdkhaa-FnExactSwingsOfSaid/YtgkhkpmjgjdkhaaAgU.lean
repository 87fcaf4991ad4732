/-
  AG, part U: further rules for simp: conversions, shifts. Conditions: none.
-/
import Derived.Test.YtgkhkpmjgjdkhaaAgS
set_option linter.unusedSimpArgs false
set_option linter.unusedVariables false
namespace Go.AG
open Go.RowKit

@[go_sem] theorem wrap_u64_id (x : Int) (h : 0 ≤ x ∧ x ≤ 18446744073709551615) : IntKind.wrap .u64 x = x := by
  unfold IntKind.wrap; simp [IntKind.signed, IntKind.bits]; omega
@[go_sem] theorem wrap_u8_id (x : Int) (h : 0 ≤ x ∧ x ≤ 255) : IntKind.wrap .u8 x = x := by
  unfold IntKind.wrap; simp [IntKind.signed, IntKind.bits]; omega
@[go_sem] theorem wrap_u32_id (x : Int) (h : 0 ≤ x ∧ x ≤ 4294967295) : IntKind.wrap .u32 x = x := by
  unfold IntKind.wrap; simp [IntKind.signed, IntKind.bits]; omega
@[go_sem] theorem wrap_i32_id (x : Int) (h : -2147483648 ≤ x ∧ x ≤ 2147483647) : IntKind.wrap .i32 x = x := by
  unfold IntKind.wrap; simp [IntKind.signed, IntKind.bits]; omega
@[go_sem] theorem min_left (a b : Nat) (h : a ≤ b) : min a b = a := Nat.min_eq_left h
@[go_sem] theorem toNat_cast (k : Nat) : (k : Int).toNat = k := Int.toNat_natCast k
end Go.AG

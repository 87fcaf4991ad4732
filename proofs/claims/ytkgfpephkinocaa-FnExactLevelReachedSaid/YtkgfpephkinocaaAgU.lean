/-
  AG, part U: further rules for simp: conversions, shifts. Conditions: none.
-/
import Derived.Test.YtkgfpephkinocaaAgS
set_option linter.unusedSimpArgs false
set_option linter.unusedVariables false
namespace Go.AG
open Go.RowKit

@[go_sem] theorem wrap_u64_id (x : Int) (h : 0 ≤ x ∧ x ≤ 18446744073709551615) : IntKind.wrap .u64 x = x := by
  unfold IntKind.wrap; simp [IntKind.signed, IntKind.bits]; omega
@[go_sem] theorem wrap_u8_id (x : Int) (h : 0 ≤ x ∧ x ≤ 255) : IntKind.wrap .u8 x = x := by
  unfold IntKind.wrap; simp [IntKind.signed, IntKind.bits]; omega
@[go_sem] theorem wrap_u32_id (x : Int) (h : 0 ≤ x ∧ x ≤ 4294967295) : IntKind.wrap .u32 x = x := by
  unfold IntKind.wrap; simp [IntKind.signed, IntKind.bits]; omega
@[go_sem] theorem wrap_i32_id (x : Int) (h : -2147483648 ≤ x ∧ x ≤ 2147483647) : IntKind.wrap .i32 x = x := by
  unfold IntKind.wrap; simp [IntKind.signed, IntKind.bits]; omega
@[go_sem] theorem min_left (a b : Nat) (h : a ≤ b) : min a b = a := Nat.min_eq_left h
attribute [go_sem] Nat.le_refl Int.le_refl
@[go_sem] theorem map_frz (f : Nat → Option Ob) (xs : List V) : List.map (V.frz f) xs = V.frzL f xs := (frzL_eq f xs).symm
@[go_sem] theorem elem_c (a b : Nat) (l : List Nat) : List.elem a (b :: l) = (decide (a = b) || List.elem a l) := by
  by_cases h : a = b <;> simp [h]
@[go_sem] theorem or_f (b : Bool) : (false || b) = b := Bool.false_or b
@[go_sem] theorem or_t (b : Bool) : (true || b) = true := Bool.true_or b
@[go_sem] theorem not_f : (!false) = true := rfl
@[go_sem] theorem toNat_cast (k : Nat) : (k : Int).toNat = k := Int.toNat_natCast k
theorem bits_and_255 (x : Int) : 0 ≤ Go.bits .and .u64 x 255 ∧ Go.bits .and .u64 x 255 ≤ 255 := by
  have h : ∀ a : BitVec 64, (a &&& BitVec.ofInt 64 255).toNat ≤ 255 := fun a => by
    rw [BitVec.toNat_and]
    exact Nat.le_trans Nat.and_le_right (by decide)
  have h2 := h (BitVec.ofInt 64 x)
  show 0 ≤ IntKind.wrap .u64 ((BitVec.ofInt 64 x &&& BitVec.ofInt 64 255).toNat : Int) ∧ _
  have h3 : Go.bits .and .u64 x 255 = IntKind.wrap .u64 ((BitVec.ofInt 64 x &&& BitVec.ofInt 64 255).toNat : Int) := rfl
  rw [h3, wrap_u64_id _ (by omega)]
  omega
@[go_sem] theorem wrap_and_255 (x : Int) : IntKind.wrap .i64 (Go.bits .and .u64 x 255) = Go.bits .and .u64 x 255 := by
  have := bits_and_255 x
  exact wrap_i64_id _ (by omega)

/-! ### bytes -/
/-- bytes, as cells -/
def bts (xs : List Int) : List V := xs.map fun n => .sc (.int .u8 n)
/-- a slice of bytes -/
def bS (xs : List Int) : V := .sl xs.length (bts xs)
/-- all of them are bytes -/
def bOk (xs : List Int) : Prop := ∀ i, i < xs.length → 0 ≤ gi xs i ∧ gi xs i ≤ 255
@[go_sem] theorem length_bts (xs : List Int) : (bts xs).length = xs.length := by simp [bts]
@[go_sem] theorem bts_nil : bts [] = [] := rfl
@[go_sem] theorem bts_append (xs ys : List Int) : bts xs ++ bts ys = bts (xs ++ ys) := by simp [bts]
@[go_sem] theorem bts_snoc (xs : List Int) (n : Int) : bts xs ++ [.sc (.int .u8 n)] = bts (xs ++ [n]) := by simp [bts]
@[go_sem] theorem bts_take_all (xs : List Int) (n : Nat) (h : xs.length ≤ n) : (bts xs).take n = bts xs := by rw [List.take_of_length_le (by simpa [bts] using h)]
@[go_sem low] theorem bts_take (xs : List Int) (n : Nat) : (bts xs).take n = bts (xs.take n) := by simp [bts, List.map_take]
@[go_sem] theorem bts_drop (xs : List Int) (n : Nat) : (bts xs).drop n = bts (xs.drop n) := by simp [bts, List.map_drop]
@[go_sem] theorem vAt_bts (xs : List Int) (i : Nat) (K : V → Prop) : vAt (bts xs) i K = grd (i < xs.length) (K (.sc (.int .u8 (gi xs i)))) := by
  by_cases h : i < xs.length <;> simp [vAt, bts, gi, h, grd]
@[go_sem] theorem imm_bts (xs : List Int) : V.immL (bts xs) = true := by induction xs with | nil => rfl | cons x xs ih => simpa [bts, V.immL, V.imm] using ih
@[go_sem] theorem one_bts (xs : List Int) : V.oneL (bts xs) = true := by induction xs with | nil => rfl | cons x xs ih => simpa [bts, V.oneL, V.one, Value.oneCell'] using ih
@[go_sem] theorem flat_bts (xs : List Int) : V.flatL (bts xs) = true := by induction xs with | nil => rfl | cons x xs ih => simpa [bts, V.flatL, V.flat] using ih
@[go_sem] theorem noref_bts (xs : List Int) : V.norefL (bts xs) = true := by induction xs with | nil => rfl | cons x xs ih => simpa [bts, V.norefL, V.noref] using ih
@[go_sem] theorem kill_bts (p : Nat → Bool) (xs : List Int) : V.killL p (bts xs) = bts xs := by simp [killL_eq, bts, V.kill]
@[go_sem] theorem frz_bts (f : Nat → Option Ob) (xs : List Int) : V.frzL f (bts xs) = bts xs := by simp [frzL_eq, bts, V.frz]
@[go_sem] theorem ren_bts (g : Nat → Nat) (xs : List Int) : V.renL g (bts xs) = bts xs := by simp [renL_eq, bts, V.ren]
theorem row_bS {w : World} {a : Option Addr} {len cap : Nat} {zs : List Int} (h : (a = none ∧ len = 0 ∧ cap = 0 ∧ zs = []) ∨
    ∃ x, a = some x ∧ len ≤ cap ∧ cap ≤ maxLen ∧ zs.length = cap ∧ (∀ i, i < zs.length → w.cell? (x.add i) = some (.int .u8 (zs.getD i 0))) ∧ ∀ n ∈ zs, (Lit.int .u8 n).wf = true) :
    RepD w (fun _ => False) (.slice a len cap) (bS (zs.take len)) := by
  have h1 := row_rep h
  have h2 := row_len h
  unfold bS
  rw [h2]
  exact h1
theorem row_bOk {w : World} {a : Option Addr} {len cap : Nat} {zs : List Int} (h : (a = none ∧ len = 0 ∧ cap = 0 ∧ zs = []) ∨
    ∃ x, a = some x ∧ len ≤ cap ∧ cap ≤ maxLen ∧ zs.length = cap ∧ (∀ i, i < zs.length → w.cell? (x.add i) = some (.int .u8 (zs.getD i 0))) ∧ ∀ n ∈ zs, (Lit.int .u8 n).wf = true) : bOk (zs.take len) := by
  intro i hi
  have hm : gi (zs.take len) i ∈ zs := List.mem_of_mem_take (gi_mem _ _ hi)
  rcases h with ⟨rfl, rfl, rfl, rfl⟩ | ⟨x, rfl, _, _, _, _, hw⟩
  · simp at hi
  · have := hw _ hm
    simp [Lit.wf] at this
    have e1 : IntKind.u8.min = 0 := rfl
    have e2 : IntKind.u8.max = 255 := rfl
    omega
end Go.AG

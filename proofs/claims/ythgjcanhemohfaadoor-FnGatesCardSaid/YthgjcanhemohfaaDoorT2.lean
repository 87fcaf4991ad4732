/- decimals: written, read -/
import Derived.Test.YthgjcanhemohfaaDoorT1
import Derived.Test.YthgjcanhemohfaaDoorStrL
import Derived.Test.YthgjcanhemohfaaDoorShelf
import Derived.Lib.AppendIntMem
import Derived.Lib.AtoiErrMem
import Derived.Test.YthgjcanhemohfaaDoorAgT
set_option linter.unusedVariables false
set_option linter.unusedSimpArgs false
namespace Go.Proofs.YthgjcanhemohfaaDoor
open Go.AG Go.Lib Go.RowKit

/-- a decimal's text -/
def decS (n : Int) : ByteArray := tx (itoa n)
theorem tabIs_of {w : World} {X : Nat → Prop} (h : Laid Tryd.prog w X) : TabIs Tryd.prog w "internal/strconv.uint64pow10" .u64 pow10Tab := by
  obtain ⟨g, hg⟩ := Option.isSome_iff_exists.1 (show (Tryd.prog.globalNamed "internal/strconv.uint64pow10").isSome = true by kernel_rfl)
  obtain ⟨cs, h1, h2⟩ := h.var (n := "internal/strconv.uint64pow10") (q := fun cs => cs = (Lib.pow10Tab.map fun z => Value.int .u64 z).toArray) (by simp [knownVars]) hg
  unfold TabIs
  rw [h1, h2]
theorem fmt_ok (n : Int) (h : -9223372036854775808 ≤ n ∧ n ≤ 9223372036854775807) : ACalls Tryd.prog 50 [I n, I 10] [] (fun r o => r = St (decS n) ∧ o = []) := by
  refine ACalls.lib (Q := fun r => r = St (decS n)) (vals := [.int .i64 n, .int .i64 10]) ⟨_, Tryd.func50, by kernel_rfl, rfl⟩ rfl fun w X hL hX => ?_
  refine (Tryd.strconv_FormatInt_10 n h.1 h.2 w (tabIs_of hL)).mono ?_
  rintro e w' ⟨rfl, k, os, rfl⟩
  exact ⟨_, _, rfl, rfl, below_grow _ _ (Nat.le_refl _) _ _, fun _ _ _ => .d (.sc _)⟩
theorem decimal_ok (n : Int) (h : -9223372036854775808 ≤ n ∧ n ≤ 9223372036854775807) : ACalls Tryd.prog 43 [I n] [] (fun r o => r = St (decS n) ∧ o = []) := by
  refine ACalls.of_vc Tryd.func43 rfl (by decide) 5 rfl [.tmp 2] rfl (by simp) ?_
  (repeat (first | simp (maxSteps := 2000000) (disch := omega) only [go_sem, ↓reduceIte, Nat.reduceEqDiff, Nat.reduceAdd, Nat.reduceMul, Nat.reduceSub, Int.reduceToNat, Int.reduceAdd, Int.reduceSub, Int.reduceMul, Int.reduceNeg] | with_reducible refine vIf_t ?_ | with_reducible refine vIf_f ?_))
  (refine vCallX_of ?_; (repeat (first | simp (maxSteps := 2000000) (disch := omega) only [go_sem, ↓reduceIte, Nat.reduceEqDiff, Nat.reduceAdd, Nat.reduceMul, Nat.reduceSub, Int.reduceToNat, Int.reduceAdd, Int.reduceSub, Int.reduceMul, Int.reduceNeg] | with_reducible refine vIf_t ?_ | with_reducible refine vIf_f ?_)); refine vCall_eq (fmt_ok n h) (by simp (disch := omega) only [go_sem, Nat.reduceAdd]) rfl (by first | exact Or.inl rfl | exact Or.inr ⟨rfl, rfl⟩ | (apply Or.inr; simp only [go_sem])) ?_; (repeat (first | simp (maxSteps := 2000000) (disch := omega) only [go_sem, ↓reduceIte, Nat.reduceEqDiff, Nat.reduceAdd, Nat.reduceMul, Nat.reduceSub, Int.reduceToNat, Int.reduceAdd, Int.reduceSub, Int.reduceMul, Int.reduceNeg] | with_reducible refine vIf_t ?_ | with_reducible refine vIf_f ?_)))
  (refine retK_of ?_; (repeat (first | simp (maxSteps := 2000000) (disch := omega) only [go_sem, ↓reduceIte, Nat.reduceEqDiff, Nat.reduceAdd, Nat.reduceMul, Nat.reduceSub, Int.reduceToNat, Int.reduceAdd, Int.reduceSub, Int.reduceMul, Int.reduceNeg] | with_reducible refine vIf_t ?_ | with_reducible refine vIf_f ?_)))
open Go.Proofs in
/-- a number that is read back -/
theorem dec18 (v : Int) (h : -999999999999999999 ≤ v ∧ v ≤ 999999999999999999) : (trimPrefix (itoa v) [45]).length ≤ 18 := by
  unfold itoa
  split
  · rename_i hn
    have := nDigits_lt v.natAbs 18 (by omega) (by omega)
    have hp : hasPrefix (45 :: decDigits v.natAbs) [45] = true := by simp [hasPrefix]
    simp [trimPrefix, hp, decDigits_length]
    omega
  · rename_i hn
    have hk := nDigits_lt v.toNat 18 (by omega) (by omega)
    have hm := dig_mem v.toNat
    have hl := decDigits_length v.toNat
    unfold trimPrefix
    split <;> simp [hl] <;> omega
end Go.Proofs.YthgjcanhemohfaaDoor

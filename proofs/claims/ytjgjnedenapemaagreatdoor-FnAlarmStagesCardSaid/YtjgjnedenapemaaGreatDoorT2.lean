/- decimals: written, read -/
import Derived.Test.YtjgjnedenapemaaGreatDoorT1
import Derived.Test.YtjgjnedenapemaaGreatDoorStrL
import Derived.Test.YtjgjnedenapemaaGreatDoorShelf
import Derived.Lib.AppendIntMem
import Derived.Lib.AtoiErrMem
import Derived.Test.YtjgjnedenapemaaGreatDoorAgT
set_option linter.unusedVariables false
set_option linter.unusedSimpArgs false
namespace Go.Proofs.YtjgjnedenapemaaGreatDoor
open Go.AG Go.Lib Go.RowKit

/-- a decimal's text -/
def decS (n : Int) : ByteArray := tx (itoa n)
theorem tabIs_of {w : World} {X : Nat → Prop} (h : Laid Tryz.prog w X) : TabIs Tryz.prog w "internal/strconv.uint64pow10" .u64 pow10Tab := by
  obtain ⟨g, hg⟩ := Option.isSome_iff_exists.1 (show (Tryz.prog.globalNamed "internal/strconv.uint64pow10").isSome = true by kernel_rfl)
  obtain ⟨cs, h1, h2⟩ := h.var (n := "internal/strconv.uint64pow10") (q := fun cs => cs = (Lib.pow10Tab.map fun z => Value.int .u64 z).toArray) (by simp [knownVars]) hg
  unfold TabIs
  rw [h1, h2]
theorem fmt_ok (n : Int) (h : -9223372036854775808 ≤ n ∧ n ≤ 9223372036854775807) : ACalls Tryz.prog 110 [I n, I 10] [] (fun r o => r = St (decS n) ∧ o = []) := by
  refine ACalls.lib (Q := fun r => r = St (decS n)) (vals := [.int .i64 n, .int .i64 10]) ⟨_, Tryz.func110, by kernel_rfl, rfl⟩ rfl fun w X hL hX => ?_
  refine (Tryz.strconv_FormatInt_10 n h.1 h.2 w (tabIs_of hL)).mono ?_
  rintro e w' ⟨rfl, k, os, rfl⟩
  exact ⟨_, _, rfl, rfl, below_grow _ _ (Nat.le_refl _) _ _, fun _ _ _ => .d (.sc _)⟩
theorem trim_ok (s p : ByteArray) : ACalls Tryz.prog 83 [St s, St p] [] (fun r o => r = St (tx (trimPrefix s.data.toList p.data.toList)) ∧ o = []) := by
  refine ACalls.lib (Q := fun r => r = St (tx (trimPrefix s.data.toList p.data.toList))) (vals := [.string s, .string p]) ⟨_, Tryz.func83, by kernel_rfl, rfl⟩ rfl fun w X hL hX => ?_
  refine (Tryz.strings_TrimPrefix s p w).mono ?_
  rintro e w' ⟨rfl, rfl⟩
  exact ⟨_, _, rfl, rfl, Below.refl _ _, fun _ _ _ => .d (.sc _)⟩
theorem decimal_ok (n : Int) (h : -9223372036854775808 ≤ n ∧ n ≤ 9223372036854775807) : ACalls Tryz.prog 78 [I n] [] (fun r o => r = St (decS n) ∧ o = []) := by
  refine ACalls.of_vc Tryz.func78 rfl (by decide) 5 rfl [.tmp 2] rfl (by simp) ?_
  (repeat (first | simp (maxSteps := 2000000) (disch := omega) only [go_sem, ↓reduceIte] | with_reducible refine vIf_t ?_ | with_reducible refine vIf_f ?_))
  (refine vCallX_of ?_; (repeat (first | simp (maxSteps := 2000000) (disch := omega) only [go_sem, ↓reduceIte] | with_reducible refine vIf_t ?_ | with_reducible refine vIf_f ?_)); refine vCall_eq (fmt_ok n h) (by simp (disch := omega) only [go_sem]) rfl (by first | exact Or.inl rfl | exact Or.inr ⟨rfl, rfl⟩ | (apply Or.inr; simp only [go_sem])) ?_; (repeat (first | simp (maxSteps := 2000000) (disch := omega) only [go_sem, ↓reduceIte] | with_reducible refine vIf_t ?_ | with_reducible refine vIf_f ?_)))
  (refine retK_of ?_; (repeat (first | simp (maxSteps := 2000000) (disch := omega) only [go_sem, ↓reduceIte] | with_reducible refine vIf_t ?_ | with_reducible refine vIf_f ?_)))
open Go.Proofs in
theorem readDec_walk (v : Int) (h : -9223372036854775808 ≤ v ∧ v ≤ 9223372036854775807) (hd : (trimPrefix (itoa v) [45]).length ≤ 18) {w : World} {X : Nat → Prop} (hL : Laid Tryz.prog w X) (hX : ∀ b, X b → b < w.heap.size) :
    Calls Tryz.prog 84 #[.string (decS v)] w fun e w' => e = .returned (.tuple #[.int .i64 v, .bool true]) ∧ Below w.heap.size w w' := by
  have hsz : (decS v).size ≤ 9223372036854775806 := by
    have := itoa_length_le v h.1 h.2
    unfold decS
    rw [tx_size]
    omega
  have hp : parseIntB 64 (decS v).data.toList = .ok v := parse_itoa v h.1 h.2
  go_enter Tryz.func84, Tryz.ntmps84
  go_wp2_with (go_at_call 119; refine (Tryz.strconv_ParseInt_10_at64_ok (decS v) hsz v hp _).mono ?_; rintro e w1 ⟨rfl, hw1⟩)
  have hb1 : Below w.heap.size w w1 := by
    rcases hw1 with rfl | ⟨t, rfl⟩
    · exact Below.refl _ _
    · exact bytesWorld_below _ _ _
  refine ((decimal_ok v h).calls (vals := [.int .i64 v]) (v := .string (decS v)) rfl rfl (hL.below hX hb1) (fun b hb => Nat.lt_of_lt_of_le (hX b hb) hb1.size)).mono ?_
  rintro e w2 ⟨rfl, hb2⟩
  go_wp2_with (go_at_call 83; refine (Tryz.strings_TrimPrefix _ _ _).mono ?_; rintro e w3 ⟨rfl, rfl⟩)
  · rename_i hlt
    have e : (decS v).data.toList = itoa v := rfl
    rw [e] at hlt
    omega
  · go_ret2
    exact ⟨rfl, hb1.trans (hb2.mono hb1.size)⟩
theorem readDec_ok (v : Int) (h : -9223372036854775808 ≤ v ∧ v ≤ 9223372036854775807) (hd : (trimPrefix (itoa v) [45]).length ≤ 18) : ACalls Tryz.prog 84 [St (decS v)] [] (fun r o => r = .tup [I v, B true] ∧ o = []) := by
  refine ACalls.lib (Q := fun r => r = .tup [I v, B true]) (vals := [.string (decS v)]) ⟨_, Tryz.func84, by kernel_rfl, rfl⟩ rfl fun w X hL hX => ?_
  refine (readDec_walk v h hd hL hX).mono ?_
  rintro e w' ⟨rfl, hb⟩
  exact ⟨_, _, rfl, rfl, hb, fun _ _ _ => .tup rfl fun i hi => by
    match i, hi with
    | 0, _ => exact .d (.sc _)
    | 1, _ => exact .d (.sc _)⟩
/-- a number that is read back -/
theorem dec18 (v : Int) (h : -999999999999999999 ≤ v ∧ v ≤ 999999999999999999) : (trimPrefix (itoa v) [45]).length ≤ 18 := by
  unfold itoa
  split
  · rename_i hn
    have := nDigits_lt v.natAbs 18 (by omega) (by omega)
    have hp : hasPrefix (45 :: decDigits v.natAbs) [45] = true := by simp [hasPrefix]
    simp [trimPrefix, hp, decDigits_length]
    omega
  · rename_i hn
    have hk := nDigits_lt v.toNat 18 (by omega) (by omega)
    have hm := dig_mem v.toNat
    have hl := decDigits_length v.toNat
    unfold trimPrefix
    split <;> simp [hl] <;> omega
end Go.Proofs.YtjgjnedenapemaaGreatDoor

/- texts: any decimal read; the numbers of any text -/
import Derived.Test.YtjgjnedenapemaaGreatDoorT5
import Derived.Test.YtjgjnedenapemaaGreatDoorRepl
import Derived.Lib.ParseIntBTie
set_option linter.unusedVariables false
set_option linter.unusedSimpArgs false
namespace Go.Proofs.YtjgjnedenapemaaGreatDoor
open Go.AG Go.Lib Go.RowKit

theorem flG_memA (p : Nat → Bool) : ∀ (l : List UInt8) (o : Option (List UInt8)), ∀ d ∈ flG p l o, d.length ≤ (o.getD []).length + l.length
  | [], none => by simp [flG]
  | [], some c => by simp [flG]
  | b :: r, none => by
    simp only [flG]
    have h1 := flG_memA p r none
    have h2 := flG_memA p r (some [b])
    split
    · intro d hd; have := h1 d hd; simp at this ⊢; omega
    · intro d hd; have := h2 d hd; simp at this ⊢; omega
  | b :: r, some c => by
    simp only [flG]
    have h1 := flG_memA p r none
    have h2 := flG_memA p r (some (c ++ [b]))
    split
    · intro d hd
      rcases List.mem_cons.1 hd with rfl | hd
      · simp
      · have := h1 d hd; simp at this ⊢; omega
    · intro d hd; have := h2 d hd; simp at this ⊢; omega
theorem flG_mem (l : List UInt8) : ∀ d ∈ flG pn l none, d.length ≤ l.length := by
  intro d hd
  have := flG_memA pn l none d hd
  simpa using this
def rdV : Option Int → Value
  | none => .tuple #[.int .i64 0, .bool false]
  | some n => .tuple #[.int .i64 n, .bool true]
set_option maxRecDepth 20000 in
theorem readX_walk (s : ByteArray) (hs : s.size ≤ 1000000) {w : World} {X : Nat → Prop} (hL : Laid Tryz.prog w X) (hX : ∀ b, X b → b < w.heap.size) :
    Calls Tryz.prog 84 #[.string s] w fun e w' => e = .returned (rdV (rdD s.data.toList)) ∧ Below w.heap.size w w' := by
  cases hp : parseIntB 64 s.data.toList with
  | ok v =>
    have hv : -9223372036854775808 ≤ v ∧ v ≤ 9223372036854775807 := by have := parseIntB_bounds hp; omega
    by_cases he : itoa v = s.data.toList
    · have es : s = decS v := by
        unfold decS
        rw [he, tx_list]
      by_cases hd : (trimPrefix (itoa v) [45]).length ≤ 18
      · have er : rdD s.data.toList = some v := by
          unfold rdD
          rw [hp]
          simp only
          rw [← he, if_pos ⟨rfl, hd⟩]
        rw [er, es]
        exact readDec_walk v hv hd hL hX
      · have er : rdD s.data.toList = none := by
          unfold rdD
          rw [hp]
          simp only
          rw [← he, if_neg (fun h => hd h.2)]
        rw [er]
        subst es
        clear he er
        have hsz : (decS v).size ≤ 9223372036854775806 := by omega
        go_enter Tryz.func84, Tryz.ntmps84
        go_wp2_with (go_at_call 119; refine (Tryz.strconv_ParseInt_10_at64_ok (decS v) hsz v hp _).mono ?_; rintro e w1 ⟨rfl, hw1⟩)
        have hb1 : Below w.heap.size w w1 := by
          rcases hw1 with rfl | ⟨t, rfl⟩
          · exact Below.refl _ _
          · exact bytesWorld_below _ _ _
        refine ((decimal_ok v hv).calls (vals := [.int .i64 v]) (v := .string (decS v)) rfl rfl (hL.below hX hb1) (fun b hb => Nat.lt_of_lt_of_le (hX b hb) hb1.size)).mono ?_
        rintro e w2 ⟨rfl, hb2⟩
        go_wp2_with (go_at_call 83; refine (Tryz.strings_TrimPrefix _ _ _).mono ?_; rintro e w3 ⟨rfl, rfl⟩)
        · go_ret2
          exact ⟨rfl, hb1.trans (hb2.mono hb1.size)⟩
        · rename_i hlt
          simp only [list_tx, decS] at hlt
          omega
    · have er : rdD s.data.toList = none := by
        unfold rdD
        rw [hp]
        simp only
        rw [if_neg (fun h => he h.1)]
      rw [er]
      clear er
      have hsz : s.size ≤ 9223372036854775806 := by omega
      go_enter Tryz.func84, Tryz.ntmps84
      go_wp2_with (go_at_call 119; refine (Tryz.strconv_ParseInt_10_at64_ok s hsz v hp _).mono ?_; rintro e w1 ⟨rfl, hw1⟩)
      have hb1 : Below w.heap.size w w1 := by
        rcases hw1 with rfl | ⟨t, rfl⟩
        · exact Below.refl _ _
        · exact bytesWorld_below _ _ _
      refine ((decimal_ok v hv).calls (vals := [.int .i64 v]) (v := .string (decS v)) rfl rfl (hL.below hX hb1) (fun b hb => Nat.lt_of_lt_of_le (hX b hb) hb1.size)).mono ?_
      rintro e w2 ⟨rfl, hb2⟩
      go_wp2_with (go_at_call 83; refine (Tryz.strings_TrimPrefix _ _ _).mono ?_; rintro e w3 ⟨rfl, rfl⟩)
      all_goals first
        | (go_ret2; exact ⟨rfl, hb1.trans (hb2.mono hb1.size)⟩)
        | (exfalso
           have hq := ‹(tx (itoa v)).toList = s.toList›
           rw [ByteArray.toList_eq, ByteArray.toList_eq, list_tx] at hq
           exact he hq)
  | range =>
    have er : rdD s.data.toList = none := by
      unfold rdD
      rw [hp]
    rw [er]
    clear er
    obtain ⟨cs1, ⟨t1, p1, rfl⟩, hc1⟩ := cell_of_laid hL (n := "strconv.ErrRange") (q := fun cs => ∃ t p, cs = #[.iface t p]) (by simp [knownVars]) (Option.some_get (show (Tryz.prog.globalNamed "strconv.ErrRange").isSome = true by kernel_rfl)).symm
    have k1 := hc1 0 _ rfl
    clear hc1
    go_enter Tryz.func84, Tryz.ntmps84
    go_wp2_with (go_at_call 119; refine (Any.strconv_ParseInt_10_at64_range Tryz.laysC174 s (by omega) hp _ _ k1 (Or.inr ⟨_, _, rfl⟩)).mono ?_; rintro e w1 ⟨N, rfl, _, _, hw1⟩)
    go_ret2
    exact ⟨rfl, hw1⟩
  | _ =>
    have er : rdD s.data.toList = none := by
      unfold rdD
      rw [hp]
    rw [er]
    clear er
    obtain ⟨cs1, ⟨t1, p1, rfl⟩, hc1⟩ := cell_of_laid hL (n := "strconv.ErrSyntax") (q := fun cs => ∃ t p, cs = #[.iface t p]) (by simp [knownVars]) (Option.some_get (show (Tryz.prog.globalNamed "strconv.ErrSyntax").isSome = true by kernel_rfl)).symm
    have k1 := hc1 0 _ rfl
    clear hc1
    go_enter Tryz.func84, Tryz.ntmps84
    go_wp2_with (go_at_call 119; refine (Any.strconv_ParseInt_10_at64_syntax Tryz.laysC174 s (by omega) hp _ _ k1 (Or.inr ⟨_, _, rfl⟩)).mono ?_; rintro e w1 ⟨N, rfl, _, _, hw1⟩)
    go_ret2
    exact ⟨rfl, hw1⟩
/-- what ReadDecimal gives -/
def rdR : Option Int → V
  | none => .tup [I 0, B false]
  | some n => .tup [I n, B true]
theorem readX_ok (s : ByteArray) (hs : s.size ≤ 1000000) : ACalls Tryz.prog 84 [St s] [] (fun r o => r = rdR (rdD s.data.toList) ∧ o = []) := by
  refine ACalls.lib (Q := fun r => r = rdR (rdD s.data.toList)) (vals := [.string s]) ⟨_, Tryz.func84, by kernel_rfl, rfl⟩ rfl fun w X hL hX => ?_
  refine (readX_walk s hs hL hX).mono ?_
  rintro e w' ⟨rfl, hb⟩
  refine ⟨_, _, rfl, rfl, hb, fun _ _ _ => ?_⟩
  cases rdD s.data.toList with
  | none =>
    exact .tup rfl fun i hi => by
      match i, hi with
      | 0, _ => exact .d (.sc _)
      | 1, _ => exact .d (.sc _)
  | some n =>
    exact .tup rfl fun i hi => by
      match i, hi with
      | 0, _ => exact .d (.sc _)
      | 1, _ => exact .d (.sc _)
theorem allD_take {ws : List (List UInt8)} (k : Nat) (hk : k < ws.length) : ws.take (k + 1) = ws.take k ++ [ws[k]] := List.take_succ_eq_append_getElem hk
end Go.Proofs.YtjgjnedenapemaaGreatDoor

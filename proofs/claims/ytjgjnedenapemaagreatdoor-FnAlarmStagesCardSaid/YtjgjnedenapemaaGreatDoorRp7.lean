/- ReadLevel: the program's walk -/
import Derived.Test.YtjgjnedenapemaaGreatDoorRp6
import Derived.Test.YtjgjnedenapemaaGreatDoorLvR
set_option linter.unusedVariables false
set_option linter.unusedSimpArgs false
namespace Go.Proofs.YtjgjnedenapemaaGreatDoor
open Go.AG Go.Lib Go.RowKit Go.Shelf

theorem rdV_of (D : List UInt8) : ∃ b, rdV (rdD D) = .tuple #[.int .i64 ((rdD D).getD 0), .bool b] := by
  cases rdD D <;> exact ⟨_, rfl⟩
theorem trimL_len (l : List UInt8) (c : UInt8) : (trimLeftB l c).length ≤ l.length := (List.dropWhile_sublist _).length_le
theorem rlD_len (s : List UInt8) : (rlD s).length ≤ s.length := by
  have h1 := trimL_len (s.filter kp) 48
  have h2 : (s.filter kp).length ≤ s.length := List.length_filter_le _ _
  unfold rlD
  split
  · have h3 := trimL_len (trimPrefix (trimLeftB (s.filter kp) 48) [45]) 48
    have h4 : (trimPrefix (trimLeftB (s.filter kp) 48) [45]).length ≤ (trimLeftB (s.filter kp) 48).length := by
      unfold trimPrefix
      split
      · simp
      · exact Nat.le_refl _
    omega
  · omega
theorem lvCall (n : Int) {w : World} {X : Nat → Prop} (hL : Laid Tryz.prog w X) (hX : ∀ b, X b → b < w.heap.size) : Calls Tryz.prog 32 #[.int .i64 n] w fun e w' => e = .returned (.string (tx (lvT n))) ∧ Below w.heap.size w w' :=
  (lvText_ok n).calls (vals := [.int .i64 n]) (v := .string (tx (lvT n))) rfl rfl hL hX
theorem txn_ne {a b : List UInt8} (h : (!(tx a).toList == (tx b).toList) = true) : a ≠ b := by
  rintro rfl
  simp at h
theorem txn_eq {a b : List UInt8} (h : (!(tx a).toList == (tx b).toList) = false) : a = b := by
  rw [ByteArray.toList_eq, ByteArray.toList_eq, list_tx, list_tx] at h
  simpa using h
set_option maxRecDepth 100000 in
set_option maxHeartbeats 3200000 in
theorem readLv_walk (s : List UInt8) (hs : s.length < 24) {w : World} {X : Nat → Prop} (hL : Laid Tryz.prog w X) (hX : ∀ b, X b → b < w.heap.size) :
    Calls Tryz.prog 33 #[.string (tx s)] w fun e w' => e = .returned (rdV (rlO s)) ∧ Below w.heap.size w w' := by
  obtain ⟨R, hR⟩ : ∃ R, R = rdV (rlO s) := ⟨_, rfl⟩
  rw [← hR]
  have hw0 : Below w.heap.size w (w.alloc (.cells oldL.toArray 9)) := (Below.refl _ _).alloc (Nat.le_refl _) _
  have hold : Old6 w.heap.size (w.alloc (.cells oldL.toArray 9)) := Old6.of _ _ fun j hj => by
    rw [World.cell?_alloc_at _ _ _ _ rfl]; simp
  have hnew := newR_walk w.heap.size _ hold
  have hn1 : (w.alloc (.cells oldL.toArray 9)).heap.size = w.heap.size + 1 := by simp
  rw [hn1] at hnew
  unfold oldL at hnew
  go_enter Tryz.func33, Tryz.ntmps33
  go_wp2_with (go_at_fn 80)
  refine hnew.mono ?_
  rintro e w1 ⟨rfl, hb1, ⟨o0, o1, o2, o3, o4, o5⟩, cap, h0, h1, h4, h3, hf⟩
  have hb1 : Below w.heap.size w w1 := hw0.trans (hb1.mono (by omega))
  have hrep := repl_walk (w.heap.size + 1 + 1) (w.heap.size + 1) cap w1 s hs h0 h1 h4 h3 hf o0 o1 o2 o3 o4 o5 (by omega) w.heap.size (by omega)
  clear hnew h0 h1 h4 h3 hf o0 o1 o2 o3 o4 o5 hold hw0
  go_wp2_with (go_at_fn 81)
  refine hrep.mono ?_
  rintro e w2 ⟨rfl, hb2⟩
  have hb2 : Below w.heap.size w w2 := hb1.trans hb2
  clear hrep hb1
  have ht1 := Tryz.strings_TrimLeft_one (tx (s.filter kp)) 48 (by decide) w2
  go_wp2_with (go_at_fn 79)
  refine ht1.mono ?_
  rintro e w3 ⟨rfl, rfl⟩
  rw [list_tx]
  have hp1 := Tryz.strings_HasPrefix (tx s) (tx [45]) w3
  go_wp2_with (go_at_fn 82)
  refine hp1.mono ?_
  rintro e w4 ⟨rfl, rfl⟩
  rw [list_tx, list_tx]
  clear ht1 hp1
  have hX2 : ∀ b, X b → b < w4.heap.size := fun b hb => Nat.lt_of_lt_of_le (hX b hb) hb2.size
  have hL2 := hL.below hX hb2
  have hb := rlN_bd s
  obtain ⟨bb, hbb⟩ := rdV_of (rlD s)
  have hrd : ∀ w5, Below w4.heap.size w4 w5 → Calls Tryz.prog 84 #[.string (tx (rlD s))] w5 fun e w' => e = .returned (.tuple #[.int .i64 (rlN s), .bool bb]) ∧ Below w5.heap.size w5 w' := fun w5 h5 => by
    have := readX_walk (tx (rlD s)) (by rw [tx_size]; have := rlD_len s; omega) (hL2.below hX2 h5) (fun b hb => Nat.lt_of_lt_of_le (hX2 b hb) h5.size)
    rw [list_tx, hbb] at this
    exact this
  have hlt : ∀ n w5, Below w4.heap.size w4 w5 → Calls Tryz.prog 32 #[.int .i64 n] w5 fun e w' => e = .returned (.string (tx (lvT n))) ∧ Below w5.heap.size w5 w' := fun n w5 h5 =>
    lvCall n (hL2.below hX2 h5) (fun b hb => Nat.lt_of_lt_of_le (hX2 b hb) h5.size)
  clear hbb hL hX hL2 hX2 hs
  cases hpx : hasPrefix s [45] with
  | false =>
    have eD : rlD s = trimLeftB (s.filter kp) 48 := by rw [rlD, hpx]; rfl
    have eO : rlO s = if lvT (rlN s) = s then some (rlN s) else none := by unfold rlO rlS; rw [hpx]; rfl
    rw [← eD]
    rw [eO] at hR
    clear eD eO hpx
    generalize rlN s = n at *
    generalize rlD s = D at *
    have hrd := hrd w4 (Below.refl _ _)
    go_wp2_with (go_at_fn 84)
    refine hrd.mono ?_
    rintro e w5 ⟨rfl, hb5⟩
    have hlt := hlt n w5 hb5
    clear hrd
    go_wp2_with (go_at_fn 32)
    refine hlt.mono ?_
    rintro e w6 ⟨rfl, hb6⟩
    clear hlt
    go_wp2
    all_goals have hbel := hb2.trans (((hb5.mono hb2.size).trans (hb6.mono (Nat.le_trans hb2.size hb5.size))))
    · rename_i hc
      have hne : ¬ lvT n = s := txn_ne hc
      rw [if_neg hne] at hR
      go_ret2
      exact ⟨by rw [hR]; rfl, hbel⟩
    · rename_i hc
      have hne : lvT n = s := txn_eq hc
      rw [if_pos hne] at hR
      go_ret2
      exact ⟨by rw [hR]; rfl, hbel⟩
  | true =>
    have eD : rlD s = trimLeftB (trimPrefix (trimLeftB (s.filter kp) 48) [45]) 48 := by rw [rlD, hpx]; rfl
    have eO : rlO s = if lvT (-rlN s) = s then some (-rlN s) else none := by unfold rlO rlS; rw [hpx]; rfl
    have hpr := Tryz.strings_TrimPrefix (tx (trimLeftB (s.filter kp) 48)) (tx [45])
    have htl := Tryz.strings_TrimLeft_one (tx (trimPrefix (trimLeftB (s.filter kp) 48) [45])) 48 (by decide)
    rw [list_tx, list_tx] at hpr
    rw [list_tx, ← eD] at htl
    rw [eO] at hR
    clear eD eO hpx
    generalize rlN s = n at *
    generalize rlD s = D at *
    generalize trimLeftB (s.filter kp) 48 = D1 at *
    generalize trimPrefix D1 [45] = D2 at *
    have hpr := hpr w4
    go_wp2_with (go_at_fn 83)
    refine hpr.mono ?_
    rintro e w5 ⟨rfl, rfl⟩
    clear hpr
    have htl := htl w5
    go_wp2_with (go_at_fn 79)
    refine htl.mono ?_
    rintro e w6 ⟨rfl, rfl⟩
    clear htl
    have hrd := hrd w6 (Below.refl _ _)
    go_wp2_with (go_at_fn 84)
    refine hrd.mono ?_
    rintro e w5 ⟨rfl, hb5⟩
    clear hrd
    have hlt := hlt (-n) w5 hb5
    have hmul : -1 * n = -n := by omega
    go_wp2_with (go_at_fn 32)
    refine hlt.mono ?_
    rintro e w6 ⟨rfl, hb6⟩
    clear hlt
    go_wp2
    all_goals have hbel := hb2.trans (((hb5.mono hb2.size).trans (hb6.mono (Nat.le_trans hb2.size hb5.size))))
    · rename_i hc
      have hne : ¬ lvT (-n) = s := txn_ne hc
      rw [if_neg hne] at hR
      go_ret2
      exact ⟨by rw [hR]; rfl, hbel⟩
    · rename_i hc
      have hne : lvT (-n) = s := txn_eq hc
      rw [if_pos hne] at hR
      go_ret2
      exact ⟨by rw [hR]; rfl, hbel⟩
/-- ReadLevel of a short text -/
theorem readLv_ok (s : List UInt8) (hs : s.length < 24) : ACalls Tryz.prog 33 [St (tx s)] [] (fun r o => r = rdR (rlO s) ∧ o = []) := by
  refine ACalls.lib (Q := fun r => r = rdR (rlO s)) (vals := [.string (tx s)]) ⟨_, Tryz.func33, by kernel_rfl, rfl⟩ rfl fun w X hL hX => ?_
  refine (readLv_walk s hs hL hX).mono ?_
  rintro e w' ⟨rfl, hb⟩
  refine ⟨_, _, rfl, rfl, hb, fun _ _ _ => ?_⟩
  cases rlO s with
  | none =>
    exact .tup rfl fun i hi => by
      match i, hi with
      | 0, _ => exact .d (.sc _)
      | 1, _ => exact .d (.sc _)
  | some n =>
    exact .tup rfl fun i hi => by
      match i, hi with
      | 0, _ => exact .d (.sc _)
      | 1, _ => exact .d (.sc _)
end Go.Proofs.YtjgjnedenapemaaGreatDoor

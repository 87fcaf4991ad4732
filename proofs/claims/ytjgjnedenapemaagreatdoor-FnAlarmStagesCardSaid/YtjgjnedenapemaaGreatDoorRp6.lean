/- strings.Replacer: Replace; strings.Replacer: NewReplacer -/
import Derived.Test.YtjgjnedenapemaaGreatDoorRp4
set_option linter.unusedVariables false
set_option linter.unusedSimpArgs false
namespace Go.Proofs.YtjgjnedenapemaaGreatDoor
open Go Go.RowKit Go.Proofs Go.AG

set_option maxRecDepth 100000 in
set_option maxHeartbeats 3200000 in
theorem onceR (b A cap : Nat) (w : World) (h2 : w.cell? ⟨b, 4, none⟩ = some (.slice (some ⟨A, 0, none⟩) 6 cap)) (h3 : (w.cell? ⟨b, 3, none⟩).isSome = true) (f3 : w.frozen? ⟨b, 3, none⟩ = false) (f4 : w.frozen? ⟨b, 4, none⟩ = false)
    (s0 : w.cell? ⟨A, 0, none⟩ = some (.string (tx [43]))) (s1 : w.cell? ⟨A, 1, none⟩ = some (.string (tx []))) (s2 : w.cell? ⟨A, 2, none⟩ = some (.string (tx [46]))) (s3 : w.cell? ⟨A, 3, none⟩ = some (.string (tx [])))
    (s4 : w.cell? ⟨A, 4, none⟩ = some (.string (tx [109]))) (s5 : w.cell? ⟨A, 5, none⟩ = some (.string (tx []))) :
    Calls Tryz.prog 116 #[.pointer (some ⟨b, 0, none⟩)] w fun e w' => e = .returned (.tuple #[]) ∧ ∃ w1, BI w [109, 46, 43] w1 ∧
      w' = (w1.setCell ⟨b, 3, none⟩ (.iface 185 (.pointer (some ⟨w.heap.size + 1, 0, none⟩)))).setCell ⟨b, 4, none⟩ (.slice none 0 0) := by
  have lt : b < w.heap.size := World.block_lt_of_cell? w ⟨b, 4, none⟩ h2
  obtain ⟨u3, hu3⟩ := Option.isSome_iff_exists.1 h3
  go_enter Tryz.func116, Tryz.ntmps116
  go_wp2_with (go_at_call 140; refine (buildR b A cap _ h2 s0 s1 s2 s3 s4 s5).mono ?_; rintro e w1 ⟨rfl, hB⟩; have q3 := (hB.bel.cell (p := ⟨b, 3, none⟩) lt).trans hu3; have q4 := (hB.bel.cell (p := ⟨b, 4, none⟩) lt).trans h2; have g3 := (hB.bel.frozen (p := ⟨b, 3, none⟩) lt).trans f3; have g4 := (hB.bel.frozen (p := ⟨b, 4, none⟩) lt).trans f4)
  go_end0
  exact ⟨rfl, w1, hB, rfl⟩

theorem after_once (b : Nat) (w w1 w2 : World) (lt : b < w.heap.size) (h0 : w.cell? ⟨b, 0, none⟩ = some (.int .u32 0)) (h1 : w.cell? ⟨b, 1, none⟩ = some (.int .i32 0)) {v : Value} (h2 : w.cell? ⟨b, 4, none⟩ = some v) (h3 : (w.cell? ⟨b, 3, none⟩).isSome = true)
    (B : Nat) (hB : B ≤ b) (hB1 : BI (w.setCell ⟨b, 1, none⟩ (.int .i32 1)) [109, 46, 43] w1) {x : Value}
    (hw2 : w2 = ((((w1.setCell ⟨b, 3, none⟩ x).setCell ⟨b, 4, none⟩ (.slice none 0 0)).drew.setCell ⟨b, 0, none⟩ (.int .u32 1)).setCell ⟨b, 1, none⟩ (.int .i32 0))) :
    w2.cell? ⟨b, 3, none⟩ = some x ∧ BJ w.heap.size w2 ∧ Below B w w2 := by
  have hsz1 : (w.setCell ⟨b, 1, none⟩ (.int .i32 1)).heap.size = w.heap.size := by simp
  have nb : ∀ i j : Nat, i ≠ j → (⟨b, i, none⟩ : Addr) ≠ ⟨b, j, none⟩ := fun i j h e => h (Addr.mk.inj e).2.1
  have nT : ∀ i j : Nat, (⟨b, i, none⟩ : Addr) ≠ ⟨w.heap.size + 1, j, none⟩ := fun i j e => by have := (Addr.mk.inj e).1; omega
  have c3 : (w1.cell? ⟨b, 3, none⟩).isSome = true := by rw [hB1.bel.cell (by rw [hsz1]; exact lt), sc_far _ _ _ _ (nb 1 3 (by omega))]; exact h3
  refine ⟨?_, ?_, ?_⟩
  · rw [hw2, sc_far _ _ _ _ (nb 1 3 (by omega)), sc_far _ _ _ _ (nb 0 3 (by omega)), World.cell?_drew, sc_far _ _ _ _ (nb 4 3 (by omega)), sc_same _ _ _ c3]
  · have := hB1.bj (w5 := w2) (by rw [hw2]; simp) (fun i => by
      rw [hsz1, hw2, sc_far _ _ _ _ (nT 1 i), sc_far _ _ _ _ (nT 0 i), World.cell?_drew, sc_far _ _ _ _ (nT 4 i), sc_far _ _ _ _ (nT 3 i)])
    rw [hsz1] at this
    exact this
  · rw [hw2]
    have hb1 : Below B w w1 := ((Below.refl B w).setCell (p := ⟨b, 1, none⟩) hB _).trans (hB1.bel.mono (by rw [hsz1]; omega))
    exact (((hb1.setCell (p := ⟨b, 3, none⟩) hB _).setCell (p := ⟨b, 4, none⟩) hB _).drew.setCell (p := ⟨b, 0, none⟩) hB _).setCell (p := ⟨b, 1, none⟩) hB _
set_option maxRecDepth 100000 in
set_option maxHeartbeats 3200000 in
/-- Replace of a short text, by a replacer made just now -/
theorem repl_walk (b A cap : Nat) (w : World) (s : List UInt8) (hs : s.length < 24) (h0 : w.cell? ⟨b, 0, none⟩ = some (.int .u32 0)) (h1 : w.cell? ⟨b, 1, none⟩ = some (.int .i32 0))
    (h2 : w.cell? ⟨b, 4, none⟩ = some (.slice (some ⟨A, 0, none⟩) 6 cap)) (h3 : (w.cell? ⟨b, 3, none⟩).isSome = true) (hf : ∀ k, w.frozen? ⟨b, k, none⟩ = false)
    (s0 : w.cell? ⟨A, 0, none⟩ = some (.string (tx [43]))) (s1 : w.cell? ⟨A, 1, none⟩ = some (.string (tx []))) (s2 : w.cell? ⟨A, 2, none⟩ = some (.string (tx [46]))) (s3 : w.cell? ⟨A, 3, none⟩ = some (.string (tx [])))
    (s4 : w.cell? ⟨A, 4, none⟩ = some (.string (tx [109]))) (s5 : w.cell? ⟨A, 5, none⟩ = some (.string (tx []))) (hbA : b ≠ A) (B : Nat) (hB : B ≤ b) :
    Calls Tryz.prog 81 #[.pointer (some ⟨b, 0, none⟩), .string (tx s)] w fun e w' => e = .returned (.string (tx (s.filter kp))) ∧ Below B w w' := by
  have lt : b < w.heap.size := World.block_lt_of_cell? w ⟨b, 4, none⟩ h2
  have hmf : ∀ (fn : Fn) (first cap : Array Value) (w : World), (Instr.makeFunc fn first cap).run Tryz.prog w = .ok (.func fn first cap) w := fun _ _ _ _ => rfl
  have ne : ∀ i j : Nat, (⟨b, i, none⟩ : Addr) ≠ ⟨A, j, none⟩ := fun i j e => hbA (Addr.mk.inj e).1
  have nb : ∀ i j : Nat, i ≠ j → (⟨b, i, none⟩ : Addr) ≠ ⟨b, j, none⟩ := fun i j h e => h (Addr.mk.inj e).2.1
  have hon := onceR b A cap (w.setCell ⟨b, 1, none⟩ (.int .i32 1)) (by rw [sc_far _ _ _ _ (nb 1 4 (by omega))]; exact h2) (by rw [sc_far _ _ _ _ (nb 1 3 (by omega))]; exact h3) (by rw [World.frozen?_setCell]; exact hf 3) (by rw [World.frozen?_setCell]; exact hf 4)
    (by rw [sc_far _ _ _ _ (ne 1 0)]; exact s0) (by rw [sc_far _ _ _ _ (ne 1 1)]; exact s1) (by rw [sc_far _ _ _ _ (ne 1 2)]; exact s2) (by rw [sc_far _ _ _ _ (ne 1 3)]; exact s3) (by rw [sc_far _ _ _ _ (ne 1 4)]; exact s4) (by rw [sc_far _ _ _ _ (ne 1 5)]; exact s5)
  have hsz1 : (w.setCell ⟨b, 1, none⟩ (.int .i32 1)).heap.size = w.heap.size := by simp
  have hdo := doR b #[.pointer (some ⟨b, 0, none⟩)] _ w h0 h1 (hf 0) (hf 1) hon (by
    rintro w' ⟨w1, hB, rfl⟩
    have c0 : w1.cell? ⟨b, 0, none⟩ = some (.int .u32 0) := by rw [hB.bel.cell (by rw [hsz1]; exact lt), sc_far _ _ _ _ (nb 1 0 (by omega))]; exact h0
    have c1 : w1.cell? ⟨b, 1, none⟩ = some (.int .i32 1) := by rw [hB.bel.cell (by rw [hsz1]; exact lt), sc_same _ _ _ (by rw [h1]; rfl)]
    refine ⟨?_, ?_, ?_, ?_⟩
    · rw [sc_far _ _ _ _ (nb 4 0 (by omega)), sc_far _ _ _ _ (nb 3 0 (by omega))]; exact c0
    · rw [sc_far _ _ _ _ (nb 4 1 (by omega)), sc_far _ _ _ _ (nb 3 1 (by omega))]; exact c1
    · rw [World.frozen?_setCell, World.frozen?_setCell, hB.bel.frozen (by rw [hsz1]; exact lt), World.frozen?_setCell]; exact hf 0
    · rw [World.frozen?_setCell, World.frozen?_setCell, hB.bel.frozen (by rw [hsz1]; exact lt), World.frozen?_setCell]; exact hf 1)
  go_enter Tryz.func81, Tryz.ntmps81
  have hm : ∀ (p : Option Addr) (w : World), (method 376 185 (.pointer p) "Replace").run Tryz.prog w = .ok (260, .pointer p) w := fun _ _ => by kernel_rfl
  go_wp2_with (go_at_call 115; refine hdo.mono ?_; rintro e w2 ⟨rfl, w3, ⟨w1, hB1, hw3⟩, hw2⟩; rw [hsz1] at hw3; rw [hw3] at hw2; obtain ⟨q3, hJ, hbel⟩ := after_once b w w1 w2 lt h0 h1 h2 h3 B hB hB1 hw2; clear hw2 hw3 hB1)
  go_at_call 260
  refine (bsr_walk w.heap.size w2 hJ s hs).mono ?_
  rintro e w4 ⟨rfl, hb4⟩
  go_wp2
  go_ret
  exact ⟨rfl, hbel.trans (hb4.mono (by have := hbel.size; omega))⟩
end Go.Proofs.YtjgjnedenapemaaGreatDoor
namespace Go.Proofs.YtjgjnedenapemaaGreatDoor
open Go Go.RowKit Go.Proofs Go.AG

def oldL : List Value := [.string (tx [43]), .string (tx []), .string (tx [46]), .string (tx []), .string (tx [109]), .string (tx [])]
/-- the row of the six texts -/
structure Old6 (A : Nat) (w : World) : Prop where
  s0 : w.cell? ⟨A, 0, none⟩ = some (.string (tx [43]))
  s1 : w.cell? ⟨A, 1, none⟩ = some (.string (tx []))
  s2 : w.cell? ⟨A, 2, none⟩ = some (.string (tx [46]))
  s3 : w.cell? ⟨A, 3, none⟩ = some (.string (tx []))
  s4 : w.cell? ⟨A, 4, none⟩ = some (.string (tx [109]))
  s5 : w.cell? ⟨A, 5, none⟩ = some (.string (tx []))
theorem Old6.of (w' : World) (A : Nat) (hw : ∀ j, j < 6 → w'.cell? ⟨A, j, none⟩ = oldL[j]?) : Old6 A w' where
  s0 := hw 0 (by omega)
  s1 := hw 1 (by omega)
  s2 := hw 2 (by omega)
  s3 := hw 3 (by omega)
  s4 := hw 4 (by omega)
  s5 := hw 5 (by omega)
theorem newW (w : World) (z : Array Value) (c : Nat) : Below w.heap.size w ((w.alloc (.cells (#[.string (tx [43]), .string (tx []), .string (tx [46]), .string (tx []), .string (tx [109]), .string (tx [])] ++ z) 9)).alloc (.cells #[.int .u32 0, .int .i32 0, .int .u32 0, .nilIface, .slice (some ⟨w.heap.size, 0, none⟩) 6 c] 120)).drew ∧
    Old6 w.heap.size ((w.alloc (.cells (#[.string (tx [43]), .string (tx []), .string (tx [46]), .string (tx []), .string (tx [109]), .string (tx [])] ++ z) 9)).alloc (.cells #[.int .u32 0, .int .i32 0, .int .u32 0, .nilIface, .slice (some ⟨w.heap.size, 0, none⟩) 6 c] 120)).drew := by
  refine ⟨(((Below.refl _ _).alloc (Nat.le_refl _) _).alloc (by simp) _).drew, Old6.of _ _ fun j hj => ?_⟩
  rw [World.cell?_drew, World.cell?_alloc_past _ _ _ (by simp), World.cell?_alloc_at _ _ _ _ rfl, Array.getElem?_append_left (by simpa using hj)]
  simp [oldL]
set_option maxRecDepth 100000 in
set_option maxHeartbeats 3200000 in
theorem newR_walk (A : Nat) (w : World) (h : Old6 A w) :
    Calls Tryz.prog 80 #[.slice (some ⟨A, 0, none⟩) 6 6] w fun e w' => e = .returned (.pointer (some ⟨w.heap.size + 1, 0, none⟩)) ∧ Below w.heap.size w w' ∧ Old6 w.heap.size w' ∧
      ∃ cap, w'.cell? ⟨w.heap.size + 1, 0, none⟩ = some (.int .u32 0) ∧ w'.cell? ⟨w.heap.size + 1, 1, none⟩ = some (.int .i32 0) ∧ w'.cell? ⟨w.heap.size + 1, 4, none⟩ = some (.slice (some ⟨w.heap.size, 0, none⟩) 6 cap) ∧
        (w'.cell? ⟨w.heap.size + 1, 3, none⟩).isSome = true ∧ ∀ k, w'.frozen? ⟨w.heap.size + 1, k, none⟩ = false := by
  go_enter Tryz.func80, Tryz.ntmps80
  have hnc : ¬ (281474976710656 < Builtin.nextslicecap 6 0 * Tryz.t9.bytes) := by
    have hb : Tryz.t9.bytes = 16 := by kernel_rfl
    rw [hb]
    decide
  obtain ⟨s0, s1, s2, s3, s4, s5⟩ := h
  go_wp2
  go_ret
  refine ⟨rfl, ?_, ?_, ((Question.appendCap 6 0 9).cut (w.tape w.drawn (Question.appendCap 6 0 9))), ?_, ?_, ?_, ?_, fun k => ?_⟩
  · exact (newW _ _ _).1
  · exact (newW _ _ _).2
  · rw [World.cell?_drew, World.cell?_alloc_at _ _ _ _ (by simp)]; rfl
  · rw [World.cell?_drew, World.cell?_alloc_at _ _ _ _ (by simp)]; rfl
  · rw [World.cell?_drew, World.cell?_alloc_at _ _ _ _ (by simp)]; rfl
  · rw [World.cell?_drew, World.cell?_alloc_at _ _ _ _ (by simp)]; rfl
  · rw [World.frozen?_drew]; exact World.frozen?_alloc_at _ _ _ _ (by simp)
end Go.Proofs.YtjgjnedenapemaaGreatDoor

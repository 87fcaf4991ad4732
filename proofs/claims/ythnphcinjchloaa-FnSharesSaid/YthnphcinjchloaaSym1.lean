/- sort.swapRange_func, walked -/
import Derived.Test.YthnphcinjchloaaStbA
import Derived.Test.YthnphcinjchloaaSymP
set_option linter.unusedVariables false
set_option linter.unusedSimpArgs false
namespace Go.Proofs.Ythnphcinjchloaa
open Go.AG Go.Lib Go.Sort Go.Shelf Go.RowKit Go.Proofs
variable {α : Type} [Inhabited α]

set_option maxHeartbeats 2000000 in
set_option maxRecDepth 100000 in
theorem swapRange_w (enc : α → Value) (lt : α → α → Bool) (g : Nat) (lb : Array Value) (sf : Nat) (sb : Array Value) (blk off a b n : Nat) (d dk : Array α) (w0 W : World)
    (hswap : SwapSwaps Try.prog sf sb enc blk off d.size) (hH : Holds enc w0 blk off d) (hblk : blk < w0.heap.size) (hW : SW enc w0 blk off dk W) (hs : dk.size = d.size)
    (ha : a + n ≤ d.size) (hb : b + n ≤ d.size) (hsz : d.size < 4611686018427387904) :
    Calls Try.prog 186 #[.agg #[.func (.func g) #[] lb, .func (.func sf) #[] sb], .int .i64 a, .int .i64 b, .int .i64 n] W fun e w' =>
      e = .returned (.tuple #[]) ∧ SW enc w0 blk off (swR dk a b n) w' := by
  have hW1 := hW.alloc (.cells #[.func (.func g) #[] lb, .func (.func sf) #[] sb] 140)
  have hle := hW.le
  go_enter Try.func186, Try.ntmps186
  go_wp2
  have hsw := hswap
  go_loopw [8] (fun vi wr => ∃ i : Nat, vi = .int .i64 i ∧ i ≤ n ∧ SW enc w0 blk off (swR dk a b i) wr ∧ wr.cell? ⟨W.heap.size, 1, none⟩ = some (.func (.func sf) #[] sb)) (fun vi _ => n - (intOf vi).toNat)
  case atStart => exact ⟨0, rfl, by omega, hW1, by simp⟩
  case round =>
    obtain ⟨i, rfl, hin, hSW, hc1⟩ := hrel
    have c1 : ∀ q, (wr.drewN q).cell? ⟨W.heap.size, 1, none⟩ = some (.func (.func sf) #[] sb) := fun q => hc1
    by_cases hlt : i < n
    · have hh := hswap wr (swR dk a b i) (hSW.holds hblk hH (by rw [swR_size, hs])) (by rw [swR_size, hs]) (a + i) (b + i) (by omega) (by omega)
      rw [Int.natCast_add, Int.natCast_add] at hh
      go_wp2
      have hn := hSW.swap hblk (a + i) (b + i) (by rw [swR_size]; omega) (by rw [swR_size]; omega)
      refine ⟨⟨i + 1, by go_num, by omega, hn, ?_⟩, by simp [intOf]; omega⟩
      have hne : ∀ k, (⟨blk, k, none⟩ : Addr) ≠ ⟨W.heap.size, 1, none⟩ := fun k e => by
        have := congrArg Addr.block e
        simp only at this
        omega
      rw [World.cell?_setCell_other (h := hne _), World.cell?_setCell_other (h := hne _)]
      exact hc1
    · go_wp2
      go_end0
      exact ⟨rfl, by rw [show n = i by omega]; exact hSW⟩
end Go.Proofs.Ythnphcinjchloaa

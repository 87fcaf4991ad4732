/- sort.SliceStable in shareOut -/
import Derived.Test.YthnphcinjchloaaStbA
set_option linter.unusedVariables false
set_option linter.unusedSimpArgs false
namespace Go.Proofs.Ythnphcinjchloaa
open Go.AG Go.Lib Go.Sort Go.Shelf Go.RowKit

/-- a remainder, as the program makes it -/
def rmW (T S x : Int) : Int := (wrap64 (T * x)).tmod S
set_option maxHeartbeats 4000000 in
theorem shLess_walk (W : World) (bt ot bw ow bo oo bs os blk off c wb wo cw n : Nat) (T S : Int) (ws : Nat → Int) (G : Nat → Nat)
    (ht : W.cell? ⟨bt, ot, none⟩ = some (.int .i64 T)) (hw : W.cell? ⟨bw, ow, none⟩ = some (.slice (some ⟨wb, wo, none⟩) n cw))
    (ho : W.cell? ⟨bo, oo, none⟩ = some (.slice (some ⟨blk, off, none⟩) n c)) (hs : W.cell? ⟨bs, os, none⟩ = some (.int .i64 S))
    (hc : ∀ t, t < n → W.cell? ⟨blk, off + t, none⟩ = some (.int .i64 (G t : Nat))) (hg : ∀ t, t < n → G t < n)
    (hws : ∀ t, t < n → W.cell? ⟨wb, wo + t, none⟩ = some (.int .i64 (ws t)))
    (i j : Nat) (hi : i < n) (hj : j < n) (hS : 0 < S) :
    Calls Try.prog 141 #[.int .i64 i, .int .i64 j, .pointer (some ⟨bt, ot, none⟩), .pointer (some ⟨bw, ow, none⟩), .pointer (some ⟨bo, oo, none⟩), .pointer (some ⟨bs, os, none⟩)] W
      fun e w' => e = .returned (.bool (decide (rmW T S (ws (G j)) < rmW T S (ws (G i))))) ∧ ∃ q, w' = W.drewN q := by
  have ci := hc i hi
  have cj := hc j hj
  have gi := hg i hi
  have gj := hg j hj
  have wi := hws _ gi
  have wj := hws _ gj
  go_enter Try.func141, Try.ntmps141
  go_wp2
  go_quiet (fail)
  go_wp2
  go_ret
  refine ⟨?_, _, rfl⟩
  show Ending.returned (Value.bool (decide (rmW T S (ws (G j)) < rmW T S (ws (G i))))) = _
  rfl
noncomputable def shT : TypeInfo := (Try.prog.info? 144).get (by kernel_rfl)
noncomputable def shE : TypeInfo := (Try.prog.info? 3).get (by kernel_rfl)
theorem shK (n : Nat) (h2 : 2 ≤ n) : Lib.swapperK n shE 2 = 5 := by
  have a : shE.hasPointers = false := by kernel_rfl
  have b : shE.bytes = 8 := by kernel_rfl
  have c : (n == 0) = false := by simp; omega
  have d : (n == 1) = false := by simp; omega
  simp [Lib.swapperK, a, b, c, d]
theorem shK0 : Lib.swapperK 0 shE 2 = 1 := by simp [Lib.swapperK]
theorem shK1 : Lib.swapperK 1 shE 2 = 2 := by simp [Lib.swapperK]
end Go.Proofs.Ythnphcinjchloaa

/- lands: codes of two cells, and ways -/
import Derived.Test.YthgjcanhemohfaaLand3
set_option linter.unusedVariables false
set_option linter.unusedSimpArgs false
namespace Go.Proofs.Ythgjcanhemohfaa
open Go.AG

theorem fcC_0 {l : Ld} {c lv : Int} (h : fcC l c lv = 0) : okL l = true ∧ inC l c ∧ lvC lv := by
  unfold fcC at h
  split at h
  · rename_i h1
    split at h
    · rename_i h2; exact ⟨h1, h2⟩
    · cases h
  · cases h
theorem wcC_n {l : Ld} {c d lv : Int} (h : fcC l c lv ≠ 0) : wcC l c d lv = fcC l c lv := by
  unfold fcC at h
  unfold wcC fcC
  split at h
  · rename_i h1
    rw [if_pos h1, if_pos h1]
    split at h
    · exact absurd rfl h
    · rename_i h2; rw [if_neg h2, if_neg h2]
  · rename_i h1; rw [if_neg h1, if_neg h1]
theorem wcC_z {l : Ld} {c d lv : Int} (h : fcC l c lv = 0) : wcC l c d lv = if inC l d then if d = c ∨ d ∈ near l c then 6 else 0 else 2 := by
  obtain ⟨h1, h2⟩ := fcC_0 h
  unfold wcC
  rw [if_pos h1, if_pos h2]
end Go.Proofs.Ythgjcanhemohfaa

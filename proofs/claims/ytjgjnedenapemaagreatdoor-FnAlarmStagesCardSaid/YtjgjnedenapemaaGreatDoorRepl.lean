/- strings.ReplaceAll of one letter -/
import Derived.Test.YtjgjnedenapemaaGreatDoorT4
import Derived.Lib.ReplaceLaws
import Derived.Lib.SplitLaws
set_option linter.unusedVariables false
set_option linter.unusedSimpArgs false
namespace Go.Proofs.YtjgjnedenapemaaGreatDoor
open Go.AG Go.Lib Go.RowKit

theorem index_free (c : UInt8) : ∀ (a : List UInt8), c ∉ a → index a [c] = -1
  | [], _ => rfl
  | b :: l, h => by
    have hb : ¬ c = b := fun e => h (by simp [e])
    have ih := index_free c l (fun hx => h (by simp [hx]))
    unfold index
    have e : ([c].isPrefixOf (b :: l)) = false := by simp [List.isPrefixOf, hb]
    rw [e, ih]
    rfl
theorem index_at (c : UInt8) (r : List UInt8) : ∀ (a : List UInt8), c ∉ a → index (a ++ c :: r) [c] = a.length
  | [], _ => by
    unfold index
    simp [List.isPrefixOf]
  | b :: l, h => by
    have hb : ¬ c = b := fun e => h (by simp [e])
    have ih := index_at c r l (fun hx => h (by simp [hx]))
    rw [List.cons_append]
    unfold index
    have e : ([c].isPrefixOf (b :: (l ++ c :: r))) = false := by simp [List.isPrefixOf, hb]
    rw [e, ih]
    simp
theorem count_free (c : UInt8) (a : List UInt8) (h : c ∉ a) : count a [c] = 0 := count_miss (index_free c a h)
theorem count_at (c : UInt8) (a r : List UInt8) (h : c ∉ a) : count (a ++ c :: r) [c] = 1 + count r [c] := by
  rw [count_hit (by simp) (index_at c r a h)]
  simp
/-- one letter that stands once -/
theorem replaceAll_one (c d : UInt8) (hcd : c ≠ d) (a b : List UInt8) (ha : c ∉ a) (hb : c ∉ b) : replaceAll (a ++ c :: b) [c] [d] = a ++ d :: b := by
  have hc : count (a ++ c :: b) [c] = 1 := by rw [count_at c a b ha, count_free c b hb]
  unfold replaceAll replace replaceNum
  rw [if_neg (by simp [hcd]), if_pos (by simp), hc, replaceK_hit _ _ 0 _ a.length (index_at c b a ha), replaceK]
  simp
theorem replaceAll_free (c d : UInt8) (hcd : c ≠ d) (a : List UInt8) (ha : c ∉ a) : replaceAll a [c] [d] = a := by
  unfold replaceAll replace replaceNum
  rw [if_neg (by simp [hcd]), if_pos (by simp), count_free c a ha, replaceK]
theorem cell_of_laid {w : World} {X : Nat → Prop} (h : Laid Tryz.prog w X) {n : String} {q : Array Value → Prop} (hq : (n, q) ∈ knownVars) {g : Nat} (hg : Tryz.prog.globalNamed n = some g) : ∃ cs, q cs ∧ ∀ i v, cs[i]? = some v → w.cell? ⟨g, i, none⟩ = some v := by
  obtain ⟨_, cs, e, fz, h2, h3⟩ := h (n, q) hq g hg
  exact ⟨cs, h3, fun i v hv => by simp [World.cell?, h2, hv]⟩
theorem maxLen_of {w : World} {X : Nat → Prop} (h : Laid Tryz.prog w X) {g : Nat} (hg : Tryz.prog.globalNamed "internal/bytealg.MaxLen" = some g) : ∃ m, w.cell? ⟨g, 0, none⟩ = some (.int .i64 m) := by
  obtain ⟨cs, ⟨m, rfl⟩, hc⟩ := cell_of_laid h (n := "internal/bytealg.MaxLen") (q := fun cs => ∃ m, cs = #[.int .i64 m]) (by simp [knownVars]) hg
  exact ⟨m, hc 0 _ rfl⟩
theorem itoa_nomin (n : Int) (h : 0 ≤ n) : (45 : UInt8) ∉ itoa n := by
  intro hm
  unfold itoa at hm
  rw [if_neg (by omega)] at hm
  have := dig_mem _ _ hm
  simp at this
end Go.Proofs.YtjgjnedenapemaaGreatDoor

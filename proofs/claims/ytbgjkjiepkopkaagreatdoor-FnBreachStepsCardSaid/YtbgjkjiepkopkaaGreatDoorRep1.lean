/- strings.Replace of the first one of a letter -/
import Derived.Test.YtbgjkjiepkopkaaGreatDoorRepl
set_option linter.unusedVariables false
set_option linter.unusedSimpArgs false
namespace Go.Proofs.YtbgjkjiepkopkaaGreatDoor
open Go.AG Go.Lib Go.RowKit

/-- the first one of a letter is left out -/
theorem replace_one (c : UInt8) (a b : List UInt8) (ha : c ∉ a) : replace (a ++ c :: b) [c] [] 1 = a ++ b := by
  have hc : count (a ++ c :: b) [c] = 1 + count b [c] := count_at c a b ha
  unfold replace replaceNum
  rw [if_neg (by simp), hc]
  have e : (if (1 : Int) < 0 ∨ ((1 + count b [c] : Nat) : Int) < 1 then 1 + count b [c] else (1 : Int).toNat) = 1 := by
    rw [if_neg (by omega)]; rfl
  rw [e, replaceK_hit _ _ 0 _ a.length (index_at c b a ha), replaceK]
  simp
theorem repl1_ok (s o n : List UInt8) (k : Int) (ho : 1 ≤ o.length) (hs : s.length ≤ 100000) (hn : n.length ≤ 10) : ACalls Tryz.prog 25 [St (tx s), St (tx o), St (tx n), I k] [] (fun r o' => r = St (tx (replace s o n k)) ∧ o' = []) := by
  refine ACalls.lib (Q := fun r => r = St (tx (replace s o n k))) (vals := [.string (tx s), .string (tx o), .string (tx n), .int .i64 k]) ⟨_, Tryz.func25, by kernel_rfl, rfl⟩ rfl fun w X hL hX => ?_
  obtain ⟨m, hm⟩ := maxLen_of hL (by kernel_rfl)
  have h1 : (tx o).size = o.length := tx_size o
  have h2 : (tx s).size = s.length := tx_size s
  have h3 : (tx n).size = n.length := tx_size n
  have hc := countB_le (tx o) (by omega) (tx s).size (tx s) (Nat.le_refl _)
  have hmul : countB (tx s) (tx o) * (tx n).size ≤ 100000 * 10 := Nat.mul_le_mul (by omega) (by omega)
  refine (Tryz.strings_Replace (tx s) (tx o) (tx n) k m w (by omega) hm (by omega) (by omega)).mono ?_
  rintro e w' ⟨rfl, hb⟩
  exact ⟨_, _, rfl, rfl, hb, fun _ _ _ => .d (.sc _)⟩
end Go.Proofs.YtbgjkjiepkopkaaGreatDoor

/- membership as the laws ask for it -/
import Derived.Test.YtjgjnedenapemaaGreatDoorIxs
set_option linter.unusedVariables false
set_option linter.unusedSimpArgs false
namespace Go.Proofs.YtjgjnedenapemaaGreatDoor
open Go.AG

/-- membership as the law asks for it -/
theorem hasL_ok (xs : List Int) (n : Int) (hl : xs.length ≤ 10000000) : ACalls Tryz.prog 15 [iS xs, I n] [] (fun r o => r = B (decide (n ∈ xs)) ∧ o = []) := by
  refine ACalls.of_vc Tryz.func15 rfl (by decide) 18 rfl [.tmp 4] rfl (by simp) ?_
  unfold iS
  (repeat (first | simp (maxSteps := 2000000) (disch := omega) only [go_sem, ↓reduceIte] | with_reducible refine vIf_t ?_ | with_reducible refine vIf_f ?_))
  refine vcLoop_inv (fun k : Nat => k ≤ xs.length ∧ ¬ n ∈ xs.take k) (fun k => ⟨18, 0, [(5, I k), (0, .sl xs.length (ints xs)), (1, I n)], []⟩) (fun k => xs.length - k) 0 ⟨by omega, by simp⟩ (by (repeat (first | simp (maxSteps := 2000000) (disch := omega) only [go_sem, ↓reduceIte] | with_reducible refine vIf_t ?_ | with_reducible refine vIf_f ?_))) ?_
  intro k ⟨hk, hn⟩
  (repeat (first | simp (maxSteps := 2000000) (disch := omega) only [go_sem, ↓reduceIte] | with_reducible refine vIf_t ?_ | with_reducible refine vIf_f ?_))
  refine vIf_dec (fun hc => ?_) (fun hc => ?_)
  · have hkl : k < xs.length := by omega
    (repeat (first | simp (maxSteps := 2000000) (disch := omega) only [go_sem, ↓reduceIte] | with_reducible refine vIf_t ?_ | with_reducible refine vIf_f ?_))
    refine vIf_beq (fun h => ?_) (fun h => ?_)
    · have hm : n ∈ xs := by rw [← h]; exact gi_mem xs k hkl
      (repeat (first | simp (maxSteps := 2000000) (disch := omega) only [go_sem, ↓reduceIte] | with_reducible refine vIf_t ?_ | with_reducible refine vIf_f ?_))
      (refine retK_of ?_; (repeat (first | simp (maxSteps := 2000000) (disch := omega) only [go_sem, ↓reduceIte] | with_reducible refine vIf_t ?_ | with_reducible refine vIf_f ?_)))
      all_goals rw [decide_eq_true hm]
    · (repeat (first | simp (maxSteps := 2000000) (disch := omega) only [go_sem, ↓reduceIte] | with_reducible refine vIf_t ?_ | with_reducible refine vIf_f ?_))
      refine again (k + 1) ⟨by omega, ?_⟩ (by omega) ?_
      · rw [take_succ_gi xs k hkl]
        simp only [List.mem_append, List.mem_singleton, not_or]
        exact ⟨hn, fun e => h e.symm⟩
      · (repeat (first | simp (maxSteps := 2000000) (disch := omega) only [go_sem, ↓reduceIte] | with_reducible refine vIf_t ?_ | with_reducible refine vIf_f ?_))
  · have e : k = xs.length := by omega
    subst e
    rw [List.take_length] at hn
    (repeat (first | simp (maxSteps := 2000000) (disch := omega) only [go_sem, ↓reduceIte] | with_reducible refine vIf_t ?_ | with_reducible refine vIf_f ?_))
    (refine retK_of ?_; (repeat (first | simp (maxSteps := 2000000) (disch := omega) only [go_sem, ↓reduceIte] | with_reducible refine vIf_t ?_ | with_reducible refine vIf_f ?_)))
    all_goals rw [decide_eq_false hn]
theorem mem_ixs (n : Nat) (q : Nat → Bool) (k : Nat) (hk : k < n) : decide ((k : Int) ∈ ixs n q) = q k := by
  have : ((k : Int) ∈ ixs n q) ↔ q k = true := by
    simp only [ixs, List.mem_map, List.mem_filter, List.mem_range]
    refine ⟨fun ⟨a, ⟨_, h2⟩, h3⟩ => ?_, fun h => ⟨k, ⟨hk, h⟩, rfl⟩⟩
    rwa [show a = k by omega] at h2
  cases hq : q k with
  | true => exact decide_eq_true (this.2 hq)
  | false => exact decide_eq_false fun h => by rw [this.1 h] at hq; exact absurd hq (by simp)
end Go.Proofs.YtjgjnedenapemaaGreatDoor

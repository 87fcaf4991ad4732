/- the helpers of the other family of laws -/
import Derived.Test.YtjgjnedenapemaaGreatDoorAgT
import Derived.Test.YtjgjnedenapemaaGreatDoorAgZ
import Derived.Test.YtjgjnedenapemaaGreatDoorSrc2
set_option linter.unusedVariables false
set_option linter.unusedSimpArgs false
namespace Go.Proofs.YtjgjnedenapemaaGreatDoor
open Go.AG

theorem a2Long_ok (a b : List Int) (ha : a.length ≤ 9223372036854775807) (hb : b.length ≤ 9223372036854775807) : ACalls Tryz.prog 5 [bS a, bS b] [] (fun r o => r = B (decide (3000 < (a.length : Int)) || decide (3000 < (b.length : Int))) ∧ o = []) := by
  refine ACalls.of_vc Tryz.func5 rfl (by decide) 13 rfl [.tmp 4] rfl (by simp) ?_
  unfold bS
  (repeat (first | simp (maxSteps := 2000000) (disch := omega) only [go_sem, ↓reduceIte] | with_reducible refine vIf_t ?_ | with_reducible refine vIf_f ?_))
  cases h : decide (3000 < (a.length : Int)) with
  | true =>
    (try (repeat (first | simp (maxSteps := 2000000) (disch := omega) only [go_sem, ↓reduceIte, h] | with_reducible refine vIf_t ?_ | with_reducible refine vIf_f ?_)))
    (refine retK_of ?_; (repeat (first | simp (maxSteps := 2000000) (disch := omega) only [go_sem, ↓reduceIte] | with_reducible refine vIf_t ?_ | with_reducible refine vIf_f ?_)))
    try simp
  | false =>
    (try (repeat (first | simp (maxSteps := 2000000) (disch := omega) only [go_sem, ↓reduceIte, h] | with_reducible refine vIf_t ?_ | with_reducible refine vIf_f ?_)))
    (refine retK_of ?_; (repeat (first | simp (maxSteps := 2000000) (disch := omega) only [go_sem, ↓reduceIte] | with_reducible refine vIf_t ?_ | with_reducible refine vIf_f ?_)))
    try simp
/-- what a2At gives -/
def atV (code : List Int) (i n : Int) : Int := if (code.length : Int) ≤ i then 0 else (gi code i.toNat).tmod n
theorem atV_bd (code : List Int) (i n : Int) (hb : bOk code) (hi : 0 ≤ i) (hn : 1 ≤ n) : 0 ≤ atV code i n ∧ atV code i n < n := by
  unfold atV
  split
  · omega
  · have hg := hb i.toNat (by omega)
    exact ⟨Int.tmod_nonneg n (by omega), Int.tmod_lt_of_pos _ (by omega)⟩
theorem a2At_ok (code : List Int) (i n : Int) (hb : bOk code) (hl : code.length ≤ 10000) (hi : 0 ≤ i ∧ i ≤ 10000) (hn : 1 ≤ n ∧ n ≤ 1000) : ACalls Tryz.prog 8 [bS code, I i, I n] [] (fun r o => r = I (atV code i n) ∧ o = []) := by
  refine ACalls.of_vc Tryz.func8 rfl (by decide) 22 rfl [.tmp 6] rfl (by simp) ?_
  unfold bS atV
  by_cases h : (code.length : Int) ≤ i
  · have hd : decide ((code.length : Int) ≤ i) = true := decide_eq_true (by omega)
    rw [if_pos h]
    (repeat (first | simp (maxSteps := 2000000) (disch := omega) only [go_sem, ↓reduceIte, hd] | with_reducible refine vIf_t ?_ | with_reducible refine vIf_f ?_))
    (refine retK_of ?_; (repeat (first | simp (maxSteps := 2000000) (disch := omega) only [go_sem, ↓reduceIte] | with_reducible refine vIf_t ?_ | with_reducible refine vIf_f ?_)))
  · have hd : decide ((code.length : Int) ≤ i) = false := decide_eq_false (by omega)
    have hlt : i.toNat < code.length := by omega
    have hg := hb i.toNat hlt
    have hwr : IntKind.wrap .i64 (gi code i.toNat) = gi code i.toNat := wrap_i64_id _ (by omega)
    have e1 := Int.tmod_nonneg n (a := gi code i.toNat) (by omega)
    have e2 := Int.tmod_lt_of_pos (gi code i.toNat) (b := n) (by omega)
    rw [if_neg h]
    (repeat (first | simp (maxSteps := 2000000) (disch := omega) only [go_sem, ↓reduceIte, hd] | with_reducible refine vIf_t ?_ | with_reducible refine vIf_f ?_))
    (refine retK_of ?_; (repeat (first | simp (maxSteps := 2000000) (disch := omega) only [go_sem, ↓reduceIte] | with_reducible refine vIf_t ?_ | with_reducible refine vIf_f ?_)))
    try rw [hwr]
theorem a2At_e (code : List Int) (i n : Int) (hb : bOk code) (hl : code.length ≤ 10000) (hi : 0 ≤ i ∧ i ≤ 10000) (hn : 1 ≤ n ∧ n ≤ 1000) : ACalls Tryz.prog 8 [bS code, I i, I n] [] (fun r o => ∃ v : Int, r = I v ∧ o = [] ∧ 0 ≤ v ∧ v < n) :=
  (a2At_ok code i n hb hl hi hn).mono fun r o ⟨h1, h2⟩ => ⟨_, h1, h2, atV_bd code i n hb hi.1 hn.1⟩
end Go.Proofs.YtjgjnedenapemaaGreatDoor

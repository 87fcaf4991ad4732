/- the places at which something is so -/
import Derived.Test.YtjgjnedenapemaaGreatDoorAgT
import Derived.Test.YtjgjnedenapemaaGreatDoorAgZ
set_option linter.unusedVariables false
set_option linter.unusedSimpArgs false
namespace Go.Proofs.YtjgjnedenapemaaGreatDoor
open Go.AG

/-- the places at which something is so -/
def ixs (n : Nat) (q : Nat → Bool) : List Int := ((List.range n).filter q).map fun (i : Nat) => (i : Int)
theorem ixs_zero (q : Nat → Bool) : ixs 0 q = [] := rfl
theorem ixs_yes {n : Nat} {q : Nat → Bool} (h : q n = true) : ixs (n + 1) q = ixs n q ++ [(n : Int)] := by simp [ixs, List.range_succ, h]
theorem ixs_no {n : Nat} {q : Nat → Bool} (h : q n = false) : ixs (n + 1) q = ixs n q := by simp [ixs, List.range_succ, h]
theorem ixs_len (n : Nat) (q : Nat → Bool) : (ixs n q).length ≤ n := by
  simp only [ixs, List.length_map]; exact Nat.le_trans (List.length_filter_le _ _) (by simp)

theorem ixw_ok (n : Nat) (f : FuncId) (caps : List V) (q : Nat → Bool) (hf : ∀ i, i < n → ACalls Tryz.prog f (I (i : Int) :: caps) [] (fun r o => r = B (q i) ∧ o = [])) (hc : V.norefL caps = true) (hn : n ≤ 10000000) :
    ACalls Tryz.prog 50 [I n, .fn f caps] [] (fun r o => r = .ref 0 0 (ixs n q).length ∧ o = [oI (ixs n q)]) := by
  refine ACalls.of_vc Tryz.func50 rfl (by decide) 21 rfl [.tmp 4] rfl (by simp) ?_
  (repeat (first | simp (maxSteps := 2000000) (disch := omega) only [go_sem, ↓reduceIte] | with_reducible refine vIf_t ?_ | with_reducible refine vIf_f ?_))
  refine vcLoop_inv (fun k : Nat => k ≤ n) (fun k => ⟨21, 0, [(6, I k), (0, I n), (1, .fn f caps), (5, .ref 0 0 (ixs k q).length)], [oI (ixs k q)]⟩) (fun k => n - k) 0 (by omega) (by (repeat (first | simp (maxSteps := 2000000) (disch := omega) only [go_sem, ↓reduceIte, killL_noref _ _ hc, ixs_zero] | with_reducible refine vIf_t ?_ | with_reducible refine vIf_f ?_)); all_goals (try simp)) ?_
  intro k hk
  have hl := ixs_len k q
  unfold oI
  (repeat (first | simp (maxSteps := 2000000) (disch := omega) only [go_sem, ↓reduceIte] | with_reducible refine vIf_t ?_ | with_reducible refine vIf_f ?_))
  refine vIf_dec (fun h => ?_) (fun h => ?_)
  · (repeat (first | simp (maxSteps := 2000000) (disch := omega) only [go_sem, ↓reduceIte] | with_reducible refine vIf_t ?_ | with_reducible refine vIf_f ?_))
    refine vCallX_of ?_
    (repeat (first | simp (maxSteps := 2000000) (disch := omega) only [go_sem, ↓reduceIte] | with_reducible refine vIf_t ?_ | with_reducible refine vIf_f ?_))
    refine vCall_eq (hf k (by omega)) (by (repeat (first | simp (maxSteps := 2000000) (disch := omega) only [go_sem, ↓reduceIte, frzL_noref _ _ hc] | with_reducible refine vIf_t ?_ | with_reducible refine vIf_f ?_))) (by (repeat (first | simp (maxSteps := 2000000) (disch := omega) only [go_sem, ↓reduceIte, hc] | with_reducible refine vIf_t ?_ | with_reducible refine vIf_f ?_))) (Or.inl (by (repeat (first | simp (maxSteps := 2000000) (disch := omega) only [go_sem, ↓reduceIte, hc] | with_reducible refine vIf_t ?_ | with_reducible refine vIf_f ?_)))) ?_
    (repeat (first | simp (maxSteps := 2000000) (disch := omega) only [go_sem, ↓reduceIte] | with_reducible refine vIf_t ?_ | with_reducible refine vIf_f ?_))
    refine vIf_bool (fun h3 => ?_) (fun h3 => ?_)
    · (repeat (first | simp (maxSteps := 2000000) (disch := omega) only [go_sem, ↓reduceIte, killL_noref _ _ hc] | with_reducible refine vIf_t ?_ | with_reducible refine vIf_f ?_))
      refine again (k + 1) (by omega) (by omega) ?_
      (repeat (first | simp (maxSteps := 2000000) (disch := omega) only [go_sem, ↓reduceIte, killL_noref _ _ hc, ixs_yes h3] | with_reducible refine vIf_t ?_ | with_reducible refine vIf_f ?_))
    · (repeat (first | simp (maxSteps := 2000000) (disch := omega) only [go_sem, ↓reduceIte] | with_reducible refine vIf_t ?_ | with_reducible refine vIf_f ?_))
      refine again (k + 1) (by omega) (by omega) ?_
      (repeat (first | simp (maxSteps := 2000000) (disch := omega) only [go_sem, ↓reduceIte, killL_noref _ _ hc, ixs_no h3] | with_reducible refine vIf_t ?_ | with_reducible refine vIf_f ?_))
  · (repeat (first | simp (maxSteps := 2000000) (disch := omega) only [go_sem, ↓reduceIte] | with_reducible refine vIf_t ?_ | with_reducible refine vIf_f ?_))
    (refine retK_of ?_; (repeat (first | simp (maxSteps := 2000000) (disch := omega) only [go_sem, ↓reduceIte] | with_reducible refine vIf_t ?_ | with_reducible refine vIf_f ?_)))
    rw [show k = n by omega]
    exact ⟨rfl, rfl⟩

end Go.Proofs.YtjgjnedenapemaaGreatDoor

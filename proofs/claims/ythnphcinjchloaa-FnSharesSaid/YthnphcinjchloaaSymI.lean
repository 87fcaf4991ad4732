/- the insertion sort is stable: plain -/
import Derived.Test.YthnphcinjchloaaSymP
import Derived.Sort.LotA
set_option linter.unusedVariables false
set_option linter.unusedSimpArgs false
namespace Go.Proofs.Ythnphcinjchloaa
open Go.Lib Go.Sort
variable {α : Type} [Inhabited α]

theorem insInner_eq (lt l2 : α → α → Bool) (a : Nat) : ∀ (j : Nat) (d : Array α), j < d.size → (∀ p, a ≤ p → p < j → lt d[j]! d[p]! = l2 d[j]! d[p]!) → insInner lt a j d = insInner l2 a j d
  | 0, d, _, _ => rfl
  | j + 1, d, hj, h => by
    unfold insInner
    by_cases c : j + 1 > a
    · rw [h j (by omega) (by omega)]
      split
      · refine insInner_eq lt l2 a j _ (by rw [size_swp]; omega) fun p h1 h2 => ?_
        rw [swp_right _ _ _ (by omega), swp_other _ _ _ _ (by omega) (by omega)]
        exact h p h1 (by omega)
      · rfl
    · have : decide (j + 1 > a) = false := decide_eq_false c
      simp only [this, Bool.false_and]
      rfl
theorem insInner_perm (lt : α → α → Bool) (a b : Nat) : ∀ (j : Nat) (d : Array α), a ≤ j → j < b → b ≤ d.size → PermIn a b d (insInner lt a j d)
  | 0, d, _, _, _ => permIn_refl _ _ _
  | j + 1, d, h1, h2, h3 => by
    unfold insInner
    split
    · rename_i hc
      simp only [Bool.and_eq_true, decide_eq_true_eq] at hc
      exact permIn_trans _ _ _ _ _ (swp_permIn d a b (j + 1) j h1 (by omega) (by omega) (by omega) h3) (insInner_perm lt a b j _ (by omega) (by omega) (by rw [size_swp]; exact h3))
    · exact permIn_refl _ _ _
/-- where lt tells a later element from an earlier one as l2 does, the insertion sorts are one -/
theorem insOuter_eq (lt l2 : α → α → Bool) (a b : Nat) (d0 : Array α) (h0 : ∀ i j, a ≤ i → i < j → j < b → lt d0[j]! d0[i]! = l2 d0[j]! d0[i]!) (hb : b ≤ d0.size) : ∀ (n i : Nat) (d : Array α), b - i = n → a < i → PermIn a i d0 d → insOuter lt a b i d = insOuter l2 a b i d
  | 0, i, d, hn, _, _ => by
    rw [insOuter.eq_def lt, insOuter.eq_def l2, if_neg (by omega), if_neg (by omega)]
  | n + 1, i, d, hn, ha, hp => by
    have hlt : i < b := by omega
    rw [insOuter.eq_def lt, insOuter.eq_def l2, if_pos hlt, if_pos hlt]
    have hsz := hp.1
    have e : insInner lt a i d = insInner l2 a i d := insInner_eq lt l2 a i d (by omega) fun p h1 h2 => by
      have ei : d[i]! = d0[i]! := hp.2.1 i (.inr (Nat.le_refl _))
      rw [ei]
      exact permIn_all d0 d a i (fun x => lt d0[i]! x = l2 d0[i]! x) (by omega) hp (fun q q1 q2 => h0 q i q1 q2 hlt) p h1 h2
    rw [e]
    refine insOuter_eq lt l2 a b d0 h0 hb n (i + 1) _ (by omega) (by omega) ?_
    exact permIn_trans _ _ _ _ _ (permIn_mono _ _ a i a (i + 1) (Nat.le_refl _) (by omega) (by omega) hp) (insInner_perm l2 a (i + 1) i d (by omega) (by omega) (by omega))
theorem insSort_eq (lt l2 : α → α → Bool) (a b : Nat) (d0 : Array α) (hab : a < b) (hb : b ≤ d0.size) (h0 : ∀ i j, a ≤ i → i < j → j < b → lt d0[j]! d0[i]! = l2 d0[j]! d0[i]!) : insertionSort lt d0 a b = insertionSort l2 d0 a b :=
  insOuter_eq lt l2 a b d0 h0 hb _ _ _ rfl (by omega) (permIn_refl _ _ _)
end Go.Proofs.Ythnphcinjchloaa

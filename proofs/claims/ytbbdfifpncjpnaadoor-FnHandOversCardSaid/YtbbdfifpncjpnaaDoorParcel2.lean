/- parcels: what is valid -/
import Derived.Test.YtbbdfifpncjpnaaDoorParcel
import Derived.Test.YtbbdfifpncjpnaaDoorX3
set_option linter.unusedVariables false
set_option linter.unusedSimpArgs false
namespace Go.Proofs.YtbbdfifpncjpnaaDoor
open Go.AG

def pcB (p : Pc) : Bool := decide (1 ≤ p.id ∧ p.id ≤ 9999) && (decide (0 ≤ p.owner ∧ p.owner ≤ 39) && (decide (1 ≤ p.area ∧ p.area ≤ 10000000) && decide (0 ≤ p.cls ∧ p.cls ≤ 3)))
theorem isOwner_ok (n : Int) : ACalls Tryd.prog 33 [I n] [] (fun r o => r = B (decide (0 ≤ n ∧ n ≤ 39)) ∧ o = []) := by
  refine ACalls.of_vc Tryd.func33 rfl (by decide) 5 rfl [.tmp 2] rfl (by simp) ?_
  (repeat (first | simp (maxSteps := 2000000) (disch := omega) only [go_sem, ↓reduceIte, Nat.reduceEqDiff, Nat.reduceAdd, Nat.reduceMul, Nat.reduceSub, Int.reduceToNat, Int.reduceAdd, Int.reduceSub, Int.reduceMul, Int.reduceNeg] | with_reducible refine vIf_t ?_ | with_reducible refine vIf_f ?_))
  (refine vCallX_of ?_; (repeat (first | simp (maxSteps := 2000000) (disch := omega) only [go_sem, ↓reduceIte, Nat.reduceEqDiff, Nat.reduceAdd, Nat.reduceMul, Nat.reduceSub, Int.reduceToNat, Int.reduceAdd, Int.reduceSub, Int.reduceMul, Int.reduceNeg] | with_reducible refine vIf_t ?_ | with_reducible refine vIf_f ?_)); refine vCall_eq (in_ok n 0 39) (by simp (disch := omega) only [go_sem, Nat.reduceAdd]) rfl (by first | exact Or.inl rfl | exact Or.inr ⟨rfl, rfl⟩ | (apply Or.inr; simp only [go_sem])) ?_; (repeat (first | simp (maxSteps := 2000000) (disch := omega) only [go_sem, ↓reduceIte, Nat.reduceEqDiff, Nat.reduceAdd, Nat.reduceMul, Nat.reduceSub, Int.reduceToNat, Int.reduceAdd, Int.reduceSub, Int.reduceMul, Int.reduceNeg] | with_reducible refine vIf_t ?_ | with_reducible refine vIf_f ?_)))
  (refine retK_of ?_; (repeat (first | simp (maxSteps := 2000000) (disch := omega) only [go_sem, ↓reduceIte, Nat.reduceEqDiff, Nat.reduceAdd, Nat.reduceMul, Nat.reduceSub, Int.reduceToNat, Int.reduceAdd, Int.reduceSub, Int.reduceMul, Int.reduceNeg] | with_reducible refine vIf_t ?_ | with_reducible refine vIf_f ?_)))
theorem allPc_snoc (q : Pc → Bool) (xs : List Pc) (k : Nat) (h : k < xs.length) (he : (xs.take k).all q = true) (hq : q (gPc xs k) = true) : (xs.take (k + 1)).all q = true := by
  rw [gPc_take_succ xs k h, List.all_append, he]; simp [hq]
theorem allPc_no (q : Pc → Bool) (xs : List Pc) (k : Nat) (h : k < xs.length) (hq : q (gPc xs k) = false) : xs.all q = false := by
  rw [List.all_eq_false]
  exact ⟨gPc xs k, gPc_mem xs k h, by simp [hq]⟩
def prB (ds : List Pc) (k : Nat) : Bool := decide (∀ j, j < k → 0 < j → (gPc ds (j - 1)).id < (gPc ds j).id)
def okP (ds : List Pc) : Bool := prB ds ds.length && (decide (ds.length ≤ 60) && ds.all pcB)
theorem prB_succ (ds : List Pc) (k : Nat) : prB ds (k + 1) = (prB ds k && decide (0 < k → (gPc ds (k - 1)).id < (gPc ds k).id)) := by
  unfold prB
  rw [← Bool.decide_and]
  apply decide_eq_decide.2
  constructor
  · intro h; exact ⟨fun j h1 h0 => h j (by omega) h0, fun h0 => h k (by omega) h0⟩
  · rintro ⟨h1, h2⟩ j hj h0
    by_cases e : j = k
    · subst e; exact h2 h0
    · exact h1 j (by omega) h0
theorem prB_mono {ds : List Pc} {k m : Nat} (h : prB ds m = true) (hk : k ≤ m) : prB ds k = true :=
  decide_eq_true fun j hj h0 => of_decide_eq_true h j (by omega) h0
end Go.Proofs.YtbbdfifpncjpnaaDoor

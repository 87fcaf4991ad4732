/- the subsets: the plain law (no program in sight) -/
import Derived.Test.YtpjjjonplikilaaX5
set_option linter.unusedVariables false
set_option linter.unusedSimpArgs false
namespace Go.Proofs.Ytpjjjonplikilaa
open Go.AG

/-- where the sets that grow out of one begin -/
def sfrom (s : List Nat) : Nat := match s.getLast? with
  | some x => x + 1
  | none => 0
/-- the queue after its first k sets have grown -/
def subs (n : Nat) : Nat → List (List Nat)
  | 0 => [[]]
  | k + 1 => let q := subs n k
    q ++ ((List.range (n - sfrom (q.getD k []))).map fun d => q.getD k [] ++ [sfrom (q.getD k []) + d])
/-- the sets by their masks -/
def maskS (n m : Nat) : List Nat := (List.range n).filter fun i => (m >>> i) % 2 == 1
def okSubs (n : Nat) : Bool := (List.range (2 ^ n)).all (fun k => Nat.blt k (subs n k).length && Nat.ble (sfrom ((subs n k).getD k [])) n && Nat.ble ((subs n k).getD k []).length 8 && Nat.ble (subs n k).length 256) && Nat.beq (subs n (2 ^ n)).length (2 ^ n)
def permSubs (n : Nat) : Bool := (subs n (2 ^ n)).isPerm ((List.range (2 ^ n)).map (maskS n))
theorem subs_all : ((List.range 9).all fun n => okSubs n && permSubs n) = true := by kernel_rfl
theorem subs_ok (n : Nat) (h : n ≤ 8) : (∀ k, k < 2 ^ n → k < (subs n k).length ∧ sfrom ((subs n k).getD k []) ≤ n ∧ ((subs n k).getD k []).length ≤ 8 ∧ (subs n k).length ≤ 256) ∧ (subs n (2 ^ n)).length = 2 ^ n ∧ List.Perm (subs n (2 ^ n)) ((List.range (2 ^ n)).map (maskS n)) := by
  have h1 := List.all_eq_true.1 subs_all n (List.mem_range.2 (by omega))
  simp only [Bool.and_eq_true, okSubs, permSubs] at h1
  obtain ⟨⟨h2, h3⟩, h4⟩ := h1
  refine ⟨fun k hk => ?_, Nat.eq_of_beq_eq_true h3, List.isPerm_iff.1 h4⟩
  have := List.all_eq_true.1 h2 k (List.mem_range.2 hk)
  simp only [Bool.and_eq_true, Nat.blt_eq, Nat.ble_eq] at this
  exact ⟨this.1.1.1, this.1.1.2, this.1.2, this.2⟩
end Go.Proofs.Ytpjjjonplikilaa

/- tenders: the strange bids -/
import Derived.Test.YtbbdfifpncjpnaaGreatDoorTender3
import Derived.Test.YtbbdfifpncjpnaaGreatDoorIxs
set_option linter.unusedVariables false
set_option linter.unusedSimpArgs false
namespace Go.Proofs.YtbbdfifpncjpnaaGreatDoor
open Go.AG

theorem okT_bid {t : Td} (h : okT t = true) (i : Nat) (hi : i < t.bids.length) : okB t i = true := by
  simp only [okT, Bool.and_eq_true] at h
  exact allB_get h.2 i hi
theorem okT_b {t : Td} (h : okT t = true) (i : Nat) (hi : i < t.bids.length) : (0 ≤ (gBd t.bids i).who ∧ (gBd t.bids i).who ≤ t.most.length - 1) ∧ (0 ≤ (gBd t.bids i).lot ∧ (gBd t.bids i).lot ≤ t.lots - 1) ∧ (1 ≤ (gBd t.bids i).off ∧ (gBd t.bids i).off ≤ 1000000) := by
  have := okT_bid h i hi
  simp only [okB, bidB, Bool.and_eq_true, decide_eq_true_eq] at this
  omega
theorem okT_t {t : Td} (h : okT t = true) : (1 ≤ t.lots ∧ t.lots ≤ 8) ∧ (1 ≤ (t.most.length : Int) ∧ (t.most.length : Int) ≤ 6) ∧ ∀ i, i < t.most.length → 0 ≤ gi t.most i ∧ gi t.most i ≤ 8 := by
  simp only [okT, Bool.and_eq_true, decide_eq_true_eq, List.all_eq_true] at h
  exact ⟨h.1.1.1, h.1.1.2, fun i hi => h.1.2 _ (gi_mem _ i hi)⟩
def bestOf (t : Td) (i : Nat) : Int := bst t.bids (gBd t.bids i).lot (-1) t.bids.length
theorem bestOf_bd (t : Td) (i : Nat) (hi : i < t.bids.length) : 0 ≤ bestOf t i ∧ bestOf t i < t.bids.length := by
  have h1 := bst_lt t.bids (gBd t.bids i).lot (-1) t.bids.length
  have h2 := bst_mono (bs := t.bids) (lot := (gBd t.bids i).lot) (wo := -1) (i := i) rfl (by omega) t.bids.length hi
  exact ⟨h2, h1.2⟩
/-- a bid is much greater than the best one -/
def strB (t : Td) (p : Int) (i : Nat) : Bool := decide (IntKind.wrap .i64 ((100 + p) * (gBd t.bids (bestOf t i).toNat).off) < 100 * (gBd t.bids i).off)

def stC (t : Td) (p : Int) : Int := if okT t = true then if 0 ≤ p ∧ p ≤ 1000 then 0 else 2 else 1
def stR (t : Td) (p : Int) : List Int := if stC t p = 0 then ixs t.bids.length (strB t p) else []
theorem stR_len (t : Td) (p : Int) : (stR t p).length ≤ t.bids.length := by
  unfold stR; split
  · exact ixs_len _ _
  · simp
theorem stC_1 {t : Td} {p : Int} (h : okT t = false) : stC t p = 1 ∧ stR t p = [] := by
  have : stC t p = 1 := by unfold stC; rw [if_neg (by simp [h])]
  exact ⟨this, by unfold stR; rw [this]; rfl⟩
theorem stC_2 {t : Td} {p : Int} (h : okT t = true) (h2 : ¬ (0 ≤ p ∧ p ≤ 1000)) : stC t p = 2 ∧ stR t p = [] := by
  have : stC t p = 2 := by unfold stC; rw [if_pos h, if_neg h2]
  exact ⟨this, by unfold stR; rw [this]; rfl⟩
theorem stC_0 {t : Td} {p : Int} (h : okT t = true) (h2 : 0 ≤ p ∧ p ≤ 1000) : stC t p = 0 ∧ stR t p = ixs t.bids.length (strB t p) := by
  have : stC t p = 0 := by unfold stC; rw [if_pos h, if_pos h2]
  exact ⟨this, by unfold stR; rw [this]; rfl⟩
end Go.Proofs.YtbbdfifpncjpnaaGreatDoor

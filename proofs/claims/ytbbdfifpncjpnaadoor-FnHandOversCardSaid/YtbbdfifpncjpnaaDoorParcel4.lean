/- parcels: areas of owners and classes -/
import Derived.Test.YtbbdfifpncjpnaaDoorParcel3
set_option linter.unusedVariables false
set_option linter.unusedSimpArgs false
namespace Go.Proofs.YtbbdfifpncjpnaaDoor
open Go.AG

theorem okP_all {ds : List Pc} (h : okP ds = true) : ds.length ≤ 60 ∧ (∀ p ∈ ds, (1 ≤ p.id ∧ p.id ≤ 9999) ∧ (0 ≤ p.owner ∧ p.owner ≤ 39) ∧ (1 ≤ p.area ∧ p.area ≤ 10000000) ∧ (0 ≤ p.cls ∧ p.cls ≤ 3)) ∧
    ∀ j, j < ds.length → 0 < j → (gPc ds (j - 1)).id < (gPc ds j).id := by
  simp only [okP, Bool.and_eq_true, decide_eq_true_eq, List.all_eq_true] at h
  refine ⟨h.2.1, fun p hp => ?_, of_decide_eq_true h.1⟩
  have := h.2.2 p hp
  simp only [pcB, Bool.and_eq_true, decide_eq_true_eq] at this
  omega
theorem okP_id {ds : List Pc} (h : okP ds = true) : ∀ i j, i < j → j < ds.length → (gPc ds i).id < (gPc ds j).id := by
  obtain ⟨_, _, h3⟩ := okP_all h
  intro i j hij
  induction j with
  | zero => omega
  | succ j ih =>
    intro hj
    have h4 := h3 (j + 1) hj (by omega)
    simp only [Nat.add_sub_cancel] at h4
    by_cases e : i = j
    · subst e; exact h4
    · have := ih (by omega) (by omega); omega
def arO (ds : List Pc) : List Int := acc Pc.owner Pc.area 40 ds
def arC (ds : List Pc) : List Int := acc Pc.cls Pc.area 4 ds
theorem acc_take {α : Type} (key val : α → Int) (n : Nat) (ds : List α) (k : Nat) (h : k < ds.length) : acc key val n (ds.take (k + 1)) = (acc key val n (ds.take k)).set (key ds[k]).toNat (IntKind.wrap .i64 (gi (acc key val n (ds.take k)) (key ds[k]).toNat + val ds[k])) := by
  rw [List.take_succ_eq_append_getElem h, acc_snoc]
theorem arO_len (ds : List Pc) : (arO ds).length = 40 := acc_len _ _ _ _
theorem arC_len (ds : List Pc) : (arC ds).length = 4 := acc_len _ _ _ _
theorem arO_take (ds : List Pc) (k : Nat) (h : k < ds.length) (hn : (gPc ds k).owner.toNat < 40) : arO (ds.take (k + 1)) = wr (arO (ds.take k)) (gPc ds k).owner.toNat [IntKind.wrap .i64 (gi (arO (ds.take k)) (gPc ds k).owner.toNat + (gPc ds k).area)] := by
  have he := acc_take Pc.owner Pc.area 40 ds k h
  rw [← gPc_lt ds k h] at he
  rw [wr_set _ _ _ (by rw [arO_len]; exact hn)]
  exact he
theorem arC_take (ds : List Pc) (k : Nat) (h : k < ds.length) (hn : (gPc ds k).cls.toNat < 4) : arC (ds.take (k + 1)) = wr (arC (ds.take k)) (gPc ds k).cls.toNat [IntKind.wrap .i64 (gi (arC (ds.take k)) (gPc ds k).cls.toNat + (gPc ds k).area)] := by
  have he := acc_take Pc.cls Pc.area 4 ds k h
  rw [← gPc_lt ds k h] at he
  rw [wr_set _ _ _ (by rw [arC_len]; exact hn)]
  exact he
end Go.Proofs.YtbbdfifpncjpnaaDoor

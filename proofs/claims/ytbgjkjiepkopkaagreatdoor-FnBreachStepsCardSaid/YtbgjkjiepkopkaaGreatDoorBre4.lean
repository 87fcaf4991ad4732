/- the breach hour by hour, with stones that change; its text -/
import Derived.Test.YtbgjkjiepkopkaaGreatDoorBre3a
import Derived.Test.YtbgjkjiepkopkaaGreatDoorA2
import Derived.Test.YtbgjkjiepkopkaaGreatDoorRep1
set_option linter.unusedVariables false
set_option linter.unusedSimpArgs false
namespace Go.Proofs.YtbgjkjiepkopkaaGreatDoor
open Go.AG Go.Lib

attribute [local go_sem] beq_self_eq_true bne_self_eq_false Bool.not_true
/-! hour after hour -/
noncomputable def brV (c : Cv) (b : Bre) (xs ns : List Int) : Nat → Bre
  | 0 => b
  | k + 1 => brS c (brV c b xs ns k) (gi xs k) (gi ns k)
/-- the highest level up to an hour -/
noncomputable def brP (c : Cv) (b : Bre) (xs : List Int) : Nat → Int
  | 0 => lvx c b.wt
  | k + 1 => if brP c b xs k < gi xs k then gi xs k else brP c b xs k
def StOk (ns : List Int) : Prop := ∀ y ∈ ns, 0 ≤ y ∧ y ≤ 1000
theorem brV_f {c : Cv} {b : Bre} {xs ns : List Int} (h : BrX c b xs) (hn : StOk ns) (hl : ns.length = xs.length) (k : Nat) (hk : k ≤ xs.length) : BrF c (brV c b xs ns k) := by
  induction k with
  | zero => exact h.b
  | succ k ih => exact brS_f (ih (by omega)) _ _ (h.g k (by omega)) (hn _ (gi_mem ns k (by omega))).1
theorem brV_sl {c : Cv} {b : Bre} {xs ns : List Int} (k : Nat) : (brV c b xs ns k).sl = b.sl := by
  induction k with
  | zero => rfl
  | succ k ih => exact ih
theorem lvx_step {c : Cv} {b : Bre} (h : BrF c b) (o n : Int) : lvx c (brS c b o n).wt ≤ (if lvx c b.wt < o then o else lvx c b.wt) ∨ lvx c (brS c b o n).wt ≤ lvx c b.wt := by
  by_cases hh : brHd c b o = 0
  · right
    have e : (brS c b o n).wt = b.wt := by simp [brS, brIn, hh]
    rw [e]
    exact Int.le_refl _
  · left
    have h1 := brHd_pos h hh
    obtain ⟨h2, h3, h4⟩ := brTo_in h hh
    have h5 := brMs_bd h hh
    have h6 : (brS c b o n).wt ≤ vlm c (brTo c o) := by
      have e : (brS c b o n).wt = b.wt + brIn c b o := rfl
      have e2 : brMs c b o = vlm c (brTo c o) - b.wt := rfl
      have : brIn c b o ≤ brMs c b o := by
        unfold brIn
        rw [if_neg hh]
        split <;> omega
      omega
    have h8 := h.f.lohi
    have h9 : lvx c (brS c b o n).wt ≤ brTo c o := by
      have hle : (brS c b o n).wt ≤ gi c.vl (c.lv.length - 1) := by
        have := vlm_mono h.f (brTo c o) (hi' c) h2.1 h4 (Int.le_refl _)
        rw [vlm_hi h.f] at this
        omega
      have hx := lvx_of h.f hle
      apply Int.not_lt.1
      intro hc
      have l1 := hx.lo
      have l2 := hx.hi
      have := hx.lt (by have := h2.1; omega)
      have := vlm_mono h.f (brTo c o) (lvx c (brS c b o n).wt - 1) h2.1 (by omega) (by omega)
      omega
    have h10 : brTo c o ≤ o := by unfold brTo; split <;> omega
    split <;> omega
theorem brV_top {c : Cv} {b : Bre} {xs ns : List Int} (h : BrX c b xs) (hn : StOk ns) (hl : ns.length = xs.length) (k : Nat) (hk : k ≤ xs.length) : lvx c (brV c b xs ns k).wt ≤ brP c b xs k := by
  induction k with
  | zero => exact Int.le_refl _
  | succ k ih =>
    have i := ih (by omega)
    have s := lvx_step (brV_f h hn hl k (by omega)) (gi xs k) (gi ns k)
    have e : brV c b xs ns (k + 1) = brS c (brV c b xs ns k) (gi xs k) (gi ns k) := rfl
    rw [e]
    unfold brP
    split at s <;> split <;> omega
theorem brQ_bd {c : Cv} {b : Bre} {xs : List Int} (h : BrX c b xs) (k : Nat) (hk : k ≤ xs.length) : -2000 ≤ brP c b xs k ∧ brP c b xs k ≤ 2000 := by
  induction k with
  | zero => have := h.b.lv; unfold brP; omega
  | succ k ih =>
    have := ih (by omega)
    have := h.g k (by omega)
    unfold brP
    split <;> omega
theorem brS_dry {c : Cv} {b : Bre} (h : BrF c b) (o n : Int) (hn : 0 ≤ n) (hw : b.wd = 0) : brIn c b o = 0 ∧ (brS c b o n).wd = 0 := by
  constructor
  · unfold brIn
    split
    · rfl
    · rename_i hh
      have := brMs_bd h hh
      rw [hw]
      simp only [Int.mul_zero, Int.zero_mul]
      split <;> omega
  · have e : brW c b o = 0 := by unfold brW; rw [if_pos hw]
    simp only [brS, brC, e]
    split <;> omega
theorem brIn_hd {c : Cv} {b : Bre} {o : Int} (h : brHd c b o = 0) : brIn c b o = 0 := by unfold brIn; rw [if_pos h]
/-- the list of all hours -/
noncomputable def brL2 (c : Cv) (b : Bre) (xs ns : List Int) (k : Nat) : List Bre := (List.range k).map fun i => brV c b xs ns (i + 1)
theorem brL2_len (c : Cv) (b : Bre) (xs ns : List Int) (k : Nat) : (brL2 c b xs ns k).length = k := by simp [brL2]
theorem brL2_succ (c : Cv) (b : Bre) (xs ns : List Int) (k : Nat) : brL2 c b xs ns (k + 1) = brL2 c b xs ns k ++ [brV c b xs ns (k + 1)] := by simp [brL2, List.range_succ]
theorem brL2_get (c : Cv) (b : Bre) (xs ns : List Int) (m k : Nat) (h : k < m) : gBre (brL2 c b xs ns m) k = brV c b xs ns (k + 1) := by simp [gBre, brL2, h]
end Go.Proofs.YtbgjkjiepkopkaaGreatDoor

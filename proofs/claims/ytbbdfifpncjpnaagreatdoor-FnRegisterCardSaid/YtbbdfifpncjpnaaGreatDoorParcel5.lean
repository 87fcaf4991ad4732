/- parcels: the largest owner, an owner's area, a parcel's place -/
import Derived.Test.YtbbdfifpncjpnaaGreatDoorParcel4
import Derived.Test.YtbbdfifpncjpnaaGreatDoorTender4
set_option linter.unusedVariables false
set_option linter.unusedSimpArgs false
namespace Go.Proofs.YtbbdfifpncjpnaaGreatDoor
open Go.AG

/-- the greatest number -/
def mxL (xs : List Int) : Nat → Int
  | 0 => gi xs 0
  | k + 1 => if mxL xs k < gi xs k then gi xs k else mxL xs k
theorem mxL_le (xs : List Int) (k j : Nat) (h : j < k) : gi xs j ≤ mxL xs k := by
  induction k with
  | zero => omega
  | succ k ih =>
    simp only [mxL]
    by_cases e : j = k
    · subst e; split <;> omega
    · have := ih (by omega); split <;> omega
theorem mxL_ex (xs : List Int) (k : Nat) (hk : 0 < xs.length) (h : k ≤ xs.length) : ∃ j, j < xs.length ∧ gi xs j = mxL xs k := by
  induction k with
  | zero => exact ⟨0, hk, rfl⟩
  | succ k ih =>
    simp only [mxL]
    split
    · exact ⟨k, by omega, rfl⟩
    · exact ih (by omega)
theorem ixs_head {n : Nat} {q : Nat → Bool} {b : Nat} (hb : b < n) (hq : q b = true) (hn : ∀ j, j < b → q j = false) : 0 < (ixs n q).length ∧ gi (ixs n q) 0 = b := by
  have hfil : (List.range n).filter q = b :: ((List.range n).drop (b + 1)).filter q := by
    have e : List.range n = (List.range n).take b ++ (b :: (List.range n).drop (b + 1)) := by
      have h1 : b < (List.range n).length := by simpa using hb
      have h2 := List.drop_eq_getElem_cons h1
      rw [List.getElem_range] at h2
      rw [← h2, List.take_append_drop]
    have h3 : ((List.range n).take b).filter q = [] := by
      rw [List.filter_eq_nil_iff]
      intro x hx
      obtain ⟨j, hj, rfl⟩ := List.mem_iff_getElem.1 hx
      simp only [List.length_take, List.length_range] at hj
      simp only [List.getElem_take, List.getElem_range]
      rw [hn j (by omega)]; simp
    conv => lhs; rw [e, List.filter_append, h3, List.nil_append, List.filter_cons, if_pos hq]
  unfold ixs
  rw [hfil]
  exact ⟨by simp, rfl⟩
structure FMk (xs : List Int) (k b : Nat) : Prop where
  lt : b < k
  mx : ∀ j, j < k → gi xs j ≤ gi xs b
  fst : ∀ j, j < b → gi xs j < gi xs b
theorem FMk.one (xs : List Int) : FMk xs 1 0 := ⟨by omega, fun j hj => by rw [show j = 0 by omega]; exact Int.le_refl _, fun j hj => by omega⟩
theorem FMk.yes {xs : List Int} {k b : Nat} (h : FMk xs k b) (hk : gi xs b < gi xs k) : FMk xs (k + 1) k :=
  ⟨by omega, fun j hj => by
    by_cases e : j = k
    · subst e; exact Int.le_refl _
    · have := h.mx j (by omega); omega, fun j hj => by have := h.mx j hj; omega⟩
theorem FMk.no {xs : List Int} {k b : Nat} (h : FMk xs k b) (hk : ¬ gi xs b < gi xs k) : FMk xs (k + 1) b :=
  ⟨by have := h.lt; omega, fun j hj => by
    by_cases e : j = k
    · subst e; omega
    · exact h.mx j (by omega), h.fst⟩
theorem FMk.max {xs : List Int} {b : Nat} (h : FMk xs xs.length b) : FMax xs b := ⟨h.lt, h.mx, h.fst⟩
theorem fmk_ex (xs : List Int) (k : Nat) : ∃ b, FMk xs (k + 1) b := by
  induction k with
  | zero => exact ⟨0, FMk.one xs⟩
  | succ k ih =>
    obtain ⟨b, hb⟩ := ih
    by_cases h : gi xs b < gi xs (k + 1)
    · exact ⟨_, hb.yes h⟩
    · exact ⟨_, hb.no h⟩
theorem fmax_ex (xs : List Int) (h : 0 < xs.length) : ∃ b, FMax xs b := by
  obtain ⟨b, hb⟩ := fmk_ex xs (xs.length - 1)
  rw [show xs.length - 1 + 1 = xs.length by omega] at hb
  exact ⟨b, hb.max⟩
theorem FMax.mxL {xs : List Int} {b : Nat} (h : FMax xs b) : gi xs b = mxL xs xs.length := by
  have h1 := mxL_le xs xs.length b h.lt
  obtain ⟨j, hj, e⟩ := mxL_ex xs xs.length (by have := h.lt; omega) (Nat.le_refl _)
  have := h.mx j hj
  omega
/-- the code for a largest owner -/
def loC (ds : List Pc) : Int := if okP ds = true then if ds.length = 0 then 3 else 0 else 1
end Go.Proofs.YtbbdfifpncjpnaaGreatDoor

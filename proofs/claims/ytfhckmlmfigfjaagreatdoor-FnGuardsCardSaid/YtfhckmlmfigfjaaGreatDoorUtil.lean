/- plain facts on lists, no program in sight -/
import Derived.Test.YtfhckmlmfigfjaaGreatDoorAgZ
set_option linter.unusedVariables false
set_option linter.unusedSimpArgs false
namespace Go.Proofs.YtfhckmlmfigfjaaGreatDoor
open Go.AG

/-- the first place at which something is so; -1 if there is none -/
def fsI {α : Type} (q : α → Bool) (xs : List α) : Int := match xs.findIdx? q with
  | some i => i
  | none => -1
theorem fsI_yes {α : Type} {q : α → Bool} {xs : List α} (k : Nat) (hk : k < xs.length) (hq : q xs[k] = true) (hn : ∀ j (h : j < k), q (xs[j]'(by omega)) = false) : fsI q xs = k := by
  have : xs.findIdx? q = some k := by
    rw [List.findIdx?_eq_some_iff_getElem]
    exact ⟨hk, hq, fun j hj => by simpa using hn j hj⟩
  simp [fsI, this]
theorem fsI_no {α : Type} {q : α → Bool} {xs : List α} (hn : ∀ j (h : j < xs.length), q xs[j] = false) : fsI q xs = -1 := by
  have : xs.findIdx? q = none := by
    rw [List.findIdx?_eq_none_iff]
    intro x hx
    obtain ⟨j, hj, rfl⟩ := List.mem_iff_getElem.1 hx
    exact hn j hj
  simp [fsI, this]
theorem fsI_cases {α : Type} (q : α → Bool) (xs : List α) : (∃ k, ∃ h : k < xs.length, fsI q xs = k ∧ q xs[k] = true ∧ ∀ j (h : j < k), q (xs[j]'(by omega)) = false) ∨ (fsI q xs = -1 ∧ ∀ j (h : j < xs.length), q xs[j] = false) := by
  cases h : xs.findIdx? q with
  | some k =>
    left
    rw [List.findIdx?_eq_some_iff_getElem] at h
    obtain ⟨h1, h2, h3⟩ := h
    have h3' : ∀ j (h : j < k), q (xs[j]'(by omega)) = false := fun j hj => by simpa using h3 j hj
    exact ⟨k, h1, fsI_yes k h1 h2 h3', h2, h3'⟩
  | none =>
    right
    rw [List.findIdx?_eq_none_iff] at h
    have h' : ∀ j (hj : j < xs.length), q xs[j] = false := fun j hj => h _ (List.getElem_mem hj)
    exact ⟨fsI_no h', h'⟩

theorem sumI_set (xs : List Int) (i : Nat) (v : Int) (h : i < xs.length) : sumI (xs.set i v) = sumI xs - gi xs i + v := by
  induction xs generalizing i with
  | nil => simp at h
  | cons x xs ih =>
    cases i with
    | zero => simp only [List.set_cons_zero, sumI_cons]; show v + sumI xs = x + sumI xs - x + v; omega
    | succ i =>
      simp only [List.set_cons_succ, sumI_cons, ih i (by simpa using h)]
      show _ = x + sumI xs - gi xs i + v
      omega
theorem sumI_rep0 (n : Nat) : sumI (List.replicate n 0) = 0 := by
  induction n with
  | zero => rfl
  | succ n ih => rw [List.replicate_succ, sumI_cons, ih]; rfl
theorem gi_rep0 (n i : Nat) : gi (List.replicate n 0) i = 0 := by
  unfold gi
  rw [List.getD_eq_getElem?_getD, List.getElem?_replicate]
  split <;> rfl
theorem sumI_map_bd {α : Type} (f : α → Int) (b : Int) (hb : 0 ≤ b) (xs : List α) (h : ∀ x ∈ xs, 0 ≤ f x ∧ f x ≤ b) : 0 ≤ sumI (xs.map f) ∧ sumI (xs.map f) ≤ b * xs.length := by
  induction xs with
  | nil => simp [sumI_nil]
  | cons x xs ih =>
    have h1 := h x (by simp)
    have h2 := ih fun y hy => h y (by simp [hy])
    simp only [List.map_cons, sumI_cons, List.length_cons, Int.natCast_add, Int.mul_add]
    omega

/-- amounts added up by places -/
def acc {α : Type} (key val : α → Int) (n : Nat) (ds : List α) : List Int := ds.foldl (fun a p => a.set (key p).toNat (IntKind.wrap .i64 (gi a (key p).toNat + val p))) (List.replicate n 0)
theorem acc_nil {α : Type} (key val : α → Int) (n : Nat) : acc key val n [] = List.replicate n 0 := rfl
theorem acc_snoc {α : Type} (key val : α → Int) (n : Nat) (ds : List α) (p : α) : acc key val n (ds ++ [p]) = (acc key val n ds).set (key p).toNat (IntKind.wrap .i64 (gi (acc key val n ds) (key p).toNat + val p)) := by simp [acc]
theorem acc_len {α : Type} (key val : α → Int) (n : Nat) (ds : List α) : (acc key val n ds).length = n := by
  refine snoc_ind (M := fun ds => (acc key val n ds).length = n) ?_ ?_ ds
  · simp [acc]
  · intro xs x ih; rw [acc_snoc, List.length_set, ih]
theorem acc_val {α : Type} (key val : α → Int) (n : Nat) (b : Int) (hb : 0 ≤ b) (ds : List α) (hk : ∀ p ∈ ds, 0 ≤ key p ∧ key p < n) (hv : ∀ p ∈ ds, 0 ≤ val p ∧ val p ≤ b) (hl : b * ds.length ≤ 4611686018427387904) :
    (∀ j : Nat, j < n → gi (acc key val n ds) j = sumI ((ds.filter fun p => decide (key p = j)).map val)) ∧ sumI (acc key val n ds) = sumI (ds.map val) := by
  revert hk hv hl
  refine snoc_ind (M := fun ds => (∀ p ∈ ds, 0 ≤ key p ∧ key p < n) → (∀ p ∈ ds, 0 ≤ val p ∧ val p ≤ b) → b * ds.length ≤ 4611686018427387904 →
    (∀ j : Nat, j < n → gi (acc key val n ds) j = sumI ((ds.filter fun p => decide (key p = j)).map val)) ∧ sumI (acc key val n ds) = sumI (ds.map val)) ?_ ?_ ds
  · intro _ _ _
    exact ⟨fun j _ => by rw [acc_nil, gi_rep0]; rfl, by rw [acc_nil, sumI_rep0]; rfl⟩
  · intro ds p ih hk hv hl
    have hp1 := hk p (by simp)
    have hp2 := hv p (by simp)
    have hl2 : b * (ds.length : Int) + b ≤ 4611686018427387904 := by
      rw [List.length_append, List.length_singleton, Int.natCast_add, Int.mul_add] at hl
      have : b * ((1 : Nat) : Int) = b := by simp
      omega
    obtain ⟨i1, i2⟩ := ih (fun q hq => hk q (by simp [hq])) (fun q hq => hv q (by simp [hq])) (by omega)
    have hkn : (key p).toNat < n := by omega
    have e1 := i1 _ hkn
    have hbd := sumI_map_bd val b hb (ds.filter fun q => decide (key q = ((key p).toNat : Int))) (fun x hx => hv x (by rw [List.mem_filter] at hx; simp [hx.1]))
    have hfl : b * ((ds.filter fun q => decide (key q = ((key p).toNat : Int))).length : Int) ≤ b * (ds.length : Int) := Int.mul_le_mul_of_nonneg_left (by exact_mod_cast List.length_filter_le _ _) hb
    have hw : IntKind.wrap .i64 (gi (acc key val n ds) (key p).toNat + val p) = gi (acc key val n ds) (key p).toNat + val p := wrap_i64_id _ (by omega)
    constructor
    · intro j hj
      rw [acc_snoc, hw, List.filter_append, List.map_append, sumI_append]
      by_cases e : (key p).toNat = j
      · subst e
        rw [gi_set_same _ _ _ (by rw [acc_len]; exact hkn), e1]
        have : decide (key p = ((key p).toNat : Int)) = true := decide_eq_true (by omega)
        rw [List.filter_cons, if_pos this]; simp [sumI_cons, sumI_nil]
      · rw [gi_set_ne _ _ _ _ e, i1 j hj]
        have : decide (key p = (j : Int)) = false := decide_eq_false (by omega)
        simp [this, sumI_nil]
    · rw [acc_snoc, hw, sumI_set _ _ _ (by rw [acc_len]; exact hkn), i2, List.map_append, sumI_append]
      simp only [List.map_cons, List.map_nil, sumI_cons, sumI_nil]
      omega

/-- a place of the greatest number, the first one -/
structure FMax (xs : List Int) (b : Nat) : Prop where
  lt : b < xs.length
  mx : ∀ j, j < xs.length → gi xs j ≤ gi xs b
  fst : ∀ j, j < b → gi xs j < gi xs b
theorem FMax.uniq {xs : List Int} {a b : Nat} (h1 : FMax xs a) (h2 : FMax xs b) : a = b := by
  rcases Nat.lt_trichotomy a b with h | h | h
  · have := h2.fst a h; have := h1.mx b h2.lt; omega
  · exact h
  · have := h1.fst b h; have := h2.mx a h1.lt; omega
end Go.Proofs.YtfhckmlmfigfjaaGreatDoor

/- awards: what the search finds: a way of least cost (plain) -/
import Derived.Test.YthgdbhmdcokbdaaChe1
set_option linter.unusedVariables false
set_option linter.unusedSimpArgs false
namespace Go.Proofs.Ythgdbhmdcokbdaa
open Go.AG

/-- bidders for the lots from one on, within what is left of them -/
def pth (t : Td) : Nat → List Int → List Int → Prop
  | _, _, [] => True
  | lot, lf, x :: r => ∃ j : Nat, x = (j : Int) ∧ j < lf.length ∧ can t lf j lot = true ∧ pth t (lot + 1) (down lf j) r
/-- what they cost -/
def cst (t : Td) : Nat → List Int → Int
  | _, [] => 0
  | lot, x :: r => offB t x.toNat lot + cst t (lot + 1) r

theorem down_ln (lf : List Int) (j : Nat) : (down lf j).length = lf.length := by simp [down]

/-- a result of the search is what was there or a way from here -/
theorem nx_sound (t : Td) : ∀ (d : Nat) (lf ch : List Int) (c : Int) (b : Bs) (p : List Int × Int), nxA t d lf ch c b = some p →
    b = some p ∨ ∃ r, r.length = d ∧ p.1 = ch ++ r ∧ pth t ch.length lf r ∧ p.2 = c + cst t ch.length r := by
  intro d
  induction d with
  | zero =>
    intro lf ch c b p h
    simp only [nxA] at h
    split at h
    · exact .inl h
    · cases h
      exact .inr ⟨[], rfl, by simp, trivial, by simp [cst]⟩
  | succ d ih =>
    intro lf ch c b p h
    rw [nx_succ] at h
    have : ∀ k, k ≤ lf.length → srK (nxF t d lf ch c) k b = some p → b = some p ∨ ∃ r, r.length = d + 1 ∧ p.1 = ch ++ r ∧ pth t ch.length lf r ∧ p.2 = c + cst t ch.length r := by
      intro k
      induction k with
      | zero => intro _ h; exact .inl h
      | succ k ik =>
        intro hk h
        have h : nxF t d lf ch c k (srK (nxF t d lf ch c) k b) = some p := h
        unfold nxF at h
        split at h
        · rename_i hcn
          rcases ih _ _ _ _ _ h with h1 | ⟨r, h1, h2, h3, h4⟩
          · exact ik (by omega) h1
          · have e : (ch ++ [(k : Int)]).length = ch.length + 1 := by simp
            rw [e] at h3 h4
            refine .inr ⟨(k : Int) :: r, by simp [h1], by rw [h2]; simp, ⟨k, rfl, by omega, hcn, h3⟩, ?_⟩
            simp only [cst, Int.toNat_natCast]
            omega
        · exact ik (by omega) h
    exact this _ (Nat.le_refl _) h
/-- the search never makes worse what was there -/
def leB (b : Bs) (c : Int) : Prop := ∃ p, b = some p ∧ p.2 ≤ c
theorem nx_mono (t : Td) : ∀ (d : Nat) (lf ch : List Int) (c : Int) (b : Bs) (x : Int), leB b x → leB (nxA t d lf ch c b) x := by
  intro d
  induction d with
  | zero =>
    intro lf ch c b x h
    simp only [nxA]
    split
    · exact h
    · rename_i hp
      obtain ⟨p, rfl, h2⟩ := h
      simp only [prn, decide_eq_true_eq] at hp
      exact ⟨_, rfl, by simp only; omega⟩
  | succ d ih =>
    intro lf ch c b x h
    rw [nx_succ]
    have : ∀ k, leB (srK (nxF t d lf ch c) k b) x := by
      intro k
      induction k with
      | zero => exact h
      | succ k ik =>
        show leB (nxF t d lf ch c k (srK (nxF t d lf ch c) k b)) x
        unfold nxF
        split
        · exact ih _ _ _ _ _ ik
        · exact ik
    exact this _
/-- no way costs less than what the search finds -/
theorem nx_best (t : Td) : ∀ (d : Nat) (lf ch : List Int) (c : Int) (b : Bs) (r : List Int), r.length = d → pth t ch.length lf r → leB (nxA t d lf ch c b) (c + cst t ch.length r) := by
  intro d
  induction d with
  | zero =>
    intro lf ch c b r hr hp
    have e : r = [] := List.length_eq_zero_iff.1 hr
    subst e
    simp only [nxA, cst]
    split
    · rename_i hp
      cases b with
      | none => simp [prn] at hp
      | some p => exact ⟨p, rfl, by simp only [prn, decide_eq_true_eq] at hp; omega⟩
    · exact ⟨_, rfl, by simp⟩
  | succ d ih =>
    intro lf ch c b r hr hp
    cases r with
    | nil => simp at hr
    | cons x r =>
      obtain ⟨j, rfl, hj, hcn, hp⟩ := hp
      rw [nx_succ]
      have : ∀ k, k ≤ lf.length → j < k → leB (srK (nxF t d lf ch c) k b) (c + cst t ch.length ((j : Int) :: r)) := by
        intro k
        induction k with
        | zero => intro _ h; omega
        | succ k ik =>
          intro hk hjk
          show leB (nxF t d lf ch c k (srK (nxF t d lf ch c) k b)) _
          by_cases e : j = k
          · subst e
            unfold nxF
            rw [if_pos hcn]
            have e : (ch ++ [(j : Int)]).length = ch.length + 1 := by simp
            have := ih (down lf j) (ch ++ [(j : Int)]) (c + offB t j ch.length) (srK (nxF t d lf ch c) j b) r (by simpa using hr) (by rw [e]; exact hp)
            rw [e] at this
            simp only [cst, Int.toNat_natCast]
            rw [show c + (offB t j ch.length + cst t (ch.length + 1) r) = c + offB t j ch.length + cst t (ch.length + 1) r by omega]
            exact this
          · have h1 := ik (by omega) (by omega)
            unfold nxF
            split
            · exact nx_mono t _ _ _ _ _ _ h1
            · exact h1
      exact this _ (Nat.le_refl _) hj

/-- how often a number stands in a list -/
def cntI (x : Int) (xs : List Int) : Int := (xs.count x : Nat)
/-- an award without faults: each lot's bidder has a bid for it, no bidder has more lots than he can do -/
structure Fl (t : Td) (aw : List Int) : Prop where
  len : aw.length = t.lots.toNat
  bid : ∀ k, k < aw.length → 0 ≤ fstI (isB (gi aw k) (k : Int)) t.bids
  most : ∀ j : Nat, j < t.most.length → cntI j aw ≤ gi t.most j
end Go.Proofs.Ythgdbhmdcokbdaa

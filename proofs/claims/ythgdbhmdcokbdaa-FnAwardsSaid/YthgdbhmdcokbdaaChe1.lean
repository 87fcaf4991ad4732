/- the cheapest award: data and plain law -/
import Derived.Test.YthgdbhmdcokbdaaGreedy
set_option linter.unusedVariables false
set_option linter.unusedSimpArgs false
namespace Go.Proofs.Ythgdbhmdcokbdaa
open Go.AG

/-- the best award so far and its cost -/
abbrev Bs := Option (List Int × Int)
/-- the place of a bidder's bid -/
def ixB (t : Td) (j lot : Nat) : Int := fstI (isB j lot) t.bids
def offB (t : Td) (j lot : Nat) : Int := (gBd t.bids (ixB t j lot).toNat).off
/-- the bidder can take the lot -/
def can (t : Td) (lf : List Int) (j lot : Nat) : Bool := decide (0 ≤ ixB t j lot) && decide (gi lf j ≠ 0)
def srK (f : Nat → Bs → Bs) : Nat → Bs → Bs
  | 0, b => b
  | k + 1, b => f k (srK f k b)
/-- no award of this cost is better -/
def prn (b : Bs) (c : Int) : Bool := match b with
  | none => false
  | some p => decide (p.2 ≤ c)
def down (lf : List Int) (j : Nat) : List Int := lf.set j (gi lf j - 1)
/-- the search without pruning -/
def nxA (t : Td) : Nat → List Int → List Int → Int → Bs → Bs
  | 0, _, ch, c, b => if prn b c = true then b else some (ch, c)
  | d + 1, lf, ch, c, b => srK (fun j b => if can t lf j ch.length = true then nxA t d (down lf j) (ch ++ [(j : Int)]) (c + offB t j ch.length) b else b) lf.length b
def nxF (t : Td) (d : Nat) (lf ch : List Int) (c : Int) (j : Nat) (b : Bs) : Bs := if can t lf j ch.length = true then nxA t d (down lf j) (ch ++ [(j : Int)]) (c + offB t j ch.length) b else b
theorem nx_succ (t : Td) (d : Nat) (lf ch : List Int) (c : Int) (b : Bs) : nxA t (d + 1) lf ch c b = srK (nxF t d lf ch c) lf.length b := rfl
/-- the search with pruning -/
def wk (t : Td) : Nat → List Int → List Int → Int → Bs → Bs
  | 0, _, ch, c, b => if prn b c = true then b else some (ch, c)
  | d + 1, lf, ch, c, b => if prn b c = true then b else srK (fun j b => if can t lf j ch.length = true then wk t d (down lf j) (ch ++ [(j : Int)]) (c + offB t j ch.length) b else b) lf.length b
def wkF (t : Td) (d : Nat) (lf ch : List Int) (c : Int) (j : Nat) (b : Bs) : Bs := if can t lf j ch.length = true then wk t d (down lf j) (ch ++ [(j : Int)]) (c + offB t j ch.length) b else b
theorem wk_succ (t : Td) (d : Nat) (lf ch : List Int) (c : Int) (b : Bs) (h : prn b c = false) : wk t (d + 1) lf ch c b = srK (wkF t d lf ch c) lf.length b := by
  simp only [wk]
  rw [if_neg (by simp [h])]
  rfl
theorem wk_prn (t : Td) (d : Nat) (lf ch : List Int) (c : Int) (b : Bs) (h : prn b c = true) : wk t d lf ch c b = b := by
  cases d with
  | zero => simp only [wk]; rw [if_pos h]
  | succ d => simp only [wk]; rw [if_pos h]
/-- what is known of a bid that is there -/
theorem can_bd {t : Td} (hok : okT t = true) {lf : List Int} {j lot : Nat} (h : 0 ≤ ixB t j lot) : (ixB t j lot).toNat < t.bids.length ∧ ixB t j lot = ((ixB t j lot).toNat : Int) ∧ 1 ≤ offB t j lot ∧ offB t j lot ≤ 1000000 := by
  have h1 : ixB t j lot = fstI (isB j lot) t.bids := rfl
  rcases fstI_cases (isB (j : Int) (lot : Int)) t.bids with ⟨e, _⟩ | ⟨k, e, hk, _⟩
  · omega
  · have e2 : (ixB t j lot).toNat = k := by omega
    have hbd := okT_b hok k hk
    unfold offB
    rw [e2]
    omega
theorem nx_prn {t : Td} (hok : okT t = true) : ∀ (d : Nat) (lf ch : List Int) (c : Int) (b : Bs), prn b c = true → nxA t d lf ch c b = b := by
  intro d
  induction d with
  | zero => intro lf ch c b h; simp only [nxA]; rw [if_pos h]
  | succ d ih =>
    intro lf ch c b h
    rw [nx_succ]
    have : ∀ k, srK (nxF t d lf ch c) k b = b := by
      intro k
      induction k with
      | zero => rfl
      | succ k ik =>
        show nxF t d lf ch c k (srK (nxF t d lf ch c) k b) = b
        rw [ik]
        unfold nxF
        split
        · rename_i hc
          simp only [can, Bool.and_eq_true, decide_eq_true_eq] at hc
          have := can_bd hok (lf := lf) hc.1
          refine ih _ _ _ _ ?_
          cases b with
          | none => cases h
          | some p =>
            simp only [prn, decide_eq_true_eq] at h ⊢
            omega
        · rfl
    exact this _
theorem nx_wk {t : Td} (hok : okT t = true) : ∀ (d : Nat) (lf ch : List Int) (c : Int) (b : Bs), nxA t d lf ch c b = wk t d lf ch c b := by
  intro d
  induction d with
  | zero => intro lf ch c b; rfl
  | succ d ih =>
    intro lf ch c b
    cases h : prn b c with
    | true => rw [nx_prn hok _ _ _ _ _ h, wk_prn _ _ _ _ _ _ h]
    | false =>
      rw [nx_succ, wk_succ _ _ _ _ _ _ h]
      have : nxF t d lf ch c = wkF t d lf ch c := by
        funext j b
        unfold nxF wkF
        rw [ih]
      rw [this]
/-- an award found is as long as it must be -/
def okB2 (n : Nat) : Bs → Prop
  | none => True
  | some p => p.1.length = n ∧ 0 ≤ p.2
theorem nx_ok {t : Td} (hok : okT t = true) : ∀ (d : Nat) (lf ch : List Int) (c : Int) (b : Bs), 0 ≤ c → okB2 (ch.length + d) b → okB2 (ch.length + d) (nxA t d lf ch c b) := by
  intro d
  induction d with
  | zero =>
    intro lf ch c b hc hb
    simp only [nxA]
    split
    · exact hb
    · exact ⟨rfl, hc⟩
  | succ d ih =>
    intro lf ch c b hc hb
    rw [nx_succ]
    have : ∀ k, okB2 (ch.length + (d + 1)) (srK (nxF t d lf ch c) k b) := by
      intro k
      induction k with
      | zero => exact hb
      | succ k ik =>
        show okB2 _ (nxF t d lf ch c k (srK (nxF t d lf ch c) k b))
        unfold nxF
        split
        · rename_i hcn
          simp only [can, Bool.and_eq_true, decide_eq_true_eq] at hcn
          have h1 := can_bd hok (lf := lf) hcn.1
          have h2 := ih (down lf k) (ch ++ [(k : Int)]) (c + offB t k ch.length) (srK (nxF t d lf ch c) k b) (by omega) (by
            have e : (ch ++ [(k : Int)]).length + d = ch.length + (d + 1) := by simp; omega
            rw [e]; exact ik)
          have e : (ch ++ [(k : Int)]).length + d = ch.length + (d + 1) := by simp; omega
          rw [e] at h2
          exact h2
        · exact ik
    exact this _
theorem srK_ok {t : Td} (hok : okT t = true) (d : Nat) (lf ch : List Int) (c : Int) (b : Bs) (hc : 0 ≤ c) (hb : okB2 (ch.length + (d + 1)) b) : ∀ k, okB2 (ch.length + (d + 1)) (srK (nxF t d lf ch c) k b) := by
  intro k
  induction k with
  | zero => exact hb
  | succ k ik =>
    show okB2 _ (nxF t d lf ch c k (srK (nxF t d lf ch c) k b))
    unfold nxF
    split
    · rename_i hcn
      simp only [can, Bool.and_eq_true, decide_eq_true_eq] at hcn
      have h1 := can_bd hok (lf := lf) hcn.1
      have e : (ch ++ [(k : Int)]).length + d = ch.length + (d + 1) := by simp; omega
      have h2 := nx_ok hok d (down lf k) (ch ++ [(k : Int)]) (c + offB t k ch.length) (srK (nxF t d lf ch c) k b) (by omega) (by rw [e]; exact ik)
      rw [e] at h2
      exact h2
    · exact ik
/-- what the search finds -/
def caB (t : Td) : Bs := nxA t t.lots.toNat t.most [] 0 none
def caC (t : Td) : Int := if okT t = true then match caB t with
  | none => 3
  | some _ => 0
  else 1
def caR (t : Td) : List Int := if okT t = true then match caB t with
  | none => []
  | some p => p.1
  else []
theorem caC_1 {t : Td} (h : okT t = false) : caC t = 1 ∧ caR t = [] := by
  simp [caC, caR, h]
theorem caC_3 {t : Td} (h : okT t = true) (h2 : caB t = none) : caC t = 3 ∧ caR t = [] := by
  simp [caC, caR, h, h2]
theorem caC_0 {t : Td} (h : okT t = true) {p : List Int × Int} (h2 : caB t = some p) : caC t = 0 ∧ caR t = p.1 := by
  simp [caC, caR, h, h2]
theorem caB_ok {t : Td} (h : okT t = true) : okB2 t.lots.toNat (caB t) := by
  have := nx_ok h t.lots.toNat t.most [] 0 none (by omega) trivial
  rw [show ([] : List Int).length + t.lots.toNat = t.lots.toNat by simp] at this
  exact this
theorem caR_len (t : Td) : (caR t).length ≤ 8 := by
  cases h : okT t with
  | false => rw [(caC_1 h).2]; simp
  | true =>
    have h1 := caB_ok h
    cases h2 : caB t with
    | none => rw [(caC_3 h h2).2]; simp
    | some p =>
      rw [(caC_0 h h2).2]
      rw [h2] at h1
      have := (okT_t h).1
      have := h1.1
      omega
theorem down_up (lf : List Int) (j : Nat) (h : j < lf.length) : (down lf j).set j (gi (down lf j) j + 1) = lf := by
  unfold down
  rw [gi_set_same _ _ _ h]
  rw [List.set_set, show gi lf j - 1 + 1 = gi lf j by omega, gi_lt _ _ h]
  simp
end Go.Proofs.Ythgdbhmdcokbdaa

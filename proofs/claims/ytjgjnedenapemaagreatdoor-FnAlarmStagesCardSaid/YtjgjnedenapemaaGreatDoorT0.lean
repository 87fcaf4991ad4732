/- texts: the fields of a text, decimals written and read; no program in sight -/
import Derived.Lib.FieldsP
import Derived.Lib.ItoaNum
import Derived.Lib.ItoaLen
import Derived.Lib.ParseIntB
import Derived.Laws.RangeString
set_option linter.unusedVariables false
set_option linter.unusedSimpArgs false
namespace Go.Proofs.YtjgjnedenapemaaGreatDoor
open Go Go.Lib

/-- a text out of its letters -/
def tx (l : List UInt8) : ByteArray := ⟨l.toArray⟩
theorem tx_list (s : ByteArray) : tx s.data.toList = s := by cases s; rfl
theorem list_tx (l : List UInt8) : (tx l).data.toList = l := rfl
theorem tx_app (a b : List UInt8) : tx a ++ tx b = tx (a ++ b) := by
  apply ByteArray.ext
  simp [tx]
theorem tx_size (l : List UInt8) : (tx l).size = l.length := by simp [tx, ByteArray.size]
theorem tx_inj {a b : List UInt8} (h : tx a = tx b) : a = b := by
  have := congrArg (fun s => s.data.toList) h
  simpa [list_tx] using this

/-- the fields, letter by letter; the second: the open field -/
def flG (p : Nat → Bool) : List UInt8 → Option (List UInt8) → List (List UInt8)
  | [], none => []
  | [], some c => [c]
  | b :: r, none => if p b.toNat then flG p r none else flG p r (some [b])
  | b :: r, some c => if p b.toNat then c :: flG p r none else flG p r (some (c ++ [b]))

theorem spans_fl (p : Nat → Bool) (s : ByteArray) (ha : ∀ b ∈ s.data.toList, b.toNat < 128) : ∀ (f pos : Nat) (st : Option Nat) (acc : List (Nat × Nat)), s.size ≤ pos + f → pos ≤ s.size → (∀ a, st = some a → a ≤ pos) →
    (closeSpans s (spansFromP p s f pos st acc)).map (fun q => pieceU s.data.toList q.1 q.2) = acc.map (fun q => pieceU s.data.toList q.1 q.2) ++ flG p (s.data.toList.drop pos) (st.map fun a => pieceU s.data.toList a pos)
  | 0, pos, st, acc, h, hp, hst => by
    obtain rfl : pos = s.size := by omega
    have hd : s.data.toList.drop s.size = [] := List.drop_eq_nil_of_le (by rw [← size_eq]; exact Nat.le_refl _)
    rw [hd]
    cases st with
    | none => simp [spansFromP, closeSpans, flG]
    | some a => simp [spansFromP, closeSpans, flG]
  | f + 1, pos, st, acc, h, hp, hst => by
    by_cases hlt : pos < s.size
    · have hl : pos < s.data.toList.length := by rw [← size_eq]; exact hlt
      have hg : s.data.toList[pos] = s[pos]'hlt := by simp; rfl
      have hb : (s[pos]'hlt).toNat < 128 := by rw [← hg]; exact ha _ (List.getElem_mem hl)
      have hd : s.data.toList.drop pos = (s[pos]'hlt) :: s.data.toList.drop (pos + 1) := by rw [List.drop_eq_getElem_cons hl, hg]
      have hgrow : ∀ a, a ≤ pos → pieceU s.data.toList a (pos + 1) = pieceU s.data.toList a pos ++ [s[pos]'hlt] := by
        intro a h1
        rw [← pieceU_grow _ a pos 1 h1, hd]
        rfl
      have hone : pieceU s.data.toList pos (pos + 1) = [s[pos]'hlt] := by
        unfold pieceU
        rw [hd, show pos + 1 - pos = 1 by omega]
        rfl
      rw [hd]
      simp only [spansFromP, if_pos hlt, decode_ascii s pos hlt hb]
      by_cases hq : p (s[pos]'hlt).toNat = true
      · cases st with
        | none =>
          simp only [hq, if_true]
          rw [spans_fl p s ha f (pos + 1) none acc (by omega) (by omega) (fun a h => by cases h)]
          simp [flG, hq]
        | some a =>
          simp only [hq, if_true]
          rw [spans_fl p s ha f (pos + 1) none _ (by omega) (by omega) (fun a h => by cases h)]
          simp [flG, hq]
      · cases st with
        | none =>
          rw [if_neg hq]
          rw [spans_fl p s ha f (pos + 1) (some pos) acc (by omega) (by omega) (fun a h => by cases h; omega)]
          simp [flG, hq, hone]
        | some a =>
          have := hst a rfl
          rw [if_neg hq]
          rw [spans_fl p s ha f (pos + 1) (some a) acc (by omega) (by omega) (fun b h => by cases h; omega)]
          simp [flG, hq, hgrow a this]
    · obtain rfl : pos = s.size := by omega
      have hd : s.data.toList.drop s.size = [] := List.drop_eq_nil_of_le (by rw [← size_eq]; exact Nat.le_refl _)
      rw [hd, spansFromP_end _ _ _ _ _ _ hlt]
      cases st with
      | none => simp [closeSpans, flG]
      | some a => simp [closeSpans, flG]

theorem goFieldsP_fl (p : Nat → Bool) (l : List UInt8) (ha : ∀ b ∈ l, b.toNat < 128) : goFieldsP p (tx l) = (flG p l none).map tx := by
  have h := spans_fl p (tx l) (by simpa [list_tx] using ha) (tx l).size 0 none [] (by omega) (by omega) (fun a h => by cases h)
  simp only [List.map_nil, List.nil_append, list_tx, List.drop_zero, Option.map_none] at h
  rw [← h]
  unfold goFieldsP spansOfP
  rw [List.map_map]
  congr 1
  funext q
  rw [← tx_list ((tx l).extract q.1 q.2)]
  simp [pieceU, list_tx, tx]

theorem flG_sep (p : Nat → Bool) (a b : List UInt8) (h : ∀ c ∈ a, p c.toNat = true) : flG p (a ++ b) none = flG p b none := by
  induction a with
  | nil => rfl
  | cons c r ih =>
    have h1 := h c (by simp)
    rw [List.cons_append]
    simp only [flG, h1, if_true]
    exact ih fun x hx => h x (by simp [hx])
theorem flG_open (p : Nat → Bool) (d b c : List UInt8) (h : ∀ x ∈ d, p x.toNat = false) (hb : b = [] ∨ ∃ y r, b = y :: r ∧ p y.toNat = true) : flG p (d ++ b) (some c) = (c ++ d) :: flG p b none := by
  induction d generalizing c with
  | nil =>
    rcases hb with rfl | ⟨y, r, rfl, hy⟩
    · simp [flG]
    · simp [flG, hy]
  | cons x r ih =>
    have h1 := h x (by simp)
    rw [List.cons_append]
    simp only [flG, h1]
    rw [if_neg (by simp), ih (c ++ [x]) fun y hy => h y (by simp [hy])]
    simp
theorem flG_fld (p : Nat → Bool) (d b : List UInt8) (h : ∀ x ∈ d, p x.toNat = false) (hd : d ≠ []) (hb : b = [] ∨ ∃ y r, b = y :: r ∧ p y.toNat = true) : flG p (d ++ b) none = d :: flG p b none := by
  cases d with
  | nil => exact absurd rfl hd
  | cons x r =>
    have h1 := h x (by simp)
    rw [List.cons_append]
    simp only [flG, h1]
    rw [if_neg (by simp), flG_open p r b [x] (fun y hy => h y (by simp [hy])) hb]
    rfl

/-- what ends a number in a text -/
def pn (c : Nat) : Bool := c != 45 && (decide (c < 48) || decide (57 < c))

theorem dig_mem : ∀ (u : Nat), ∀ c ∈ decDigits u, 48 ≤ c.toNat ∧ c.toNat ≤ 57 := by
  intro u
  induction u using Nat.strongRecOn with
  | _ u ih =>
    intro c hc
    have key : ∀ k, k < 10 → 48 ≤ (UInt8.ofNat (48 + k)).toNat ∧ (UInt8.ofNat (48 + k)).toNat ≤ 57 := by
      intro k hk
      rw [UInt8.toNat_ofNat']
      omega
    rw [decDigits] at hc
    split at hc
    · simp only [List.mem_singleton] at hc
      subst hc
      exact key u (by omega)
    · rw [List.mem_append] at hc
      rcases hc with hc | hc
      · exact ih (u / 10) (by omega) c hc
      · simp only [List.mem_singleton] at hc
        subst hc
        exact key (u % 10) (by omega)
theorem dig_ne (u : Nat) : decDigits u ≠ [] := by
  intro h
  have := congrArg List.length h
  rw [decDigits_length] at this
  have := nDigits_pos u
  simp at *
  omega
theorem itoa_mem (n : Int) : ∀ c ∈ itoa n, c.toNat = 45 ∨ (48 ≤ c.toNat ∧ c.toNat ≤ 57) := by
  intro c hc
  unfold itoa at hc
  split at hc
  · rw [List.mem_cons] at hc
    rcases hc with rfl | hc
    · exact .inl rfl
    · exact .inr (dig_mem _ c hc)
  · exact .inr (dig_mem _ c hc)
theorem itoa_ne (n : Int) : itoa n ≠ [] := by
  unfold itoa
  split
  · simp
  · exact dig_ne _
theorem itoa_pn (n : Int) : ∀ c ∈ itoa n, pn c.toNat = false := by
  intro c hc
  have := itoa_mem n c hc
  unfold pn
  rcases this with h | ⟨h1, h2⟩
  · simp [h]
  · simp; omega
theorem itoa_asc (n : Int) : ∀ c ∈ itoa n, c.toNat < 128 := by
  intro c hc
  have := itoa_mem n c hc
  omega

/- reading back -/
theorem parseM_dig (M : Nat) (hM : M < 18446744073709551616) : ∀ (u : Nat) (r : List UInt8), u ≤ M → parseUintM M 0 (decDigits u ++ r) = parseUintM M u r := by
  intro u
  induction u using Nat.strongRecOn with
  | _ u ih =>
    intro r hu
    have step : ∀ a k, k < 10 → a * 10 + k ≤ M → parseUintM M a (UInt8.ofNat (48 + k) :: r) = parseUintM M (a * 10 + k) r := by
      intro a k hk h
      have e : (UInt8.ofNat (48 + k)).toNat = 48 + k := by rw [UInt8.toNat_ofNat']; omega
      rw [parseUintM]
      rw [e, if_pos (by omega), if_neg (by omega), if_neg (by omega)]
      congr 1
      omega
    rw [decDigits]
    split
    · rename_i h
      rw [List.singleton_append, step 0 u h (by omega)]
      congr 1
      omega
    · rename_i h
      rw [List.append_assoc, ih (u / 10) (by omega) _ (by omega), List.singleton_append, step (u / 10) (u % 10) (by omega) (by omega)]
      congr 1
      omega
theorem parse_itoa (n : Int) (h1 : -9223372036854775808 ≤ n) (h2 : n ≤ 9223372036854775807) : parseIntB 64 (itoa n) = .ok n := by
  have pd : ∀ u, u ≤ 9223372036854775808 → parseUintB 64 (decDigits u) = .ok u := by
    intro u hu
    unfold parseUintB
    rw [if_neg (dig_ne u)]
    have := parseM_dig (2 ^ 64 - 1) (by omega) u [] (by omega)
    rw [List.append_nil] at this
    rw [this, parseUintM]
  unfold itoa
  split
  · rename_i h
    have := pd n.natAbs (by omega)
    simp only [parseIntB]
    have e : (45 : UInt8).toNat = 45 := rfl
    rw [e, if_pos (by omega), this]
    simp only
    rw [if_neg (by simp), if_neg (by simp; omega)]
    rw [if_pos trivial]
    congr 1
    omega
  · rename_i h
    have := pd n.toNat (by omega)
    have hm := dig_mem n.toNat
    generalize hl : decDigits n.toNat = l at *
    cases l with
    | nil => exact absurd hl (dig_ne _)
    | cons c r =>
      have hc := hm c (by simp)
      simp only [parseIntB]
      rw [if_neg (by omega), this]
      simp only
      rw [if_neg (by omega), if_neg (by omega), if_neg (by omega)]
      congr 1
      omega
theorem nDigits_lt (u k : Nat) (h : u < 10 ^ k) (hk : 1 ≤ k) : nDigits u ≤ k := by
  induction k generalizing u with
  | zero => omega
  | succ k ih =>
    by_cases h10 : u < 10
    · rw [nDigits_small h10]; omega
    · rw [nDigits_big h10]
      have hk1 : 1 ≤ k := by
        rcases Nat.eq_zero_or_pos k with rfl | h; · simp at h; omega
        · exact h
      have := ih (u / 10) (by rw [Nat.pow_succ] at h; omega) hk1
      omega
end Go.Proofs.YtjgjnedenapemaaGreatDoor

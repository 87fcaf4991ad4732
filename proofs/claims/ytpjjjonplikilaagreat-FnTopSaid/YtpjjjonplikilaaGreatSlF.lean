/- parts of the proof of the law, sliced: what it needs of the texts SymS, Sym4, Sym5, Sym6, Sym7, SymZ, Shr2. Conditions: none. -/
import Derived.Test.YtpjjjonplikilaaGreatSlA
import Derived.Test.YtpjjjonplikilaaGreatSlE
import Derived.Test.YtpjjjonplikilaaGreatAgZ
import Derived.Sort.Lot0
import Derived.Sort.LotA
set_option linter.unusedVariables false
set_option linter.unusedSimpArgs false
namespace Go.Proofs.YtpjjjonplikilaaGreat
open Go.Lib Go.Sort
variable {α : Type} [Inhabited α]

/-- n elements from a on change places with those from b on -/
def swR (d : Array α) (a b : Nat) : Nat → Array α
  | 0 => d
  | n + 1 => swp (swR d a b n) (a + n) (b + n)
theorem swR_size (d : Array α) (a b n : Nat) : (swR d a b n).size = d.size := by
  induction n with
  | zero => rfl
  | succ n ih => rw [swR, size_swp, ih]
/-- the blocks [m - i, m) and [m, m + j) change places -/
def rotM (m i j : Nat) (d : Array α) : Array α :=
  if i = j then swR d (m - i) m i
  else if i = 0 ∨ j = 0 then d
  else if j < i then rotM m (i - j) j (swR d (m - i) m j)
  else rotM m i (j - i) (swR d (m - i) (m + j - i) i)
termination_by i + j
decreasing_by all_goals omega
/-- a search by halves: the first place from i on at which p does not hold -/
def bsM (p : Nat → Bool) (i j : Nat) : Nat :=
  if h : i < j then (if p ((i + j) / 2) = true then bsM p ((i + j) / 2 + 1) j else bsM p i ((i + j) / 2)) else i
termination_by j - i
decreasing_by all_goals omega
/-- one element goes up to the place before i, by neighbours -/
def upM (d : Array α) (k i : Nat) : Array α := if k + 1 < i then upM (swp d k (k + 1)) (k + 1) i else d
termination_by i - k
/-- one element goes down to the place i -/
def downM (d : Array α) (k i : Nat) : Array α := if i < k then downM (swp d k (k - 1)) (k - 1) i else d
termination_by k - i
/-- the place at which the halves part -/
def stM (lt : α → α → Bool) (d : Array α) (a m b : Nat) : Nat :=
  let mid := (a + b) / 2
  let n := mid + m
  if mid < m then bsM (fun c => !lt d[n - 1 - c]! d[c]!) (n - b) mid else bsM (fun c => !lt d[n - 1 - c]! d[c]!) a m
def symM (lt : α → α → Bool) : Nat → Nat → Nat → Nat → Array α → Array α
  | 0, _, _, _, d => d
  | f + 1, a, m, b, d =>
    if m - a = 1 then upM d a (bsM (fun h => lt d[h]! d[a]!) m b)
    else if b - m = 1 then downM d m (bsM (fun h => !lt d[m]! d[h]!) a m)
    else
      let mid := (a + b) / 2
      let st := stM lt d a m b
      let en := mid + m - st
      let d1 := if st < m ∧ m < en then rotM m (m - st) (en - m) d else d
      let d2 := if a < st ∧ st < mid then symM lt f a st mid d1 else d1
      if mid < en ∧ en < b then symM lt f mid en b d2 else d2
theorem bsM_bd (p : Nat → Bool) (i j : Nat) (h : i ≤ j) : i ≤ bsM p i j ∧ bsM p i j ≤ j := by
  induction hn : j - i using Nat.strongRecOn generalizing i j with
  | _ n ih =>
    rw [bsM]
    split
    · split
      · have := ih (j - ((i + j) / 2 + 1)) (by omega) ((i + j) / 2 + 1) j (by omega) rfl
        omega
      · have := ih ((i + j) / 2 - i) (by omega) i ((i + j) / 2) (by omega) rfl
        omega
    · omega
/-- the search parts the places, where what holds at one holds at all before it -/
theorem bsM_part (p : Nat → Bool) (i j : Nat) (h : i ≤ j) (hm : ∀ c c', i ≤ c' → c' < c → c < j → p c = true → p c' = true) : (∀ c, i ≤ c → c < bsM p i j → p c = true) ∧ (∀ c, bsM p i j ≤ c → c < j → p c = false) := by
  induction hn : j - i using Nat.strongRecOn generalizing i j with
  | _ n ih =>
    rw [bsM]
    split
    · split
      · rename_i h1 h2
        obtain ⟨q1, q2⟩ := ih (j - ((i + j) / 2 + 1)) (by omega) ((i + j) / 2 + 1) j (by omega) (fun c c' a b d e => hm c c' (by omega) b d e) rfl
        refine ⟨fun c a b => ?_, q2⟩
        by_cases e : (i + j) / 2 + 1 ≤ c
        · exact q1 c e b
        · by_cases e2 : c = (i + j) / 2
          · rw [e2]; exact h2
          · exact hm ((i + j) / 2) c a (by omega) (by omega) h2
      · rename_i h1 h2
        obtain ⟨q1, q2⟩ := ih ((i + j) / 2 - i) (by omega) i ((i + j) / 2) (by omega) (fun c c' a b d e => hm c c' a b (by omega) e) rfl
        refine ⟨q1, fun c a b => ?_⟩
        by_cases e : c < (i + j) / 2
        · exact q2 c a e
        · cases hp : p c with
          | false => rfl
          | true =>
            exfalso
            apply h2
            by_cases e2 : c = (i + j) / 2
            · rw [← e2]; exact hp
            · exact hm c ((i + j) / 2) (by omega) (by omega) b hp
    · exact ⟨fun c a b => by omega, fun c a b => by omega⟩
theorem swR_get (d : Array α) (a b n : Nat) (hab : a + n ≤ b) (hb : b + n ≤ d.size) : ∀ k, (swR d a b n)[k]! = if a ≤ k ∧ k < a + n then d[k - a + b]! else if b ≤ k ∧ k < b + n then d[k - b + a]! else d[k]! := by
  induction n with
  | zero =>
    intro k
    rw [if_neg (by omega), if_neg (by omega)]; rfl
  | succ n ih =>
    have ih := ih (by omega) (by omega)
    intro k
    rw [swR]
    by_cases e1 : k = a + n
    · subst e1
      rw [swp_left _ _ _ (by rw [swR_size]; omega) (by omega), ih, if_neg (by omega), if_neg (by omega), if_pos (by omega)]
      congr 1; omega
    · by_cases e2 : k = b + n
      · subst e2
        rw [swp_right _ _ _ (by rw [swR_size]; omega), ih, if_neg (by omega), if_neg (by omega), if_neg (by omega), if_pos (by omega)]
        congr 1; omega
      · rw [swp_other _ _ _ _ e1 e2, ih]
        by_cases c1 : a ≤ k ∧ k < a + n
        · rw [if_pos c1, if_pos (by omega)]
        · by_cases c2 : b ≤ k ∧ k < b + n
          · rw [if_neg c1, if_pos c2, if_neg (by omega), if_pos (by omega)]
          · rw [if_neg c1, if_neg c2, if_neg (by omega), if_neg (by omega)]
theorem rotM_size (m i j : Nat) (d : Array α) : (rotM m i j d).size = d.size := by
  induction hn : i + j using Nat.strongRecOn generalizing i j d with
  | _ n ih =>
    rw [rotM]
    split
    · exact swR_size _ _ _ _
    · split
      · rfl
      · split
        · rw [ih _ (by omega) _ _ _ rfl, swR_size]
        · rw [ih _ (by omega) _ _ _ rfl, swR_size]
theorem rotM_get (m i j : Nat) (d : Array α) (hi : i ≤ m) (hj : m + j ≤ d.size) : ∀ k, (rotM m i j d)[k]! = if m - i ≤ k ∧ k < m - i + j then d[k + i]! else if m - i + j ≤ k ∧ k < m + j then d[k - j]! else d[k]! := by
  induction hn : i + j using Nat.strongRecOn generalizing i j d with
  | _ n ih =>
    intro k
    rw [rotM]
    split
    · rename_i e
      subst e
      rw [swR_get _ _ _ _ (by omega) (by omega)]
      by_cases c1 : m - i ≤ k ∧ k < m - i + i
      · rw [if_pos c1, if_pos c1]; congr 1; omega
      · rw [if_neg c1, if_neg c1]
        by_cases c2 : m ≤ k ∧ k < m + i
        · rw [if_pos c2, if_pos (by omega)]; congr 1; omega
        · rw [if_neg c2, if_neg (by omega)]
    · split
      · rename_i e0 e
        rcases e with e | e
        · subst e
          by_cases c1 : m - 0 ≤ k ∧ k < m - 0 + j
          · rw [if_pos c1]; rfl
          · rw [if_neg c1, if_neg (by omega)]
        · subst e
          rw [if_neg (by omega)]
          by_cases c2 : m - i + 0 ≤ k ∧ k < m + 0
          · rw [if_pos c2]; rfl
          · rw [if_neg c2]
      · rename_i e0 e1
        split
        · rename_i e2
          have hs : (swR d (m - i) m j).size = d.size := swR_size _ _ _ _
          rw [ih _ (by omega) (i - j) j (swR d (m - i) m j) (by omega) (by omega) rfl]
          have g := swR_get d (m - i) m j (by omega) (by omega)
          by_cases c1 : m - i ≤ k ∧ k < m - i + j
          · rw [if_pos c1, if_neg (by omega), if_neg (by omega), g, if_pos (by omega)]
            congr 1; omega
          · rw [if_neg c1]
            by_cases c2 : m - i + j ≤ k ∧ k < m + j
            · rw [if_pos c2]
              by_cases c3 : k < m - i + j + j
              · rw [if_pos (by omega), g]
                by_cases c4 : m ≤ k + (i - j)
                · rw [if_neg (by omega), if_pos (by omega)]; congr 1; omega
                · omega
              · rw [if_neg (by omega), if_pos (by omega), g, if_neg (by omega), if_neg (by omega)]
            · rw [if_neg c2, if_neg (by omega), if_neg (by omega), g, if_neg (by omega), if_neg (by omega)]
        · rename_i e2
          have hs : (swR d (m - i) (m + j - i) i).size = d.size := swR_size _ _ _ _
          rw [ih _ (by omega) i (j - i) (swR d (m - i) (m + j - i) i) (by omega) (by omega) rfl]
          have g := swR_get d (m - i) (m + j - i) i (by omega) (by omega)
          by_cases c1 : m - i ≤ k ∧ k < m - i + j
          · rw [if_pos c1]
            by_cases c3 : k < m - i + (j - i)
            · rw [if_pos (by omega), g, if_neg (by omega), if_neg (by omega)]
            · rw [if_neg (by omega), if_pos (by omega), g, if_pos (by omega)]
              congr 1; omega
          · rw [if_neg c1]
            by_cases c2 : m - i + j ≤ k ∧ k < m + j
            · rw [if_pos c2, if_neg (by omega), if_neg (by omega), g, if_neg (by omega), if_pos (by omega)]
              congr 1; omega
            · rw [if_neg c2, if_neg (by omega), if_neg (by omega), g, if_neg (by omega), if_neg (by omega)]
theorem upM_get (d : Array α) (k i : Nat) (h1 : k < i) (h2 : i ≤ d.size) : ∀ p, (upM d k i)[p]! = if k ≤ p ∧ p + 1 < i then d[p + 1]! else if p + 1 = i then d[k]! else d[p]! := by
  induction hn : i - k using Nat.strongRecOn generalizing k d with
  | _ n ih =>
    intro p
    rw [upM]
    split
    · rename_i h
      rw [ih _ (by omega) (swp d k (k + 1)) (k + 1) (by omega) (by rw [size_swp]; omega) rfl]
      by_cases c1 : k + 1 ≤ p ∧ p + 1 < i
      · rw [if_pos c1, if_pos (by omega), swp_other _ _ _ _ (by omega) (by omega)]
      · rw [if_neg c1]
        by_cases c2 : p + 1 = i
        · rw [if_pos c2, if_neg (by omega), if_pos c2, swp_right _ _ _ (by omega)]
        · rw [if_neg c2]
          by_cases c3 : p = k
          · subst c3
            rw [swp_left _ _ _ (by omega) (by omega), if_pos (by omega)]
          · rw [swp_other _ _ _ _ c3 (by omega), if_neg (by omega), if_neg c2]
    · rename_i h
      rw [if_neg (by omega)]
      by_cases c2 : p + 1 = i
      · rw [if_pos c2]; congr 1; omega
      · rw [if_neg c2]
theorem downM_get (d : Array α) (k i : Nat) (h1 : i ≤ k) (h2 : k < d.size) : ∀ p, (downM d k i)[p]! = if i < p ∧ p ≤ k then d[p - 1]! else if p = i then d[k]! else d[p]! := by
  induction hn : k - i using Nat.strongRecOn generalizing k d with
  | _ n ih =>
    intro p
    rw [downM]
    split
    · rename_i h
      rw [ih _ (by omega) (swp d k (k - 1)) (k - 1) (by omega) (by rw [size_swp]; omega) rfl]
      by_cases c1 : i < p ∧ p ≤ k - 1
      · rw [if_pos c1, if_pos (by omega), swp_other _ _ _ _ (by omega) (by omega)]
      · rw [if_neg c1]
        by_cases c2 : p = i
        · rw [if_pos c2, if_neg (by omega), if_pos c2, swp_right _ _ _ (by omega)]
        · rw [if_neg c2]
          by_cases c3 : p = k
          · subst c3
            rw [swp_left _ _ _ (by omega) (by omega), if_pos (by omega)]
          · rw [swp_other _ _ _ _ c3 (by omega), if_neg (by omega), if_neg c2]
    · rename_i h
      obtain rfl : i = k := by omega
      rw [if_neg (by omega)]
      by_cases c2 : p = i
      · rw [if_pos c2, c2]
      · rw [if_neg c2]
theorem upM_perm (a b : Nat) (i : Nat) (hb : b ≥ i) : ∀ (d : Array α) (k : Nat), a ≤ k → k < i → b ≤ d.size → PermIn a b d (upM d k i) := by
  intro d k ha h1 h2
  induction hn : i - k using Nat.strongRecOn generalizing k d with
  | _ n ih =>
    rw [upM]
    split
    · rename_i h
      exact permIn_trans _ _ _ _ _ (swp_permIn d a b k (k + 1) ha (by omega) (by omega) (by omega) h2) (ih _ (by omega) (swp d k (k + 1)) (k + 1) (by omega) (by omega) (by rw [size_swp]; exact h2) rfl)
    · exact permIn_refl _ _ _
theorem downM_perm (a b : Nat) (i : Nat) (ha : a ≤ i) : ∀ (d : Array α) (k : Nat), i ≤ k → k < b → b ≤ d.size → PermIn a b d (downM d k i) := by
  intro d k h1 h3 h2
  induction hn : k - i using Nat.strongRecOn generalizing k d with
  | _ n ih =>
    rw [downM]
    split
    · rename_i h
      exact permIn_trans _ _ _ _ _ (swp_permIn d a b k (k - 1) (by omega) h3 (by omega) (by omega) h2) (ih _ (by omega) (swp d k (k - 1)) (k - 1) (by omega) (by omega) (by rw [size_swp]; exact h2) rfl)
    · exact permIn_refl _ _ _
theorem swR_perm (a b : Nat) (d : Array α) (x y : Nat) (n : Nat) (h1 : a ≤ x) (h2 : a ≤ y) (h3 : x + n ≤ b) (h4 : y + n ≤ b) (hb : b ≤ d.size) : PermIn a b d (swR d x y n) := by
  induction n with
  | zero => exact permIn_refl _ _ _
  | succ n ih =>
    rw [swR]
    exact permIn_trans _ _ _ _ _ (ih (by omega) (by omega)) (swp_permIn _ a b (x + n) (y + n) (by omega) (by omega) (by omega) (by omega) (by rw [swR_size]; exact hb))
theorem rotM_perm (a b m i j : Nat) (d : Array α) (h1 : a + i ≤ m) (h2 : m + j ≤ b) (hb : b ≤ d.size) : PermIn a b d (rotM m i j d) := by
  induction hn : i + j using Nat.strongRecOn generalizing i j d with
  | _ n ih =>
    rw [rotM]
    split
    · exact swR_perm a b d _ _ _ (by omega) (by omega) (by omega) (by omega) hb
    · split
      · exact permIn_refl _ _ _
      · split
        · exact permIn_trans _ _ _ _ _ (swR_perm a b d _ _ _ (by omega) (by omega) (by omega) (by omega) hb) (ih _ (by omega) _ _ _ (by omega) (by omega) (by rw [swR_size]; exact hb) rfl)
        · exact permIn_trans _ _ _ _ _ (swR_perm a b d _ _ _ (by omega) (by omega) (by omega) (by omega) hb) (ih _ (by omega) _ _ _ (by omega) (by omega) (by rw [swR_size]; exact hb) rfl)
/-! the law -/
structure StO (R : α → α → Prop) : Prop where
  ir : ∀ x, ¬ R x x
  tr : ∀ x y z, R x y → R y z → R x z
def Srt9 (R : α → α → Prop) (d : Array α) (a b : Nat) : Prop := ∀ i j, a ≤ i → i < j → j < b → R d[i]! d[j]!
/-- the halves are told apart by lt as by R -/
def Cmp9 (lt : α → α → Bool) (R : α → α → Prop) (d : Array α) (a m b : Nat) : Prop := ∀ i j, a ≤ i → i < m → m ≤ j → j < b → (lt d[j]! d[i]! = true → R d[j]! d[i]!) ∧ (lt d[j]! d[i]! = false → R d[i]! d[j]!)
theorem Cmp9.anti {lt : α → α → Bool} {R : α → α → Prop} (hR : StO R) {d : Array α} {a m b : Nat} (h : Cmp9 lt R d a m b) {i j : Nat} (h1 : a ≤ i) (h2 : i < m) (h3 : m ≤ j) (h4 : j < b) (hr : R d[i]! d[j]!) : lt d[j]! d[i]! = false := by
  cases e : lt d[j]! d[i]! with
  | false => rfl
  | true => exact absurd (hR.tr _ _ _ hr ((h i j h1 h2 h3 h4).1 e)) (hR.ir _)
/-- where the halves part -/
theorem stM_ok {lt : α → α → Bool} {R : α → α → Prop} (hR : StO R) {d : Array α} {a m b : Nat} (ham : a < m) (hmb : m < b) (hl : Srt9 R d a m) (hr : Srt9 R d m b) (hc : Cmp9 lt R d a m b) :
    (a ≤ stM lt d a m b ∧ stM lt d a m b ≤ (a + b) / 2 ∧ stM lt d a m b ≤ m ∧ (a + b) / 2 + m - stM lt d a m b ≤ b) ∧
    (stM lt d a m b < m → m < (a + b) / 2 + m - stM lt d a m b → R d[(a + b) / 2 + m - stM lt d a m b - 1]! d[stM lt d a m b]!) ∧
    (a < stM lt d a m b → (a + b) / 2 + m - stM lt d a m b < b → R d[stM lt d a m b - 1]! d[(a + b) / 2 + m - stM lt d a m b]!) := by
  have hmid1 : 2 * ((a + b) / 2) ≤ a + b := by omega
  have hmid2 : a + b ≤ 2 * ((a + b) / 2) + 1 := by omega
  unfold stM
  generalize (a + b) / 2 = mid at *
  have hmono : ∀ lo hi, a ≤ lo → hi ≤ m → hi ≤ mid → mid + m ≤ lo + b → ∀ c c', lo ≤ c' → c' < c → c < hi → (!lt d[mid + m - 1 - c]! d[c]!) = true → (!lt d[mid + m - 1 - c']! d[c']!) = true := by
    intro lo hi k1 k2 k3 k4 c c' g1 g2 g3 g4
    rw [Bool.not_eq_true'] at g4 ⊢
    have q1 := (hc c (mid + m - 1 - c) (by omega) (by omega) (by omega) (by omega)).2 g4
    have q2 := hl c' c (by omega) g2 (by omega)
    have q3 := hr (mid + m - 1 - c) (mid + m - 1 - c') (by omega) (by omega) (by omega)
    exact hc.anti hR (by omega) (by omega) (by omega) (by omega) (hR.tr _ _ _ q2 (hR.tr _ _ _ q1 q3))
  have fin : ∀ lo hi st, a ≤ lo → hi ≤ m → hi ≤ mid → lo ≤ hi → mid + m ≤ lo + b → (hi = m ∨ hi = mid) → (lo = a ∨ mid + m = lo + b) → lo ≤ st → st ≤ hi → (∀ c, lo ≤ c → c < st → (!lt d[mid + m - 1 - c]! d[c]!) = true) → (∀ c, st ≤ c → c < hi → (!lt d[mid + m - 1 - c]! d[c]!) = false) →
      (a ≤ st ∧ st ≤ mid ∧ st ≤ m ∧ mid + m - st ≤ b) ∧ (st < m → m < mid + m - st → R d[mid + m - st - 1]! d[st]!) ∧ (a < st → mid + m - st < b → R d[st - 1]! d[mid + m - st]!) := by
    intro lo hi st k1 k2 k3 k4 k5 k6 k7 k8 k9 k10 k11
    refine ⟨by omega, fun g1 g2 => ?_, fun g1 g2 => ?_⟩
    · have := k11 st (Nat.le_refl _) (by omega)
      rw [Bool.not_eq_false', show mid + m - 1 - st = mid + m - st - 1 by omega] at this
      exact (hc st (mid + m - st - 1) (by omega) g1 (by omega) (by omega)).1 this
    · have := k10 (st - 1) (by omega) (by omega)
      rw [Bool.not_eq_true', show mid + m - 1 - (st - 1) = mid + m - st by omega] at this
      exact (hc (st - 1) (mid + m - st) (by omega) (by omega) (by omega) (by omega)).2 this
  by_cases c : mid < m
  · simp only [if_pos c]
    have hb := bsM_bd (fun c => !lt d[mid + m - 1 - c]! d[c]!) (mid + m - b) mid (by omega)
    have hp := bsM_part (fun c => !lt d[mid + m - 1 - c]! d[c]!) (mid + m - b) mid (by omega) (hmono _ _ (by omega) (by omega) (by omega) (by omega))
    exact fin _ _ _ (by omega) (by omega) (by omega) (by omega) (by omega) (.inr rfl) (.inr (by omega)) hb.1 hb.2 hp.1 hp.2
  · simp only [if_neg c]
    have hb := bsM_bd (fun c => !lt d[mid + m - 1 - c]! d[c]!) a m (by omega)
    have hp := bsM_part (fun c => !lt d[mid + m - 1 - c]! d[c]!) a m (by omega) (hmono _ _ (by omega) (by omega) (by omega) (by omega))
    exact fin _ _ _ (by omega) (by omega) (by omega) (by omega) (by omega) (.inl rfl) (.inl rfl) hb.1 hb.2 hp.1 hp.2
/-- the first step: the inner blocks change places -/
theorem d1_get (d : Array α) (m st en mid : Nat) (h1 : st ≤ m) (h2 : m ≤ en) (h3 : mid + m = st + en) (hen : en ≤ d.size) : ∀ p, (if st < m ∧ m < en then rotM m (m - st) (en - m) d else d)[p]! = if st ≤ p ∧ p < mid then d[p + (m - st)]! else if mid ≤ p ∧ p < en then d[p - (en - m)]! else d[p]! := by
  intro p
  by_cases c : st < m ∧ m < en
  · rw [if_pos c, rotM_get _ _ _ _ (by omega) (by omega)]
    by_cases c1 : st ≤ p ∧ p < mid
    · rw [if_pos c1, if_pos (by omega)]
    · by_cases c2 : mid ≤ p ∧ p < en
      · rw [if_neg c1, if_pos c2, if_neg (by omega), if_pos (by omega)]
      · rw [if_neg c1, if_neg c2, if_neg (by omega), if_neg (by omega)]
  · rw [if_neg c]
    by_cases c1 : st ≤ p ∧ p < mid
    · rw [if_pos c1]; congr 1; omega
    · by_cases c2 : mid ≤ p ∧ p < en
      · rw [if_neg c1, if_pos c2]; congr 1; omega
      · rw [if_neg c1, if_neg c2]
theorem symM_ok {lt : α → α → Bool} {R : α → α → Prop} (hR : StO R) : ∀ (f a m b : Nat) (d : Array α), b - a ≤ f → a < m → m < b → b ≤ d.size → Srt9 R d a m → Srt9 R d m b → Cmp9 lt R d a m b → PermIn a b d (symM lt f a m b d) ∧ Srt9 R (symM lt f a m b d) a b
  | 0, a, m, b, d, hf, h1, h2, _, _, _, _ => by omega
  | f + 1, a, m, b, d, hf, ham, hmb, hb, hl, hr, hc => by
    rw [symM]
    by_cases c1 : m - a = 1
    · rw [if_pos c1]
      obtain rfl : m = a + 1 := by omega
      have hbd := bsM_bd (fun h => lt d[h]! d[a]!) (a + 1) b (by omega)
      have hpt := bsM_part (fun h => lt d[h]! d[a]!) (a + 1) b (by omega) (fun c c' g1 g2 g3 g4 => by
        have q1 := (hc a c (Nat.le_refl _) (by omega) (by omega) g3).1 g4
        have q2 := hr c' c g1 g2 g3
        cases e : lt d[c']! d[a]! with
        | true => rfl
        | false => exact absurd (hR.tr _ _ _ ((hc a c' (Nat.le_refl _) (by omega) g1 (by omega)).2 e) (hR.tr _ _ _ q2 q1)) (hR.ir _))
      generalize bsM (fun h => lt d[h]! d[a]!) (a + 1) b = i at *
      have g := upM_get d a i (by omega) (by omega)
      refine ⟨upM_perm a b i hbd.2 d a (Nat.le_refl _) (by omega) hb, fun p q hp hpq hq => ?_⟩
      have low : ∀ j, a + 1 ≤ j → j < i → R d[j]! d[a]! := fun j j1 j2 => (hc a j (Nat.le_refl _) (by omega) j1 (by omega)).1 (hpt.1 j j1 j2)
      have high : ∀ j, i ≤ j → j < b → R d[a]! d[j]! := fun j j1 j2 => (hc a j (Nat.le_refl _) (by omega) (by omega) j2).2 (hpt.2 j j1 j2)
      rw [g, g]
      by_cases a1 : p + 1 < i
      · rw [if_pos (by omega)]
        by_cases a2 : q + 1 < i
        · rw [if_pos (by omega)]; exact hr _ _ (by omega) (by omega) (by omega)
        · rw [if_neg (by omega)]
          by_cases a3 : q + 1 = i
          · rw [if_pos a3]; exact low _ (by omega) (by omega)
          · rw [if_neg a3]; exact hr _ _ (by omega) (by omega) (by omega)
      · rw [if_neg (by omega)]
        by_cases a4 : p + 1 = i
        · rw [if_pos a4, if_neg (by omega), if_neg (by omega)]; exact high _ (by omega) (by omega)
        · rw [if_neg a4, if_neg (by omega), if_neg (by omega)]; exact hr _ _ (by omega) (by omega) (by omega)
    · rw [if_neg c1]
      by_cases c2 : b - m = 1
      · rw [if_pos c2]
        obtain rfl : b = m + 1 := by omega
        have hbd := bsM_bd (fun h => !lt d[m]! d[h]!) a m (by omega)
        have hpt := bsM_part (fun h => !lt d[m]! d[h]!) a m (by omega) (fun c c' g1 g2 g3 g4 => by
          rw [Bool.not_eq_true'] at g4 ⊢
          have q1 := (hc c m (by omega) g3 (Nat.le_refl _) (by omega)).2 g4
          have q2 := hl c' c g1 g2 g3
          exact hc.anti hR g1 (by omega) (Nat.le_refl _) (by omega) (hR.tr _ _ _ q2 q1))
        generalize bsM (fun h => !lt d[m]! d[h]!) a m = i at *
        have g := downM_get d m i (by omega) (by omega)
        refine ⟨downM_perm a (m + 1) i hbd.1 d m (by omega) (by omega) hb, fun p q hp hpq hq => ?_⟩
        have low : ∀ j, a ≤ j → j < i → R d[j]! d[m]! := fun j j1 j2 => by
          have := hpt.1 j j1 j2
          rw [Bool.not_eq_true'] at this
          exact (hc j m j1 (by omega) (Nat.le_refl _) (by omega)).2 this
        have high : ∀ j, i ≤ j → j < m → R d[m]! d[j]! := fun j j1 j2 => by
          have := hpt.2 j j1 j2
          rw [Bool.not_eq_false'] at this
          exact (hc j m (by omega) j2 (Nat.le_refl _) (by omega)).1 this
        rw [g, g]
        by_cases a1 : q ≤ i
        · by_cases a2 : q = i
          · rw [if_neg (by omega), if_neg (by omega), if_neg (by omega), if_pos a2]; exact low _ hp (by omega)
          · rw [if_neg (by omega), if_neg (by omega), if_neg (by omega), if_neg a2]; exact hl _ _ hp hpq (by omega)
        · rw [if_pos (show i < q ∧ q ≤ m by omega)]
          by_cases a3 : p < i
          · rw [if_neg (by omega), if_neg (by omega)]; exact hl _ _ hp (by omega) (by omega)
          · by_cases a4 : p = i
            · rw [if_neg (by omega), if_pos a4]; exact high _ (by omega) (by omega)
            · rw [if_pos (by omega)]; exact hl _ _ (by omega) (by omega) (by omega)
      · rw [if_neg c2]
        obtain ⟨⟨s1, s2, s3, s4⟩, F1, F2⟩ := stM_ok hR ham hmb hl hr hc
        simp only
        generalize stM lt d a m b = st at *
        have hmid1 : 2 * ((a + b) / 2) ≤ a + b := by omega
        have hmid2 : a + b ≤ 2 * ((a + b) / 2) + 1 := by omega
        generalize (a + b) / 2 = mid at *
        generalize hen : mid + m - st = en at s4 F1 F2 ⊢
        have g := d1_get d m st en mid s3 (by omega) (by omega) (by omega)
        have P1 : PermIn a b d (if st < m ∧ m < en then rotM m (m - st) (en - m) d else d) := by
          split
          · exact rotM_perm a b m _ _ d (by omega) (by omega) hb
          · exact permIn_refl _ _ _
        generalize (if st < m ∧ m < en then rotM m (m - st) (en - m) d else d) = d1 at *
        have z1 : d1.size = d.size := P1.1
        have gA : ∀ p, p < st → d1[p]! = d[p]! := fun p h => by rw [g, if_neg (by omega), if_neg (by omega)]
        have gB : ∀ p, st ≤ p → p < mid → d1[p]! = d[p + (m - st)]! := fun p h h' => by rw [g, if_pos ⟨h, h'⟩]
        have gC : ∀ p, mid ≤ p → p < en → d1[p]! = d[p - (en - m)]! := fun p h h' => by rw [g, if_neg (by omega), if_pos ⟨h, h'⟩]
        have gD : ∀ p, en ≤ p → d1[p]! = d[p]! := fun p h => by rw [g, if_neg (by omega), if_neg (by omega)]
        have S1 : Srt9 R d1 a st := fun i j h1 h2 h3 => by rw [gA i (by omega), gA j h3]; exact hl _ _ h1 h2 (by omega)
        have S2 : Srt9 R d1 st mid := fun i j h1 h2 h3 => by rw [gB i h1 (by omega), gB j (by omega) h3]; exact hr _ _ (by omega) (by omega) (by omega)
        have S3 : Srt9 R d1 mid en := fun i j h1 h2 h3 => by rw [gC i h1 (by omega), gC j (by omega) h3]; exact hl _ _ (by omega) (by omega) (by omega)
        have S4 : Srt9 R d1 en b := fun i j h1 h2 h3 => by rw [gD i h1, gD j (by omega)]; exact hr _ _ (by omega) (by omega) h3
        have X : ∀ p q, a ≤ p → p < mid → mid ≤ q → q < b → R d1[p]! d1[q]! := fun p q h1 h2 h3 h4 => by
          by_cases e1 : p < st <;> by_cases e2 : q < en
          · rw [gA p e1, gC q h3 e2]; exact hl _ _ h1 (by omega) (by omega)
          · rw [gA p e1, gD q (by omega)]
            have k := F2 (by omega) (by omega)
            have k1 : p = st - 1 ∨ R d[p]! d[st - 1]! := by
              by_cases e : p = st - 1
              · exact .inl e
              · exact .inr (hl _ _ h1 (by omega) (by omega))
            have k2 : q = en ∨ R d[en]! d[q]! := by
              by_cases e : q = en
              · exact .inl e
              · exact .inr (hr _ _ (by omega) (by omega) h4)
            rcases k1 with rfl | k1 <;> rcases k2 with rfl | k2
            · exact k
            · exact hR.tr _ _ _ k k2
            · exact hR.tr _ _ _ k1 k
            · exact hR.tr _ _ _ k1 (hR.tr _ _ _ k k2)
          · rw [gB p (by omega) h2, gC q h3 e2]
            have k := F1 (by omega) (by omega)
            have k1 : p + (m - st) = en - 1 ∨ R d[p + (m - st)]! d[en - 1]! := by
              by_cases e : p + (m - st) = en - 1
              · exact .inl e
              · exact .inr (hr _ _ (by omega) (by omega) (by omega))
            have k2 : q - (en - m) = st ∨ R d[st]! d[q - (en - m)]! := by
              by_cases e : q - (en - m) = st
              · exact .inl e
              · exact .inr (hl _ _ (by omega) (by omega) (by omega))
            rcases k1 with k1 | k1 <;> rcases k2 with k2 | k2
            · rw [k1, k2]; exact k
            · rw [k1]; exact hR.tr _ _ _ k k2
            · rw [k2]; exact hR.tr _ _ _ k1 k
            · exact hR.tr _ _ _ k1 (hR.tr _ _ _ k k2)
          · rw [gB p (by omega) h2, gD q (by omega)]; exact hr _ _ (by omega) (by omega) h4
        have H2 : PermIn a mid d1 (if a < st ∧ st < mid then symM lt f a st mid d1 else d1) ∧ Srt9 R (if a < st ∧ st < mid then symM lt f a st mid d1 else d1) a mid := by
          by_cases e : a < st ∧ st < mid
          · rw [if_pos e]
            exact symM_ok hR f a st mid d1 (by omega) e.1 e.2 (by omega) S1 S2 (fun i j h1 h2 h3 h4 => by
              rw [gA i h2, gB j h3 h4]; exact hc _ _ h1 (by omega) (by omega) (by omega))
          · rw [if_neg e]
            refine ⟨permIn_refl _ _ _, ?_⟩
            by_cases e2 : a < st
            · exact fun i j h1 h2 h3 => S1 i j h1 h2 (by omega)
            · exact fun i j h1 h2 h3 => S2 i j (by omega) h2 h3
        generalize (if a < st ∧ st < mid then symM lt f a st mid d1 else d1) = d2 at *
        obtain ⟨P2, T2⟩ := H2
        have z2 : d2.size = d1.size := P2.1
        have o2 : ∀ p, mid ≤ p → d2[p]! = d1[p]! := fun p h => P2.2.1 p (.inr h)
        have S3' : Srt9 R d2 mid en := fun i j h1 h2 h3 => by rw [o2 i h1, o2 j (by omega)]; exact S3 i j h1 h2 h3
        have S4' : Srt9 R d2 en b := fun i j h1 h2 h3 => by rw [o2 i (by omega), o2 j (by omega)]; exact S4 i j h1 h2 h3
        have H3 : PermIn mid b d2 (if mid < en ∧ en < b then symM lt f mid en b d2 else d2) ∧ Srt9 R (if mid < en ∧ en < b then symM lt f mid en b d2 else d2) mid b := by
          by_cases e : mid < en ∧ en < b
          · rw [if_pos e]
            exact symM_ok hR f mid en b d2 (by omega) e.1 e.2 (by omega) S3' S4' (fun i j h1 h2 h3 h4 => by
              rw [o2 i h1, o2 j (by omega), gC i h1 h2, gD j h3]; exact hc _ _ (by omega) (by omega) (by omega) h4)
          · rw [if_neg e]
            refine ⟨permIn_refl _ _ _, ?_⟩
            by_cases e2 : mid < en
            · exact fun i j h1 h2 h3 => S3' i j h1 h2 (by omega)
            · exact fun i j h1 h2 h3 => S4' i j (by omega) h2 h3
        generalize (if mid < en ∧ en < b then symM lt f mid en b d2 else d2) = d3 at *
        obtain ⟨P3, T3⟩ := H3
        have o3 : ∀ p, p < mid → d3[p]! = d2[p]! := fun p h => P3.2.1 p (.inl h)
        refine ⟨permIn_trans _ _ _ _ _ P1 (permIn_trans _ _ _ _ _ (permIn_mono _ _ a mid a b (Nat.le_refl _) (by omega) (by omega) P2) (permIn_mono _ _ mid b a b (by omega) (Nat.le_refl _) (by omega) P3)), fun p q h1 h2 h3 => ?_⟩
        by_cases e1 : q < mid
        · rw [o3 p (by omega), o3 q e1]; exact T2 p q h1 h2 e1
        · by_cases e2 : mid ≤ p
          · exact T3 p q e2 h2 h3
          · rw [o3 p (by omega)]
            refine permIn_all d2 d3 mid b (fun y => R d2[p]! y) (by omega) P3 (fun q' q1 q2 => ?_) q (by omega) h3
            rw [o2 q' q1]
            exact permIn_all d1 d2 a mid (fun x => R x d1[q']!) (by omega) P2 (fun p' p1 p2 => X p' q' p1 p2 q1 q2) p h1 (by omega)
end Go.Proofs.YtpjjjonplikilaaGreat
namespace Go.Proofs.YtpjjjonplikilaaGreat
open Go.Lib Go.Sort
variable {α : Type} [Inhabited α]

theorem insInner_eq (lt l2 : α → α → Bool) (a : Nat) : ∀ (j : Nat) (d : Array α), j < d.size → (∀ p, a ≤ p → p < j → lt d[j]! d[p]! = l2 d[j]! d[p]!) → insInner lt a j d = insInner l2 a j d
  | 0, d, _, _ => rfl
  | j + 1, d, hj, h => by
    unfold insInner
    by_cases c : j + 1 > a
    · rw [h j (by omega) (by omega)]
      split
      · refine insInner_eq lt l2 a j _ (by rw [size_swp]; omega) fun p h1 h2 => ?_
        rw [swp_right _ _ _ (by omega), swp_other _ _ _ _ (by omega) (by omega)]
        exact h p h1 (by omega)
      · rfl
    · have : decide (j + 1 > a) = false := decide_eq_false c
      simp only [this, Bool.false_and]
      rfl
theorem insInner_perm (lt : α → α → Bool) (a b : Nat) : ∀ (j : Nat) (d : Array α), a ≤ j → j < b → b ≤ d.size → PermIn a b d (insInner lt a j d)
  | 0, d, _, _, _ => permIn_refl _ _ _
  | j + 1, d, h1, h2, h3 => by
    unfold insInner
    split
    · rename_i hc
      simp only [Bool.and_eq_true, decide_eq_true_eq] at hc
      exact permIn_trans _ _ _ _ _ (swp_permIn d a b (j + 1) j h1 (by omega) (by omega) (by omega) h3) (insInner_perm lt a b j _ (by omega) (by omega) (by rw [size_swp]; exact h3))
    · exact permIn_refl _ _ _
/-- where lt tells a later element from an earlier one as l2 does, the insertion sorts are one -/
theorem insOuter_eq (lt l2 : α → α → Bool) (a b : Nat) (d0 : Array α) (h0 : ∀ i j, a ≤ i → i < j → j < b → lt d0[j]! d0[i]! = l2 d0[j]! d0[i]!) (hb : b ≤ d0.size) : ∀ (n i : Nat) (d : Array α), b - i = n → a < i → PermIn a i d0 d → insOuter lt a b i d = insOuter l2 a b i d
  | 0, i, d, hn, _, _ => by
    rw [insOuter.eq_def lt, insOuter.eq_def l2, if_neg (by omega), if_neg (by omega)]
  | n + 1, i, d, hn, ha, hp => by
    have hlt : i < b := by omega
    rw [insOuter.eq_def lt, insOuter.eq_def l2, if_pos hlt, if_pos hlt]
    have hsz := hp.1
    have e : insInner lt a i d = insInner l2 a i d := insInner_eq lt l2 a i d (by omega) fun p h1 h2 => by
      have ei : d[i]! = d0[i]! := hp.2.1 i (.inr (Nat.le_refl _))
      rw [ei]
      exact permIn_all d0 d a i (fun x => lt d0[i]! x = l2 d0[i]! x) (by omega) hp (fun q q1 q2 => h0 q i q1 q2 hlt) p h1 h2
    rw [e]
    refine insOuter_eq lt l2 a b d0 h0 hb n (i + 1) _ (by omega) (by omega) ?_
    exact permIn_trans _ _ _ _ _ (permIn_mono _ _ a i a (i + 1) (Nat.le_refl _) (by omega) (by omega) hp) (insInner_perm l2 a (i + 1) i d (by omega) (by omega) (by omega))
theorem insSort_eq (lt l2 : α → α → Bool) (a b : Nat) (d0 : Array α) (hab : a < b) (hb : b ≤ d0.size) (h0 : ∀ i j, a ≤ i → i < j → j < b → lt d0[j]! d0[i]! = l2 d0[j]! d0[i]!) : insertionSort lt d0 a b = insertionSort l2 d0 a b :=
  insOuter_eq lt l2 a b d0 h0 hb _ _ _ rfl (by omega) (permIn_refl _ _ _)
end Go.Proofs.YtpjjjonplikilaaGreat
namespace Go.Proofs.YtpjjjonplikilaaGreat
open Go.Lib Go.Sort
variable {α : Type} [Inhabited α]

/-- what holds of every two elements, in any order, holds behind a permutation -/
theorem tot_perm {T : α → α → Prop} (hT : ∀ x y, T x y → T y x) {d0 d : Array α} {a b : Nat} (hp : PermIn a b d0 d) (hb : b ≤ d0.size) (h : ∀ i j, a ≤ i → i < j → j < b → T d0[i]! d0[j]!) : ∀ i j, a ≤ i → i < j → j < b → T d[i]! d[j]! := by
  have e0 := extract_toList d0 a b hb
  have e1 := extract_toList d a b (by rw [hp.1]; exact hb)
  have hpm := hp.2.2
  rw [e0, e1] at hpm
  have h1 : ((List.range' a (b - a)).map fun i => d0[i]!).Pairwise T := by
    rw [List.pairwise_iff_getElem]
    intro i j hi hj hij
    simp only [List.length_map, List.length_range'] at hi hj
    simp only [List.getElem_map, List.getElem_range', Nat.one_mul]
    exact h _ _ (by omega) (by omega) (by omega)
  have h2 := (hpm.pairwise_iff (fun {x y} h => hT x y h)).2 h1
  rw [List.pairwise_iff_getElem] at h2
  intro i j hi hij hj
  have := h2 (i - a) (j - a) (by simp; omega) (by simp; omega) (by omega)
  simp only [List.getElem_map, List.getElem_range', Nat.one_mul] at this
  rw [show a + (i - a) = i by omega, show a + (j - a) = j by omega] at this
  exact this
/-- lt tells what stands later in the beginning from what stands earlier as Rb does -/
def Org (lt Rb : α → α → Bool) (d0 : Array α) (n : Nat) : Prop := ∀ i j, i < j → j < n → lt d0[j]! d0[i]! = Rb d0[j]! d0[i]! ∧ (Rb d0[j]! d0[i]! = false → Rb d0[i]! d0[j]! = true)
theorem ins_srt {lt Rb : α → α → Bool} (hS : SWO Rb) {d0 : Array α} {n : Nat} (hO : Org lt Rb d0 n) (hn : n ≤ d0.size) (a b : Nat) (hab : a < b) (hb : b ≤ n) (d : Array α) (hsz : d.size = d0.size) (hd : ∀ i, a ≤ i → i < b → d[i]! = d0[i]!) : PermIn a b d (insertionSort lt d a b) ∧ Srt9 (fun x y => Rb x y = true) (insertionSort lt d a b) a b := by
  rw [insSort_eq lt Rb a b d hab (by omega) (fun i j h1 h2 h3 => by rw [hd j (by omega) h3, hd i h1 (by omega)]; exact (hO i j h2 (by omega)).1)]
  have h := insertionSort_of (lt := Rb) swp_permIn permIn_refl permIn_trans hS d a b (by omega) (by omega)
  refine ⟨h.1, fun i j h1 h2 h3 => ?_⟩
  have ht := tot_perm (T := fun x y => Rb x y = true ∨ Rb y x = true) (fun x y h => h.symm) h.1 (by omega) (fun i j h1 h2 h3 => by
    rw [hd j (by omega) h3, hd i h1 (by omega)]
    cases e : Rb d0[j]! d0[i]! with
    | true => exact .inr rfl
    | false => exact .inl ((hO i j h2 (by omega)).2 e)) i j h1 h2 h3
  rcases ht with ht | ht
  · exact ht
  · have := h.2 i j h1 h2 h3
    rw [ht] at this
    cases this
/-! blocks -/
def In9 (d0 d : Array α) (a b : Nat) : Prop := ∀ P : α → Prop, (∀ i, a ≤ i → i < b → P d0[i]!) → ∀ i, a ≤ i → i < b → P d[i]!
def Ml (c x : Nat) : Prop := ∃ k, x = k * c
theorem Ml.add {c x : Nat} (h : Ml c x) : Ml c (x + c) := by
  obtain ⟨k, rfl⟩ := h
  exact ⟨k + 1, by rw [Nat.succ_mul]⟩
theorem Ml.half {c x : Nat} (h : Ml (2 * c) x) : Ml c x := by
  obtain ⟨k, rfl⟩ := h
  exact ⟨k * 2, by rw [Nat.mul_assoc]⟩
theorem Ml.gap {c x y : Nat} (h : Ml c x) (h' : Ml c y) (hl : x < y) : x + c ≤ y := by
  obtain ⟨k, rfl⟩ := h
  obtain ⟨k', rfl⟩ := h'
  have : k < k' := Nat.lt_of_mul_lt_mul_right hl
  rw [← Nat.succ_mul]
  exact Nat.mul_le_mul_right _ this
abbrev RB (Rb : α → α → Bool) : α → α → Prop := fun x y => Rb x y = true
/-- a block: its elements are those of the beginning, in order -/
def Blk9 (Rb : α → α → Bool) (d0 d : Array α) (n c x : Nat) : Prop := In9 d0 d x (min (x + c) n) ∧ Srt9 (RB Rb) d x (min (x + c) n)
theorem Blk9.keep {Rb : α → α → Bool} {d0 d d' : Array α} {n c x : Nat} (h : Blk9 Rb d0 d n c x) (he : ∀ i, x ≤ i → i < min (x + c) n → d'[i]! = d[i]!) : Blk9 Rb d0 d' n c x :=
  ⟨fun P hP i h1 h2 => by rw [he i h1 h2]; exact h.1 P hP i h1 h2, fun i j h1 h2 h3 => by rw [he i h1 (by omega), he j (by omega) h3]; exact h.2 i j h1 h2 h3⟩
omit [Inhabited α] in
theorem swo_sto {Rb : α → α → Bool} (hS : SWO Rb) : StO (RB Rb) where
  ir := fun x h => by
    have := hS.irrefl x
    rw [h] at this
    cases this
  tr := hS.trans
/-- two neighbours merged -/
theorem merge_blk {lt Rb : α → α → Bool} (hS : SWO Rb) {d0 : Array α} {n : Nat} (hO : Org lt Rb d0 n) {d : Array α} (hsz : d.size = d0.size) (hn : n ≤ d0.size) {c x hi : Nat} (hc : 0 < c) (hx : x + c < n) (hhi : hi = min (x + 2 * c) n) (h1 : Blk9 Rb d0 d n c x) (h2 : Blk9 Rb d0 d n c (x + c)) (f : Nat) (hf : hi - x ≤ f) :
    PermIn x hi d (symM lt f x (x + c) hi d) ∧ Blk9 Rb d0 (symM lt f x (x + c) hi d) n (2 * c) x := by
  have e1 : min (x + c) n = x + c := by omega
  have e2 : min (x + c + c) n = hi := by omega
  unfold Blk9 at h1 h2 ⊢
  rw [e1] at h1
  rw [e2] at h2
  rw [← hhi]
  have hm := symM_ok (swo_sto hS) f x (x + c) hi d hf (by omega) (by omega) (by omega) h1.2 h2.2 (fun i j i1 i2 j1 j2 => by
    refine h1.1 (fun y => (lt d[j]! y = true → RB Rb d[j]! y) ∧ (lt d[j]! y = false → RB Rb y d[j]!)) (fun i' a1 a2 => ?_) i i1 i2
    refine h2.1 (fun z => (lt z d0[i']! = true → RB Rb z d0[i']!) ∧ (lt z d0[i']! = false → RB Rb d0[i']! z)) (fun j' b1 b2 => ?_) j j1 j2
    have o := hO i' j' (by omega) (by omega)
    exact ⟨fun g => by rw [o.1] at g; exact g, fun g => by rw [o.1] at g; exact o.2 g⟩)
  refine ⟨hm.1, fun P hP => ?_, hm.2⟩
  refine permIn_all d _ x hi P (by omega) hm.1 (fun i i1 i2 => ?_)
  by_cases e : i < x + c
  · exact h1.1 P (fun i' a1 a2 => hP i' a1 (by omega)) i i1 e
  · exact h2.1 P (fun i' a1 a2 => hP i' (by omega) a2) i (by omega) i2
/-- the model of a pass of merges, and of stable -/
def stP (lt : α → α → Bool) (n c : Nat) : Nat → Nat → Array α → Array α
  | 0, _, d => d
  | f + 1, a, d => if a + 2 * c ≤ n then stP lt n c f (a + 2 * c) (symM lt (2 * c) a (a + c) (a + 2 * c) d) else if a + c < n then symM lt (n - a) a (a + c) n d else d
theorem stP_ok {lt Rb : α → α → Bool} (hS : SWO Rb) {d0 : Array α} {n : Nat} (hO : Org lt Rb d0 n) (hn : n ≤ d0.size) {c : Nat} (hc : 0 < c) : ∀ (f a : Nat) (d : Array α), n < a + f → Ml (2 * c) a → PermIn 0 n d0 d → (∀ x, Ml (2 * c) x → x < a → x < n → Blk9 Rb d0 d n (2 * c) x) → (∀ x, Ml c x → a ≤ x → x < n → Blk9 Rb d0 d n c x) →
    PermIn 0 n d0 (stP lt n c f a d) ∧ ∀ x, Ml (2 * c) x → x < n → Blk9 Rb d0 (stP lt n c f a d) n (2 * c) x
  | 0, a, d, hf, hm, hp, h1, h2 => by
    rw [stP]
    exact ⟨hp, fun x hx hxn => h1 x hx (by omega) hxn⟩
  | f + 1, a, d, hf, hm, hp, h1, h2 => by
    have hsz := hp.1
    rw [stP]
    by_cases c1 : a + 2 * c ≤ n
    · rw [if_pos c1]
      have hb := merge_blk hS hO hsz hn hc (x := a) (hi := a + 2 * c) (by omega) (by omega) (h2 a hm.half (Nat.le_refl _) (by omega)) (h2 (a + c) hm.half.add (by omega) (by omega)) (2 * c) (by omega)
      generalize symM lt (2 * c) a (a + c) (a + 2 * c) d = d' at *
      refine stP_ok hS hO hn hc f (a + 2 * c) d' (by omega) hm.add (permIn_trans _ _ _ _ _ hp (permIn_mono _ _ a (a + 2 * c) 0 n (by omega) c1 (by omega) hb.1)) (fun x hx hxa hxn => ?_) (fun x hx hxa hxn => ?_)
      · by_cases e : x = a
        · subst e; exact hb.2
        · have hlt : x < a := by
            apply Nat.lt_of_le_of_ne _ e
            apply Nat.le_of_not_lt; intro g
            have := hm.gap hx g
            omega
          have := hx.gap hm hlt
          exact (h1 x hx hlt hxn).keep fun i i1 i2 => hb.1.2.1 i (.inl (by omega))
      · exact (h2 x hx (by omega) hxn).keep fun i i1 i2 => hb.1.2.1 i (.inr (by omega))
    · rw [if_neg c1]
      have last : ∀ x, Ml (2 * c) x → x < n → x < a ∨ x = a := fun x hx hxn => by
        by_cases e : x = a
        · exact .inr e
        · left
          apply Nat.lt_of_le_of_ne _ e
          apply Nat.le_of_not_lt; intro g
          have := hm.gap hx g
          omega
      by_cases c2 : a + c < n
      · rw [if_pos c2]
        have hb := merge_blk hS hO hsz hn hc (x := a) (hi := n) (by omega) (by omega) (h2 a hm.half (Nat.le_refl _) (by omega)) (h2 (a + c) hm.half.add (by omega) (by omega)) (n - a) (by omega)
        generalize symM lt (n - a) a (a + c) n d = d' at *
        refine ⟨permIn_trans _ _ _ _ _ hp (permIn_mono _ _ a n 0 n (by omega) (Nat.le_refl _) (by omega) hb.1), fun x hx hxn => ?_⟩
        rcases last x hx hxn with hlt | rfl
        · have := hx.gap hm hlt
          exact (h1 x hx hlt hxn).keep fun i i1 i2 => hb.1.2.1 i (.inl (by omega))
        · exact hb.2
      · rw [if_neg c2]
        refine ⟨hp, fun x hx hxn => ?_⟩
        rcases last x hx hxn with hlt | rfl
        · exact h1 x hx hlt hxn
        · have := h2 x hm.half (Nat.le_refl _) hxn
          unfold Blk9 at this ⊢
          rw [show min (x + c) n = n by omega] at this
          rw [show min (x + 2 * c) n = n by omega]
          exact this
/-- blocks of 20, each by insertion -/
def stI (lt : α → α → Bool) (n : Nat) : Nat → Nat → Array α → Array α
  | 0, _, d => d
  | f + 1, a, d => if a + 20 ≤ n then stI lt n f (a + 20) (insertionSort lt d a (a + 20)) else insertionSort lt d a n
theorem insSort_nil (lt : α → α → Bool) (d : Array α) (n : Nat) : insertionSort lt d n n = d := by
  unfold insertionSort
  rw [insOuter, if_neg (by omega)]
theorem stI_ok {lt Rb : α → α → Bool} (hS : SWO Rb) {d0 : Array α} {n : Nat} (hO : Org lt Rb d0 n) (hn : n ≤ d0.size) : ∀ (f a : Nat) (d : Array α), n < a + f → a ≤ n → Ml 20 a → PermIn 0 n d0 d → (∀ i, a ≤ i → d[i]! = d0[i]!) → (∀ x, Ml 20 x → x < a → x < n → Blk9 Rb d0 d n 20 x) →
    PermIn 0 n d0 (stI lt n f a d) ∧ ∀ x, Ml 20 x → x < n → Blk9 Rb d0 (stI lt n f a d) n 20 x
  | 0, a, d, hf, hn', hm, hp, hd, h1 => by omega
  | f + 1, a, d, hf, hn', hm, hp, hd, h1 => by
    have hsz := hp.1
    rw [stI]
    have blk : ∀ b, a < b → b ≤ n → b = min (a + 20) n → PermIn a b d (insertionSort lt d a b) ∧ Blk9 Rb d0 (insertionSort lt d a b) n 20 a := fun b b1 b2 b3 => by
      have h := ins_srt hS hO hn a b b1 b2 d hsz (fun i i1 i2 => hd i i1)
      unfold Blk9
      rw [← b3]
      refine ⟨h.1, fun P hP => ?_, h.2⟩
      exact permIn_all d _ a b P (by omega) h.1 (fun i i1 i2 => by rw [hd i i1]; exact hP i i1 i2)
    by_cases c1 : a + 20 ≤ n
    · rw [if_pos c1]
      have hb := blk (a + 20) (by omega) c1 (by omega)
      generalize insertionSort lt d a (a + 20) = d' at *
      refine stI_ok hS hO hn f (a + 20) d' (by omega) c1 hm.add (permIn_trans _ _ _ _ _ hp (permIn_mono _ _ a (a + 20) 0 n (by omega) c1 (by omega) hb.1)) (fun i hi => by rw [hb.1.2.1 i (.inr hi)]; exact hd i (by omega)) (fun x hx hxa hxn => ?_)
      by_cases e : x = a
      · subst e; exact hb.2
      · have hlt : x < a := by
          apply Nat.lt_of_le_of_ne _ e
          apply Nat.le_of_not_lt; intro g
          have := hm.gap hx g
          omega
        have := hx.gap hm hlt
        exact (h1 x hx hlt hxn).keep fun i i1 i2 => hb.1.2.1 i (.inl (by omega))
    · rw [if_neg c1]
      by_cases c2 : a < n
      · have hb := blk n c2 (Nat.le_refl _) (by omega)
        generalize insertionSort lt d a n = d' at *
        refine ⟨permIn_trans _ _ _ _ _ hp (permIn_mono _ _ a n 0 n (by omega) (Nat.le_refl _) (by omega) hb.1), fun x hx hxn => ?_⟩
        by_cases e : x = a
        · subst e; exact hb.2
        · have hlt : x < a := by
            apply Nat.lt_of_le_of_ne _ e
            apply Nat.le_of_not_lt; intro g
            have := hm.gap hx g
            omega
          have := hx.gap hm hlt
          exact (h1 x hx hlt hxn).keep fun i i1 i2 => hb.1.2.1 i (.inl (by omega))
      · obtain rfl : a = n := by omega
        rw [insSort_nil]
        exact ⟨hp, fun x hx hxn => h1 x hx hxn hxn⟩
/-- passes of merges, the blocks twice as long each time -/
def stB (lt : α → α → Bool) (n : Nat) : Nat → Nat → Array α → Array α
  | 0, _, d => d
  | f + 1, c, d => if c < n then stB lt n f (2 * c) (stP lt n c (n + 1) 0 d) else d
theorem stB_ok {lt Rb : α → α → Bool} (hS : SWO Rb) {d0 : Array α} {n : Nat} (hO : Org lt Rb d0 n) (hn : n ≤ d0.size) : ∀ (f c : Nat) (d : Array α), 0 < c → n < c + f → PermIn 0 n d0 d → (∀ x, Ml c x → x < n → Blk9 Rb d0 d n c x) →
    PermIn 0 n d0 (stB lt n f c d) ∧ Srt9 (RB Rb) (stB lt n f c d) 0 n
  | 0, c, d, hc, hf, hp, h => by
    rw [stB]
    refine ⟨hp, fun i j i1 i2 i3 => ?_⟩
    have := (h 0 ⟨0, by simp⟩ (by omega)).2
    rw [show min (0 + c) n = n by omega] at this
    exact this i j i1 i2 i3
  | f + 1, c, d, hc, hf, hp, h => by
    rw [stB]
    by_cases c1 : c < n
    · rw [if_pos c1]
      have hq := stP_ok hS hO hn hc (n + 1) 0 d (by omega) ⟨0, by simp⟩ hp (fun x _ hx _ => absurd hx (by omega)) (fun x hx _ hxn => h x hx hxn)
      exact stB_ok hS hO hn f (2 * c) _ (by omega) (by omega) hq.1 hq.2
    · rw [if_neg c1]
      refine ⟨hp, fun i j i1 i2 i3 => ?_⟩
      have := (h 0 ⟨0, by simp⟩ (by omega)).2
      rw [show min (0 + c) n = n by omega] at this
      exact this i j i1 i2 i3
/-- sort.stable: what it computes -/
def stA (lt : α → α → Bool) (n : Nat) (d : Array α) : Array α := stB lt n n 20 (stI lt n (n + 1) 0 d)
/-- it sorts by the total order in which ties are told by the first places -/
theorem stA_ok {lt Rb : α → α → Bool} (hS : SWO Rb) {d0 : Array α} {n : Nat} (hO : Org lt Rb d0 n) (hn : n ≤ d0.size) : PermIn 0 n d0 (stA lt n d0) ∧ Srt9 (RB Rb) (stA lt n d0) 0 n := by
  have h := stI_ok hS hO hn (n + 1) 0 d0 (by omega) (by omega) ⟨0, by simp⟩ (permIn_refl _ _ _) (fun i _ => rfl) (fun x _ hx _ => absurd hx (by omega))
  exact stB_ok hS hO hn n 20 _ (by omega) (by omega) h.1 h.2
end Go.Proofs.YtpjjjonplikilaaGreat
namespace Go.Proofs.YtpjjjonplikilaaGreat
open Go.AG Go.Lib Go.Sort Go.Shelf Go.RowKit Go.Proofs
variable {α : Type} [Inhabited α]

set_option maxHeartbeats 2000000 in
set_option maxRecDepth 100000 in
theorem swapRange_w (enc : α → Value) (lt : α → α → Bool) (g : Nat) (lb : Array Value) (sf : Nat) (sb : Array Value) (blk off a b n : Nat) (d dk : Array α) (w0 W : World)
    (hswap : SwapSwaps Tryz.prog sf sb enc blk off d.size) (hH : Holds enc w0 blk off d) (hblk : blk < w0.heap.size) (hW : SW enc w0 blk off dk W) (hs : dk.size = d.size)
    (ha : a + n ≤ d.size) (hb : b + n ≤ d.size) (hsz : d.size < 4611686018427387904) :
    Calls Tryz.prog 128 #[.agg #[.func (.func g) #[] lb, .func (.func sf) #[] sb], .int .i64 a, .int .i64 b, .int .i64 n] W fun e w' =>
      e = .returned (.tuple #[]) ∧ SW enc w0 blk off (swR dk a b n) w' := by
  have hW1 := hW.alloc (.cells #[.func (.func g) #[] lb, .func (.func sf) #[] sb] 154)
  have hle := hW.le
  go_enter Tryz.func128, Tryz.ntmps128
  go_wp2
  have hsw := hswap
  go_loopw [8] (fun vi wr => ∃ i : Nat, vi = .int .i64 i ∧ i ≤ n ∧ SW enc w0 blk off (swR dk a b i) wr ∧ wr.cell? ⟨W.heap.size, 1, none⟩ = some (.func (.func sf) #[] sb)) (fun vi _ => n - (intOf vi).toNat)
  case atStart => exact ⟨0, rfl, by omega, hW1, by simp⟩
  case round =>
    obtain ⟨i, rfl, hin, hSW, hc1⟩ := hrel
    have c1 : ∀ q, (wr.drewN q).cell? ⟨W.heap.size, 1, none⟩ = some (.func (.func sf) #[] sb) := fun q => hc1
    by_cases hlt : i < n
    · have hh := hswap wr (swR dk a b i) (hSW.holds hblk hH (by rw [swR_size, hs])) (by rw [swR_size, hs]) (a + i) (b + i) (by omega) (by omega)
      rw [Int.natCast_add, Int.natCast_add] at hh
      go_wp2
      have hn := hSW.swap hblk (a + i) (b + i) (by rw [swR_size]; omega) (by rw [swR_size]; omega)
      refine ⟨⟨i + 1, by go_num, by omega, hn, ?_⟩, by simp [intOf]; omega⟩
      have hne : ∀ k, (⟨blk, k, none⟩ : Addr) ≠ ⟨W.heap.size, 1, none⟩ := fun k e => by
        have := congrArg Addr.block e
        simp only at this
        omega
      rw [World.cell?_setCell_other (h := hne _), World.cell?_setCell_other (h := hne _)]
      exact hc1
    · go_wp2
      go_end0
      exact ⟨rfl, by rw [show n = i by omega]; exact hSW⟩
end Go.Proofs.YtpjjjonplikilaaGreat
namespace Go.Proofs.YtpjjjonplikilaaGreat
open Go.AG Go.Lib Go.Sort Go.Shelf Go.RowKit Go.Proofs
variable {α : Type} [Inhabited α]

set_option maxHeartbeats 2000000 in
set_option maxRecDepth 100000 in
theorem rotate_w (enc : α → Value) (lt : α → α → Bool) (g : Nat) (lb : Array Value) (sf : Nat) (sb : Array Value) (blk off a m b : Nat) (d dk : Array α) (w0 W : World)
    (hswap : SwapSwaps Tryz.prog sf sb enc blk off d.size) (hH : Holds enc w0 blk off d) (hblk : blk < w0.heap.size) (hW : SW enc w0 blk off dk W) (hs : dk.size = d.size)
    (ha : a < m) (hm : m < b) (hb : b ≤ d.size) (hsz : d.size < 4611686018427387904) :
    Calls Tryz.prog 127 #[.agg #[.func (.func g) #[] lb, .func (.func sf) #[] sb], .int .i64 a, .int .i64 m, .int .i64 b] W fun e w' =>
      e = .returned (.tuple #[]) ∧ SW enc w0 blk off (rotM m (m - a) (b - m) dk) w' := by
  have hle := hW.le
  have e0 : (m : Int) - a = ((m - a : Nat) : Int) := by omega
  have e1 : (b : Int) - m = ((b - m : Nat) : Int) := by omega
  -- the world with the box is the base of the rest
  have hB : Holds enc (W.alloc (.cells #[.func (.func g) #[] lb, .func (.func sf) #[] sb] 154)) blk off dk := by
    rw [alloc_eq_grow]; exact holds_grow enc W _ blk off dk (hW.lt hblk) (hW.holds hblk hH hs)
  have hbB : blk < (W.alloc (.cells #[.func (.func g) #[] lb, .func (.func sf) #[] sb] 154)).heap.size := by rw [alloc_eq_grow, size_grow]; have := hW.lt hblk; omega
  have hswap' : SwapSwaps Tryz.prog sf sb enc blk off dk.size := by rw [hs]; exact hswap
  have fin : ∀ dj w', dj.size = dk.size → SW enc (W.alloc (.cells #[.func (.func g) #[] lb, .func (.func sf) #[] sb] 154)) blk off dj w' → SW enc w0 blk off dj w' := fun dj w' hd h => by
    obtain ⟨n, os, rfl⟩ := h
    exact (hW.alloc _).on hblk n dj os hd
  have cell : ∀ k v dj w', (W.alloc (.cells #[.func (.func g) #[] lb, .func (.func sf) #[] sb] 154)).cell? ⟨W.heap.size, k, none⟩ = some v → SW enc (W.alloc (.cells #[.func (.func g) #[] lb, .func (.func sf) #[] sb] 154)) blk off dj w' → w'.cell? ⟨W.heap.size, k, none⟩ = some v := fun k v dj w' hv h => by
    obtain ⟨n, os, rfl⟩ := h
    exact sortWorld_other enc hv (by have := hW.lt hblk; show W.heap.size ≠ blk; omega)
  have b0 : (W.alloc (.cells #[.func (.func g) #[] lb, .func (.func sf) #[] sb] 154)).cell? ⟨W.heap.size, 0, none⟩ = some (.func (.func g) #[] lb) := by simp
  have b1 : (W.alloc (.cells #[.func (.func g) #[] lb, .func (.func sf) #[] sb] 154)).cell? ⟨W.heap.size, 1, none⟩ = some (.func (.func sf) #[] sb) := by simp
  go_enter Tryz.func127, Tryz.ntmps127
  go_wp2
  go_loopw [8, 9] (fun vi vj wr => ∃ (i j : Nat) (dj : Array α), vi = .int .i64 i ∧ vj = .int .i64 j ∧ 0 < i ∧ 0 < j ∧ i ≤ m - a ∧ j ≤ b - m ∧ dj.size = dk.size ∧
      SW enc (W.alloc (.cells #[.func (.func g) #[] lb, .func (.func sf) #[] sb] 154)) blk off dj wr ∧ rotM m i j dj = rotM m (m - a) (b - m) dk) (fun vi vj _ => (intOf vi).toNat + (intOf vj).toNat)
  case atStart => exact ⟨m - a, b - m, dk, by rw [← e0], by rw [← e1], by omega, by omega, by omega, by omega, rfl, SW.start hB, rfl⟩
  case round =>
    obtain ⟨i, j, dj, rfl, rfl, hi0, hj0, him, hjm, hsj, hSW, hR⟩ := hrel
    have hc0 := cell 0 _ dj wr b0 hSW
    have hc1 := cell 1 _ dj wr b1 hSW
    rw [rotM] at hR
    by_cases hij : i = j
    · subst hij
      rw [if_pos rfl] at hR
      have hc := swapRange_w enc lt g lb sf sb blk off (m - i) m i dk dj _ wr hswap' hB hbB hSW hsj (by omega) (by omega) (by omega)
      rw [hR] at hc
      have hsz2 : (rotM m (m - a) (b - m) dk).size = dk.size := by rw [← hR, swR_size, hsj]
      rw [show ((m - i : Nat) : Int) = (m : Int) - i by omega] at hc
      go_wp2_with (go_at_fn 128)
      refine hc.mono ?_
      rintro e w1 ⟨rfl, hS⟩
      go_wp2
      go_end0
      exact ⟨rfl, fin _ _ hsz2 hS⟩
    · rw [if_neg hij, if_neg (by omega)] at hR
      by_cases hlt : j < i
      · rw [if_pos hlt] at hR
        have hc := swapRange_w enc lt g lb sf sb blk off (m - i) m j dk dj _ wr hswap' hB hbB hSW hsj (by omega) (by omega) (by omega)
        rw [show ((m - i : Nat) : Int) = (m : Int) - i by omega] at hc
        go_wp2_with (go_at_fn 128)
        refine hc.mono ?_
        rintro e w1 ⟨rfl, hS⟩
        go_wp2
        exact ⟨⟨i - j, j, _, by congr 1; omega, rfl, by omega, hj0, by omega, hjm, by rw [swR_size, hsj], hS, hR⟩, by simp [intOf]; omega⟩
      · rw [if_neg hlt] at hR
        have hc := swapRange_w enc lt g lb sf sb blk off (m - i) (m + j - i) i dk dj _ wr hswap' hB hbB hSW hsj (by omega) (by omega) (by omega)
        rw [show ((m - i : Nat) : Int) = (m : Int) - i by omega, show ((m + j - i : Nat) : Int) = (m : Int) + j - i by omega] at hc
        go_wp2_with (go_at_fn 128)
        refine hc.mono ?_
        rintro e w1 ⟨rfl, hS⟩
        go_wp2
        exact ⟨⟨i, j - i, _, rfl, by congr 1; omega, hi0, by omega, him, by omega, by rw [swR_size, hsj], hS, hR⟩, by simp [intOf]; omega⟩
end Go.Proofs.YtpjjjonplikilaaGreat
namespace Go.Proofs.YtpjjjonplikilaaGreat
open Go.AG Go.Lib Go.Sort Go.Shelf Go.RowKit Go.Proofs
variable {α : Type} [Inhabited α]

theorem upM_size (d : Array α) (k i : Nat) : (upM d k i).size = d.size := by
  induction hn : i - k using Nat.strongRecOn generalizing k d with
  | _ n ih =>
    rw [upM]
    split
    · rw [ih (i - (k + 1)) (by omega) _ (k + 1) rfl, size_swp]
    · rfl
theorem downM_size (d : Array α) (k i : Nat) : (downM d k i).size = d.size := by
  induction hn : k - i using Nat.strongRecOn generalizing k d with
  | _ n ih =>
    rw [downM]
    split
    · rw [ih (k - 1 - i) (by omega) _ (k - 1) rfl, size_swp]
    · rfl
theorem symM_size (lt : α → α → Bool) (f a m b : Nat) (d : Array α) : (symM lt f a m b d).size = d.size := by
  induction f generalizing a m b d with
  | zero => rfl
  | succ f ih =>
    rw [symM]
    split
    · exact upM_size _ _ _
    · split
      · exact downM_size _ _ _
      · simp only
        split <;> split <;> split <;> simp only [ih, rotM_size]
end Go.Proofs.YtpjjjonplikilaaGreat
namespace Go.Proofs.YtpjjjonplikilaaGreat
open Go.AG Go.Lib Go.Sort Go.Shelf Go.RowKit Go.Proofs
variable {α : Type} [Inhabited α]

theorem SW_fin {enc : α → Value} {g : Nat} {lb : Array Value} {sf : Nat} {sb : Array Value} {blk off : Nat} {dk dj : Array α} {w0 W w' : World} (hW : SW enc w0 blk off dk W) (hblk : blk < w0.heap.size) (hd : dj.size = dk.size)
    (h : SW enc (W.alloc (.cells #[.func (.func g) #[] lb, .func (.func sf) #[] sb] 154)) blk off dj w') : SW enc w0 blk off dj w' := by
  obtain ⟨n, os, rfl⟩ := h
  exact (hW.alloc _).on hblk n dj os hd
theorem SW_box {enc : α → Value} {g : Nat} {lb : Array Value} {sf : Nat} {sb : Array Value} {blk off : Nat} {dk dj : Array α} {w0 W w' : World} {k : Nat} {v : Value} (hW : SW enc w0 blk off dk W) (hblk : blk < w0.heap.size)
    (hv : (W.alloc (.cells #[.func (.func g) #[] lb, .func (.func sf) #[] sb] 154)).cell? ⟨W.heap.size, k, none⟩ = some v) (h : SW enc (W.alloc (.cells #[.func (.func g) #[] lb, .func (.func sf) #[] sb] 154)) blk off dj w') : w'.cell? ⟨W.heap.size, k, none⟩ = some v := by
  obtain ⟨n, os, rfl⟩ := h
  exact sortWorld_other enc hv (by have := hW.lt hblk; show W.heap.size ≠ blk; omega)
/-- symMerge on fewer elements -/
def SymIH (enc : α → Value) (lt : α → α → Bool) (g : Nat) (lb : Array Value) (sf : Nat) (sb : Array Value) (blk off : Nat) (f : Nat) : Prop := ∀ (a m b : Nat) (d dk : Array α) (w0 W : World),
    LessReads Tryz.prog g lb enc lt blk off d.size w0 → SwapSwaps Tryz.prog sf sb enc blk off d.size → Holds enc w0 blk off d → blk < w0.heap.size → SW enc w0 blk off dk W → dk.size = d.size →
    a < m → m < b → b ≤ d.size → b - a ≤ f → d.size < 2305843009213693952 →
    Calls Tryz.prog 126 #[.agg #[.func (.func g) #[] lb, .func (.func sf) #[] sb], .int .i64 a, .int .i64 m, .int .i64 b] W fun e w' =>
      e = .returned (.tuple #[]) ∧ SW enc w0 blk off (symM lt f a m b dk) w'
set_option maxHeartbeats 40000000 in
set_option maxRecDepth 100000 in
theorem symMerge_c1 (enc : α → Value) (lt : α → α → Bool) (g : Nat) (lb : Array Value) (sf : Nat) (sb : Array Value) (blk off : Nat) (eg : ∀ args w, (callFunc g args).run Tryz.prog w = .ok (.enter g args) w) (f : Nat)  (a m b : Nat) (d dk : Array α) (w0 W : World)
    (hless : LessReads Tryz.prog g lb enc lt blk off d.size w0) (hswap : SwapSwaps Tryz.prog sf sb enc blk off d.size) (hH : Holds enc w0 blk off d) (hblk : blk < w0.heap.size) (hW : SW enc w0 blk off dk W) (hs : dk.size = d.size)
    (ha : a < m) (hm : m < b) (hb : b ≤ d.size) (hf : b - a ≤ f + 1) (hsz : d.size < 2305843009213693952) (c1 : m - a = 1) :
    Calls Tryz.prog 126 #[.agg #[.func (.func g) #[] lb, .func (.func sf) #[] sb], .int .i64 a, .int .i64 m, .int .i64 b] W fun e w' =>
      e = .returned (.tuple #[]) ∧ SW enc w0 blk off (symM lt (f + 1) a m b dk) w' := by
  have hB : Holds enc (W.alloc (.cells #[.func (.func g) #[] lb, .func (.func sf) #[] sb] 154)) blk off dk := by
    rw [alloc_eq_grow]; exact holds_grow enc W _ blk off dk (hW.lt hblk) (hW.holds hblk hH hs)
  have hbB : blk < (W.alloc (.cells #[.func (.func g) #[] lb, .func (.func sf) #[] sb] 154)).heap.size := by rw [alloc_eq_grow, size_grow]; have := hW.lt hblk; omega
  have hswap' : SwapSwaps Tryz.prog sf sb enc blk off dk.size := by rw [hs]; exact hswap
  have hless' : LessReads Tryz.prog g lb enc lt blk off dk.size (W.alloc (.cells #[.func (.func g) #[] lb, .func (.func sf) #[] sb] 154)) := by
    rw [hs]; exact (hW.alloc _).lessReads hless hblk hs
  have b0 : (W.alloc (.cells #[.func (.func g) #[] lb, .func (.func sf) #[] sb] 154)).cell? ⟨W.heap.size, 0, none⟩ = some (.func (.func g) #[] lb) := by simp
  have b1 : (W.alloc (.cells #[.func (.func g) #[] lb, .func (.func sf) #[] sb] 154)).cell? ⟨W.heap.size, 1, none⟩ = some (.func (.func sf) #[] sb) := by simp
  have e1 : (m : Int) - a = 1 := by omega
  go_enter Tryz.func126, Tryz.ntmps126
  go_wp2
  go_loopw [8, 9] (fun vi vj wr => ∃ (i j : Nat), vi = .int .i64 i ∧ vj = .int .i64 j ∧ m ≤ i ∧ i ≤ j ∧ j ≤ b ∧
      SW enc (W.alloc (.cells #[.func (.func g) #[] lb, .func (.func sf) #[] sb] 154)) blk off dk wr ∧ bsM (fun c => lt dk[c]! dk[a]!) i j = bsM (fun c => lt dk[c]! dk[a]!) (m) (b)) (fun vi vj _ => (intOf vj).toNat - (intOf vi).toNat)
  case atStart => exact ⟨m, b, by first | (congr 1; done) | (congr 1; omega), by congr 1, by omega, by omega, by omega, SW.start hB, rfl⟩
  case round =>
    obtain ⟨i, j, rfl, rfl, hmi, hij, hjb, hSW, hR⟩ := hrel
    have hc0 := SW_box hW hblk b0 hSW
    have hc1 := SW_box hW hblk b1 hSW
    by_cases hlt : i < j
    · have hl := hSW.less hless' rfl (((i + j) / 2)) (a) (by omega) (by omega)
      rw [show (((i + j) / 2 : Nat) : Int) = ((i : Int) + j) / 2 by omega] at hl
      rw [bsM, dif_pos hlt] at hR
      cases hv : lt dk[((i + j) / 2)]! dk[a]! with
      | true =>
        rw [hv] at hl
        rw [if_pos hv] at hR
        go_wp2
        refine hl.mono ?_
        rintro e w1 ⟨rfl, q, rfl⟩
        go_wp2
        exact ⟨⟨(i + j) / 2 + 1, j, by congr 1, rfl, by omega, by omega, hjb, hSW.drewN q, hR⟩, by simp [intOf]; omega⟩
      | false =>
        rw [hv] at hl
        rw [if_neg (by rw [hv]; simp)] at hR
        go_wp2
        refine hl.mono ?_
        rintro e w1 ⟨rfl, q, rfl⟩
        go_wp2
        exact ⟨⟨i, (i + j) / 2, rfl, by congr 1, hmi, by omega, by omega, hSW.drewN q, hR⟩, by simp [intOf]; omega⟩
    · rw [bsM, dif_neg hlt] at hR
      have hsym : symM lt (f + 1) a m b dk = upM dk a i := by rw [symM, if_pos c1, ← hR]
      go_wp2
      go_loopw [11] (fun vk wr2 => ∃ (k : Nat) (dj : Array α), vk = .int .i64 k ∧ a ≤ k ∧ dj.size = dk.size ∧
          SW enc (W.alloc (.cells #[.func (.func g) #[] lb, .func (.func sf) #[] sb] 154)) blk off dj wr2 ∧ upM dj k i = upM dk a i) (fun vk _ => i - (intOf vk).toNat)
      case atStart => exact ⟨a, dk, rfl, Nat.le_refl _, rfl, hSW, rfl⟩
      case round =>
        obtain ⟨k, dj, rfl, hak, hsj, hSj, hU⟩ := hrel
        have hd0 := SW_box hW hblk b0 hSj
        have hd1 := SW_box hW hblk b1 hSj
        rw [upM] at hU
        by_cases hk : k + 1 < i
        · rw [if_pos hk] at hU
          have hh := hswap' _ dj (hSj.holds hbB hB hsj) hsj k (k + 1) (by omega) (by omega)
          rw [Int.natCast_add, show ((1 : Nat) : Int) = 1 from rfl] at hh
          have hn := hSj.swap hbB k (k + 1) (by omega) (by omega)
          go_wp2
          exact ⟨⟨k + 1, _, by congr 1, by omega, by rw [size_swp, hsj], hn, hU⟩, by simp [intOf]; omega⟩
        · rw [if_neg hk] at hU
          go_wp2
          refine bodyPost_ret (results_none rfl _ _ _) rfl ?_
          exact ⟨rfl, by rw [hsym, ← hU]; exact SW_fin hW hblk hsj hSj⟩
set_option maxHeartbeats 40000000 in
set_option maxRecDepth 100000 in
theorem symMerge_c2 (enc : α → Value) (lt : α → α → Bool) (g : Nat) (lb : Array Value) (sf : Nat) (sb : Array Value) (blk off : Nat) (eg : ∀ args w, (callFunc g args).run Tryz.prog w = .ok (.enter g args) w) (f : Nat)  (a m b : Nat) (d dk : Array α) (w0 W : World)
    (hless : LessReads Tryz.prog g lb enc lt blk off d.size w0) (hswap : SwapSwaps Tryz.prog sf sb enc blk off d.size) (hH : Holds enc w0 blk off d) (hblk : blk < w0.heap.size) (hW : SW enc w0 blk off dk W) (hs : dk.size = d.size)
    (ha : a < m) (hm : m < b) (hb : b ≤ d.size) (hf : b - a ≤ f + 1) (hsz : d.size < 2305843009213693952) (c1 : ¬ m - a = 1) (c2 : b - m = 1) :
    Calls Tryz.prog 126 #[.agg #[.func (.func g) #[] lb, .func (.func sf) #[] sb], .int .i64 a, .int .i64 m, .int .i64 b] W fun e w' =>
      e = .returned (.tuple #[]) ∧ SW enc w0 blk off (symM lt (f + 1) a m b dk) w' := by
  have hB : Holds enc (W.alloc (.cells #[.func (.func g) #[] lb, .func (.func sf) #[] sb] 154)) blk off dk := by
    rw [alloc_eq_grow]; exact holds_grow enc W _ blk off dk (hW.lt hblk) (hW.holds hblk hH hs)
  have hbB : blk < (W.alloc (.cells #[.func (.func g) #[] lb, .func (.func sf) #[] sb] 154)).heap.size := by rw [alloc_eq_grow, size_grow]; have := hW.lt hblk; omega
  have hswap' : SwapSwaps Tryz.prog sf sb enc blk off dk.size := by rw [hs]; exact hswap
  have hless' : LessReads Tryz.prog g lb enc lt blk off dk.size (W.alloc (.cells #[.func (.func g) #[] lb, .func (.func sf) #[] sb] 154)) := by
    rw [hs]; exact (hW.alloc _).lessReads hless hblk hs
  have b0 : (W.alloc (.cells #[.func (.func g) #[] lb, .func (.func sf) #[] sb] 154)).cell? ⟨W.heap.size, 0, none⟩ = some (.func (.func g) #[] lb) := by simp
  have b1 : (W.alloc (.cells #[.func (.func g) #[] lb, .func (.func sf) #[] sb] 154)).cell? ⟨W.heap.size, 1, none⟩ = some (.func (.func sf) #[] sb) := by simp
  have e1 : (m : Int) - a ≠ 1 := by omega
  have e2 : (b : Int) - m = 1 := by omega
  go_enter Tryz.func126, Tryz.ntmps126
  go_wp2
  go_loopw [12, 13] (fun vi vj wr => ∃ (i j : Nat), vi = .int .i64 i ∧ vj = .int .i64 j ∧ a ≤ i ∧ i ≤ j ∧ j ≤ m ∧
      SW enc (W.alloc (.cells #[.func (.func g) #[] lb, .func (.func sf) #[] sb] 154)) blk off dk wr ∧ bsM (fun c => !lt dk[m]! dk[c]!) i j = bsM (fun c => !lt dk[m]! dk[c]!) (a) (m)) (fun vi vj _ => (intOf vj).toNat - (intOf vi).toNat)
  case atStart => exact ⟨a, m, by first | (congr 1; done) | (congr 1; omega), by congr 1, by omega, by omega, by omega, SW.start hB, rfl⟩
  case round =>
    obtain ⟨i, j, rfl, rfl, hmi, hij, hjb, hSW, hR⟩ := hrel
    have hc0 := SW_box hW hblk b0 hSW
    have hc1 := SW_box hW hblk b1 hSW
    by_cases hlt : i < j
    · have hl := hSW.less hless' rfl (m) (((i + j) / 2)) (by omega) (by omega)
      rw [show (((i + j) / 2 : Nat) : Int) = ((i : Int) + j) / 2 by omega] at hl
      rw [bsM, dif_pos hlt] at hR
      cases hv : lt dk[m]! dk[((i + j) / 2)]! with
      | false =>
        rw [hv] at hl
        rw [if_pos (by rw [hv]; rfl)] at hR
        go_wp2
        refine hl.mono ?_
        rintro e w1 ⟨rfl, q, rfl⟩
        go_wp2
        exact ⟨⟨(i + j) / 2 + 1, j, by congr 1, rfl, by omega, by omega, hjb, hSW.drewN q, hR⟩, by simp [intOf]; omega⟩
      | true =>
        rw [hv] at hl
        rw [if_neg (by rw [hv]; simp)] at hR
        go_wp2
        refine hl.mono ?_
        rintro e w1 ⟨rfl, q, rfl⟩
        go_wp2
        exact ⟨⟨i, (i + j) / 2, rfl, by congr 1, hmi, by omega, by omega, hSW.drewN q, hR⟩, by simp [intOf]; omega⟩
    · rw [bsM, dif_neg hlt] at hR
      have hsym : symM lt (f + 1) a m b dk = downM dk m i := by rw [symM, if_neg c1, if_pos c2, ← hR]
      go_wp2
      go_loopw [15] (fun vk wr2 => ∃ (k : Nat) (dj : Array α), vk = .int .i64 k ∧ k ≤ m ∧ i ≤ k ∧ dj.size = dk.size ∧
          SW enc (W.alloc (.cells #[.func (.func g) #[] lb, .func (.func sf) #[] sb] 154)) blk off dj wr2 ∧ downM dj k i = downM dk m i) (fun vk _ => (intOf vk).toNat - i)
      case atStart => exact ⟨m, dk, rfl, Nat.le_refl _, by omega, rfl, hSW, rfl⟩
      case round =>
        obtain ⟨k, dj, rfl, hak, hik, hsj, hSj, hU⟩ := hrel
        have hd0 := SW_box hW hblk b0 hSj
        have hd1 := SW_box hW hblk b1 hSj
        rw [downM] at hU
        by_cases hk : i < k
        · rw [if_pos hk] at hU
          have hh := hswap' _ dj (hSj.holds hbB hB hsj) hsj k (k - 1) (by omega) (by omega)
          rw [show ((k - 1 : Nat) : Int) = (k : Int) - 1 by omega] at hh
          have hn := hSj.swap hbB k (k - 1) (by omega) (by omega)
          go_wp2
          exact ⟨⟨k - 1, _, by congr 1; omega, by omega, by omega, by rw [size_swp, hsj], hn, hU⟩, by simp [intOf]; omega⟩
        · rw [if_neg hk] at hU
          go_wp2
          refine bodyPost_ret (results_none rfl _ _ _) rfl ?_
          exact ⟨rfl, by rw [hsym, ← hU]; exact SW_fin hW hblk hsj hSj⟩
theorem sym_rot (enc : α → Value) (lt : α → α → Bool) (g : Nat) (lb : Array Value) (sf : Nat) (sb : Array Value) (blk off : Nat) (a m b i : Nat) (dk : Array α) (B wr : World) (hswap' : SwapSwaps Tryz.prog sf sb enc blk off dk.size) (hB : Holds enc B blk off dk) (hbB : blk < B.heap.size) (hS : SW enc B blk off dk wr)
    (h1 : i < m) (h2 : m < (a + b) / 2 + m - i) (h3 : (a + b) / 2 + m - i ≤ dk.size) (hsz : dk.size < 2305843009213693952) :
    Calls Tryz.prog 127 #[.agg #[.func (.func g) #[] lb, .func (.func sf) #[] sb], .int .i64 i, .int .i64 m, .int .i64 (((a : Int) + b) / 2 + m - i)] wr fun e w' =>
      e = .returned (.tuple #[]) ∧ SW enc B blk off (rotM m (m - i) ((a + b) / 2 + m - i - m) dk) w' := by
  have := rotate_w enc lt g lb sf sb blk off i m ((a + b) / 2 + m - i) dk dk B wr hswap' hB hbB hS rfl h1 h2 h3 (by omega)
  rw [show (((a + b) / 2 + m - i : Nat) : Int) = ((a : Int) + b) / 2 + m - i by omega] at this
  exact this
theorem sym_rec1 (enc : α → Value) (lt : α → α → Bool) (g : Nat) (lb : Array Value) (sf : Nat) (sb : Array Value) (blk off : Nat) (f a b i : Nat) (d dj : Array α) (B wr : World) (ih : SymIH enc lt g lb sf sb blk off f) (hless' : LessReads Tryz.prog g lb enc lt blk off d.size B) (hswap' : SwapSwaps Tryz.prog sf sb enc blk off d.size) (hB : Holds enc B blk off d) (hbB : blk < B.heap.size)
    (hS : SW enc B blk off dj wr) (hd : dj.size = d.size) (h1 : a < i) (h2 : i < (a + b) / 2) (h3 : b ≤ d.size) (h4 : b - a ≤ f + 1) (hsz : d.size < 2305843009213693952) :
    Calls Tryz.prog 126 #[.agg #[.func (.func g) #[] lb, .func (.func sf) #[] sb], .int .i64 a, .int .i64 i, .int .i64 (((a : Int) + b) / 2)] wr fun e w' =>
      e = .returned (.tuple #[]) ∧ SW enc B blk off (symM lt f a i ((a + b) / 2) dj) w' := by
  have := ih a i ((a + b) / 2) d dj B wr hless' hswap' hB hbB hS hd h1 h2 (by omega) (by omega) (by omega)
  rw [show (((a + b) / 2 : Nat) : Int) = ((a : Int) + b) / 2 by omega] at this
  exact this
theorem sym_rec2 (enc : α → Value) (lt : α → α → Bool) (g : Nat) (lb : Array Value) (sf : Nat) (sb : Array Value) (blk off : Nat) (f a b m i : Nat) (d dj : Array α) (B wr : World) (ih : SymIH enc lt g lb sf sb blk off f) (hless' : LessReads Tryz.prog g lb enc lt blk off d.size B) (hswap' : SwapSwaps Tryz.prog sf sb enc blk off d.size) (hB : Holds enc B blk off d) (hbB : blk < B.heap.size)
    (hS : SW enc B blk off dj wr) (hd : dj.size = d.size) (h1 : (a + b) / 2 < (a + b) / 2 + m - i) (h2 : (a + b) / 2 + m - i < b) (h3 : b ≤ d.size) (h4 : b - a ≤ f + 1) (h5 : a + 1 < b) (hsz : d.size < 2305843009213693952) :
    Calls Tryz.prog 126 #[.agg #[.func (.func g) #[] lb, .func (.func sf) #[] sb], .int .i64 (((a : Int) + b) / 2), .int .i64 (((a : Int) + b) / 2 + m - i), .int .i64 b] wr fun e w' =>
      e = .returned (.tuple #[]) ∧ SW enc B blk off (symM lt f ((a + b) / 2) ((a + b) / 2 + m - i) b dj) w' := by
  have := ih ((a + b) / 2) ((a + b) / 2 + m - i) b d dj B wr hless' hswap' hB hbB hS hd h1 h2 h3 (by omega) (by omega)
  rw [show (((a + b) / 2 : Nat) : Int) = ((a : Int) + b) / 2 by omega, show (((a + b) / 2 + m - i : Nat) : Int) = ((a : Int) + b) / 2 + m - i by omega] at this
  exact this
end Go.Proofs.YtpjjjonplikilaaGreat
namespace Go.Proofs.YtpjjjonplikilaaGreat
open Go.AG Go.Lib Go.Sort Go.Shelf Go.RowKit Go.Proofs
variable {α : Type} [Inhabited α]

set_option maxHeartbeats 40000000 in
set_option maxRecDepth 100000 in
theorem symMerge_c3 (enc : α → Value) (lt : α → α → Bool) (g : Nat) (lb : Array Value) (sf : Nat) (sb : Array Value) (blk off : Nat) (eg : ∀ args w, (callFunc g args).run Tryz.prog w = .ok (.enter g args) w) (f : Nat) (ih : SymIH enc lt g lb sf sb blk off f) (a m b : Nat) (d dk : Array α) (w0 W : World)
    (hless : LessReads Tryz.prog g lb enc lt blk off d.size w0) (hswap : SwapSwaps Tryz.prog sf sb enc blk off d.size) (hH : Holds enc w0 blk off d) (hblk : blk < w0.heap.size) (hW : SW enc w0 blk off dk W) (hs : dk.size = d.size)
    (ha : a < m) (hm : m < b) (hb : b ≤ d.size) (hf : b - a ≤ f + 1) (hsz : d.size < 2305843009213693952) (c1 : ¬ m - a = 1) (c2 : ¬ b - m = 1) (c3 : (a + b) / 2 < m) :
    Calls Tryz.prog 126 #[.agg #[.func (.func g) #[] lb, .func (.func sf) #[] sb], .int .i64 a, .int .i64 m, .int .i64 b] W fun e w' =>
      e = .returned (.tuple #[]) ∧ SW enc w0 blk off (symM lt (f + 1) a m b dk) w' := by
  have hB : Holds enc (W.alloc (.cells #[.func (.func g) #[] lb, .func (.func sf) #[] sb] 154)) blk off dk := by
    rw [alloc_eq_grow]; exact holds_grow enc W _ blk off dk (hW.lt hblk) (hW.holds hblk hH hs)
  have hbB : blk < (W.alloc (.cells #[.func (.func g) #[] lb, .func (.func sf) #[] sb] 154)).heap.size := by rw [alloc_eq_grow, size_grow]; have := hW.lt hblk; omega
  have hswap' : SwapSwaps Tryz.prog sf sb enc blk off dk.size := by rw [hs]; exact hswap
  have hless' : LessReads Tryz.prog g lb enc lt blk off dk.size (W.alloc (.cells #[.func (.func g) #[] lb, .func (.func sf) #[] sb] 154)) := by
    rw [hs]; exact (hW.alloc _).lessReads hless hblk hs
  have b0 : (W.alloc (.cells #[.func (.func g) #[] lb, .func (.func sf) #[] sb] 154)).cell? ⟨W.heap.size, 0, none⟩ = some (.func (.func g) #[] lb) := by simp
  have b1 : (W.alloc (.cells #[.func (.func g) #[] lb, .func (.func sf) #[] sb] 154)).cell? ⟨W.heap.size, 1, none⟩ = some (.func (.func sf) #[] sb) := by simp
  have e1 : (m : Int) - a ≠ 1 := by omega
  have e2 : (b : Int) - m ≠ 1 := by omega
  have e3 : ((a : Int) + b) / 2 < m := by omega
  go_enter Tryz.func126, Tryz.ntmps126
  go_wp2
  go_loopw [18, 19] (fun vi vj wr => ∃ (i j : Nat), vi = .int .i64 i ∧ vj = .int .i64 j ∧ (a + b) / 2 + m - b ≤ i ∧ i ≤ j ∧ j ≤ (a + b) / 2 ∧
      SW enc (W.alloc (.cells #[.func (.func g) #[] lb, .func (.func sf) #[] sb] 154)) blk off dk wr ∧ bsM (fun c => !lt dk[(a + b) / 2 + m - 1 - c]! dk[c]!) i j = bsM (fun c => !lt dk[(a + b) / 2 + m - 1 - c]! dk[c]!) ((a + b) / 2 + m - b) ((a + b) / 2)) (fun vi vj _ => (intOf vj).toNat - (intOf vi).toNat)
  case atStart => exact ⟨(a + b) / 2 + m - b, (a + b) / 2, by first | (congr 1; done) | (congr 1; omega), by congr 1, by omega, by omega, by omega, SW.start hB, rfl⟩
  case round =>
    obtain ⟨i, j, rfl, rfl, hmi, hij, hjb, hSW, hR⟩ := hrel
    have hc0 := SW_box hW hblk b0 hSW
    have hc1 := SW_box hW hblk b1 hSW
    by_cases hlt : i < j
    · have hl := hSW.less hless' rfl ((a + b) / 2 + m - 1 - ((i + j) / 2)) (((i + j) / 2)) (by omega) (by omega)
      rw [show (((a + b) / 2 + m - 1 - (i + j) / 2 : Nat) : Int) = ((a : Int) + b) / 2 + m - 1 - ((i : Int) + j) / 2 by omega, show (((i + j) / 2 : Nat) : Int) = ((i : Int) + j) / 2 by omega] at hl
      rw [bsM, dif_pos hlt] at hR
      cases hv : lt dk[(a + b) / 2 + m - 1 - ((i + j) / 2)]! dk[((i + j) / 2)]! with
      | false =>
        rw [hv] at hl
        rw [if_pos (by rw [hv]; rfl)] at hR
        go_wp2
        refine hl.mono ?_
        rintro e w1 ⟨rfl, q, rfl⟩
        go_wp2
        exact ⟨⟨(i + j) / 2 + 1, j, by congr 1, rfl, by omega, by omega, hjb, hSW.drewN q, hR⟩, by simp [intOf]; omega⟩
      | true =>
        rw [hv] at hl
        rw [if_neg (by rw [hv]; simp)] at hR
        go_wp2
        refine hl.mono ?_
        rintro e w1 ⟨rfl, q, rfl⟩
        go_wp2
        exact ⟨⟨i, (i + j) / 2, rfl, by congr 1, hmi, by omega, by omega, hSW.drewN q, hR⟩, by simp [intOf]; omega⟩
    · rw [bsM, dif_neg hlt] at hR
      have hst : stM lt dk a m b = i := by unfold stM; simp only; rw [if_pos c3]; exact hR.symm
      clear hR
      by_cases k1 : i < (a + b) / 2
      · by_cases k2 : a < i
        · by_cases k3 : (a + b) / 2 + m - b < i
          · have hsym : symM lt (f + 1) a m b dk = symM lt f ((a + b) / 2) ((a + b) / 2 + m - i) b (symM lt f a i ((a + b) / 2) (rotM m (m - i) ((a + b) / 2 + m - i - m) dk)) := by rw [symM, if_neg c1, if_neg c2]; simp only; rw [hst, if_pos (c := i < m ∧ m < (a + b) / 2 + m - i) (by omega), if_pos (c := a < i ∧ i < (a + b) / 2) (by omega), if_pos (c := (a + b) / 2 < (a + b) / 2 + m - i ∧ (a + b) / 2 + m - i < b) (by omega)]
            go_wp2_with (go_at_fn 127)
            refine (sym_rot enc lt g lb sf sb blk off a m b i dk _ wr hswap' hB hbB hSW (by omega) (by omega) (by omega) (by omega)).mono ?_
            rintro e w1 ⟨rfl, hS1⟩
            have hx1 := SW_box hW hblk b0 hS1
            have hy1 := SW_box hW hblk b1 hS1
            go_wp2_with (go_at_fn 126)
            refine (sym_rec1 enc lt g lb sf sb blk off f a b i dk _ _ w1 ih hless' hswap' hB hbB hS1 (by rw [rotM_size]) (by omega) (by omega) (by omega) (by omega) (by omega)).mono ?_
            rintro e w2 ⟨rfl, hS2⟩
            have hx2 := SW_box hW hblk b0 hS2
            have hy2 := SW_box hW hblk b1 hS2
            go_wp2_with (go_at_fn 126)
            refine (sym_rec2 enc lt g lb sf sb blk off f a b m i dk _ _ w2 ih hless' hswap' hB hbB hS2 (by rw [symM_size, rotM_size]) (by omega) (by omega) (by omega) (by omega) (by omega) (by omega)).mono ?_
            rintro e w3 ⟨rfl, hS3⟩
            go_wp2
            go_end0
            exact ⟨rfl, by first | (rw [hsym]; exact SW_fin hW hblk (by simp only [symM_size, rotM_size]) hS3) | exact SW_fin hW hblk (by simp only [symM_size, rotM_size]) hS3⟩
          · have hsym : symM lt (f + 1) a m b dk = symM lt f a i ((a + b) / 2) (rotM m (m - i) ((a + b) / 2 + m - i - m) dk) := by rw [symM, if_neg c1, if_neg c2]; simp only; rw [hst, if_pos (c := i < m ∧ m < (a + b) / 2 + m - i) (by omega), if_pos (c := a < i ∧ i < (a + b) / 2) (by omega), if_neg (c := (a + b) / 2 < (a + b) / 2 + m - i ∧ (a + b) / 2 + m - i < b) (by omega)]
            go_wp2_with (go_at_fn 127)
            refine (sym_rot enc lt g lb sf sb blk off a m b i dk _ wr hswap' hB hbB hSW (by omega) (by omega) (by omega) (by omega)).mono ?_
            rintro e w1 ⟨rfl, hS1⟩
            have hx1 := SW_box hW hblk b0 hS1
            have hy1 := SW_box hW hblk b1 hS1
            go_wp2_with (go_at_fn 126)
            refine (sym_rec1 enc lt g lb sf sb blk off f a b i dk _ _ w1 ih hless' hswap' hB hbB hS1 (by rw [rotM_size]) (by omega) (by omega) (by omega) (by omega) (by omega)).mono ?_
            rintro e w2 ⟨rfl, hS2⟩
            go_wp2
            go_end0
            exact ⟨rfl, by first | (rw [hsym]; exact SW_fin hW hblk (by simp only [symM_size, rotM_size]) hS2) | exact SW_fin hW hblk (by simp only [symM_size, rotM_size]) hS2⟩
        · have hsym : symM lt (f + 1) a m b dk = rotM m (m - i) ((a + b) / 2 + m - i - m) dk := by rw [symM, if_neg c1, if_neg c2]; simp only; rw [hst, if_pos (c := i < m ∧ m < (a + b) / 2 + m - i) (by omega), if_neg (c := a < i ∧ i < (a + b) / 2) (by omega), if_neg (c := (a + b) / 2 < (a + b) / 2 + m - i ∧ (a + b) / 2 + m - i < b) (by omega)]
          go_wp2_with (go_at_fn 127)
          refine (sym_rot enc lt g lb sf sb blk off a m b i dk _ wr hswap' hB hbB hSW (by omega) (by omega) (by omega) (by omega)).mono ?_
          rintro e w1 ⟨rfl, hS1⟩
          go_wp2
          go_end0
          exact ⟨rfl, by first | (rw [hsym]; exact SW_fin hW hblk (by simp only [symM_size, rotM_size]) hS1) | exact SW_fin hW hblk (by simp only [symM_size, rotM_size]) hS1⟩
      · have hsym : symM lt (f + 1) a m b dk = symM lt f ((a + b) / 2) ((a + b) / 2 + m - i) b dk := by rw [symM, if_neg c1, if_neg c2]; simp only; rw [hst, if_neg (c := i < m ∧ m < (a + b) / 2 + m - i) (by omega), if_neg (c := a < i ∧ i < (a + b) / 2) (by omega), if_pos (c := (a + b) / 2 < (a + b) / 2 + m - i ∧ (a + b) / 2 + m - i < b) (by omega)]
        go_wp2_with (go_at_fn 126)
        refine (sym_rec2 enc lt g lb sf sb blk off f a b m i dk _ _ wr ih hless' hswap' hB hbB hSW rfl (by omega) (by omega) (by omega) (by omega) (by omega) (by omega)).mono ?_
        rintro e w1 ⟨rfl, hS1⟩
        go_wp2
        go_end0
        exact ⟨rfl, by first | (rw [hsym]; exact SW_fin hW hblk (by simp only [symM_size, rotM_size]) hS1) | exact SW_fin hW hblk (by simp only [symM_size, rotM_size]) hS1⟩
end Go.Proofs.YtpjjjonplikilaaGreat
namespace Go.Proofs.YtpjjjonplikilaaGreat
open Go.AG Go.Lib Go.Sort Go.Shelf Go.RowKit Go.Proofs
variable {α : Type} [Inhabited α]

set_option maxHeartbeats 40000000 in
set_option maxRecDepth 100000 in
theorem symMerge_c4 (enc : α → Value) (lt : α → α → Bool) (g : Nat) (lb : Array Value) (sf : Nat) (sb : Array Value) (blk off : Nat) (eg : ∀ args w, (callFunc g args).run Tryz.prog w = .ok (.enter g args) w) (f : Nat) (ih : SymIH enc lt g lb sf sb blk off f) (a m b : Nat) (d dk : Array α) (w0 W : World)
    (hless : LessReads Tryz.prog g lb enc lt blk off d.size w0) (hswap : SwapSwaps Tryz.prog sf sb enc blk off d.size) (hH : Holds enc w0 blk off d) (hblk : blk < w0.heap.size) (hW : SW enc w0 blk off dk W) (hs : dk.size = d.size)
    (ha : a < m) (hm : m < b) (hb : b ≤ d.size) (hf : b - a ≤ f + 1) (hsz : d.size < 2305843009213693952) (c1 : ¬ m - a = 1) (c2 : ¬ b - m = 1) (c3 : ¬ (a + b) / 2 < m) :
    Calls Tryz.prog 126 #[.agg #[.func (.func g) #[] lb, .func (.func sf) #[] sb], .int .i64 a, .int .i64 m, .int .i64 b] W fun e w' =>
      e = .returned (.tuple #[]) ∧ SW enc w0 blk off (symM lt (f + 1) a m b dk) w' := by
  have hB : Holds enc (W.alloc (.cells #[.func (.func g) #[] lb, .func (.func sf) #[] sb] 154)) blk off dk := by
    rw [alloc_eq_grow]; exact holds_grow enc W _ blk off dk (hW.lt hblk) (hW.holds hblk hH hs)
  have hbB : blk < (W.alloc (.cells #[.func (.func g) #[] lb, .func (.func sf) #[] sb] 154)).heap.size := by rw [alloc_eq_grow, size_grow]; have := hW.lt hblk; omega
  have hswap' : SwapSwaps Tryz.prog sf sb enc blk off dk.size := by rw [hs]; exact hswap
  have hless' : LessReads Tryz.prog g lb enc lt blk off dk.size (W.alloc (.cells #[.func (.func g) #[] lb, .func (.func sf) #[] sb] 154)) := by
    rw [hs]; exact (hW.alloc _).lessReads hless hblk hs
  have b0 : (W.alloc (.cells #[.func (.func g) #[] lb, .func (.func sf) #[] sb] 154)).cell? ⟨W.heap.size, 0, none⟩ = some (.func (.func g) #[] lb) := by simp
  have b1 : (W.alloc (.cells #[.func (.func g) #[] lb, .func (.func sf) #[] sb] 154)).cell? ⟨W.heap.size, 1, none⟩ = some (.func (.func sf) #[] sb) := by simp
  have e1 : (m : Int) - a ≠ 1 := by omega
  have e2 : (b : Int) - m ≠ 1 := by omega
  have e3 : ¬ ((a : Int) + b) / 2 < m := by omega
  go_enter Tryz.func126, Tryz.ntmps126
  go_wp2
  go_loopw [18, 19] (fun vi vj wr => ∃ (i j : Nat), vi = .int .i64 i ∧ vj = .int .i64 j ∧ a ≤ i ∧ i ≤ j ∧ j ≤ m ∧
      SW enc (W.alloc (.cells #[.func (.func g) #[] lb, .func (.func sf) #[] sb] 154)) blk off dk wr ∧ bsM (fun c => !lt dk[(a + b) / 2 + m - 1 - c]! dk[c]!) i j = bsM (fun c => !lt dk[(a + b) / 2 + m - 1 - c]! dk[c]!) (a) (m)) (fun vi vj _ => (intOf vj).toNat - (intOf vi).toNat)
  case atStart => exact ⟨a, m, by first | (congr 1; done) | (congr 1; omega), by congr 1, by omega, by omega, by omega, SW.start hB, rfl⟩
  case round =>
    obtain ⟨i, j, rfl, rfl, hmi, hij, hjb, hSW, hR⟩ := hrel
    have hc0 := SW_box hW hblk b0 hSW
    have hc1 := SW_box hW hblk b1 hSW
    by_cases hlt : i < j
    · have hl := hSW.less hless' rfl ((a + b) / 2 + m - 1 - ((i + j) / 2)) (((i + j) / 2)) (by omega) (by omega)
      rw [show (((a + b) / 2 + m - 1 - (i + j) / 2 : Nat) : Int) = ((a : Int) + b) / 2 + m - 1 - ((i : Int) + j) / 2 by omega, show (((i + j) / 2 : Nat) : Int) = ((i : Int) + j) / 2 by omega] at hl
      rw [bsM, dif_pos hlt] at hR
      cases hv : lt dk[(a + b) / 2 + m - 1 - ((i + j) / 2)]! dk[((i + j) / 2)]! with
      | false =>
        rw [hv] at hl
        rw [if_pos (by rw [hv]; rfl)] at hR
        go_wp2
        refine hl.mono ?_
        rintro e w1 ⟨rfl, q, rfl⟩
        go_wp2
        exact ⟨⟨(i + j) / 2 + 1, j, by congr 1, rfl, by omega, by omega, hjb, hSW.drewN q, hR⟩, by simp [intOf]; omega⟩
      | true =>
        rw [hv] at hl
        rw [if_neg (by rw [hv]; simp)] at hR
        go_wp2
        refine hl.mono ?_
        rintro e w1 ⟨rfl, q, rfl⟩
        go_wp2
        exact ⟨⟨i, (i + j) / 2, rfl, by congr 1, hmi, by omega, by omega, hSW.drewN q, hR⟩, by simp [intOf]; omega⟩
    · rw [bsM, dif_neg hlt] at hR
      have hst : stM lt dk a m b = i := by unfold stM; simp only; rw [if_neg c3]; exact hR.symm
      clear hR
      by_cases k1 : i < m
      · by_cases k2 : a < i
        · have hsym : symM lt (f + 1) a m b dk = symM lt f ((a + b) / 2) ((a + b) / 2 + m - i) b (symM lt f a i ((a + b) / 2) (rotM m (m - i) ((a + b) / 2 + m - i - m) dk)) := by rw [symM, if_neg c1, if_neg c2]; simp only; rw [hst, if_pos (c := i < m ∧ m < (a + b) / 2 + m - i) (by omega), if_pos (c := a < i ∧ i < (a + b) / 2) (by omega), if_pos (c := (a + b) / 2 < (a + b) / 2 + m - i ∧ (a + b) / 2 + m - i < b) (by omega)]
          go_wp2_with (go_at_fn 127)
          refine (sym_rot enc lt g lb sf sb blk off a m b i dk _ wr hswap' hB hbB hSW (by omega) (by omega) (by omega) (by omega)).mono ?_
          rintro e w1 ⟨rfl, hS1⟩
          have hx1 := SW_box hW hblk b0 hS1
          have hy1 := SW_box hW hblk b1 hS1
          go_wp2_with (go_at_fn 126)
          refine (sym_rec1 enc lt g lb sf sb blk off f a b i dk _ _ w1 ih hless' hswap' hB hbB hS1 (by rw [rotM_size]) (by omega) (by omega) (by omega) (by omega) (by omega)).mono ?_
          rintro e w2 ⟨rfl, hS2⟩
          have hx2 := SW_box hW hblk b0 hS2
          have hy2 := SW_box hW hblk b1 hS2
          go_wp2_with (go_at_fn 126)
          refine (sym_rec2 enc lt g lb sf sb blk off f a b m i dk _ _ w2 ih hless' hswap' hB hbB hS2 (by rw [symM_size, rotM_size]) (by omega) (by omega) (by omega) (by omega) (by omega) (by omega)).mono ?_
          rintro e w3 ⟨rfl, hS3⟩
          go_wp2
          go_end0
          exact ⟨rfl, by first | (rw [hsym]; exact SW_fin hW hblk (by simp only [symM_size, rotM_size]) hS3) | exact SW_fin hW hblk (by simp only [symM_size, rotM_size]) hS3⟩
        · by_cases k3 : (a + b) / 2 + m - i < b
          · have hsym : symM lt (f + 1) a m b dk = symM lt f ((a + b) / 2) ((a + b) / 2 + m - i) b (rotM m (m - i) ((a + b) / 2 + m - i - m) dk) := by rw [symM, if_neg c1, if_neg c2]; simp only; rw [hst, if_pos (c := i < m ∧ m < (a + b) / 2 + m - i) (by omega), if_neg (c := a < i ∧ i < (a + b) / 2) (by omega), if_pos (c := (a + b) / 2 < (a + b) / 2 + m - i ∧ (a + b) / 2 + m - i < b) (by omega)]
            go_wp2_with (go_at_fn 127)
            refine (sym_rot enc lt g lb sf sb blk off a m b i dk _ wr hswap' hB hbB hSW (by omega) (by omega) (by omega) (by omega)).mono ?_
            rintro e w1 ⟨rfl, hS1⟩
            have hx1 := SW_box hW hblk b0 hS1
            have hy1 := SW_box hW hblk b1 hS1
            go_wp2_with (go_at_fn 126)
            refine (sym_rec2 enc lt g lb sf sb blk off f a b m i dk _ _ w1 ih hless' hswap' hB hbB hS1 (by rw [rotM_size]) (by omega) (by omega) (by omega) (by omega) (by omega) (by omega)).mono ?_
            rintro e w2 ⟨rfl, hS2⟩
            go_wp2
            go_end0
            exact ⟨rfl, by first | (rw [hsym]; exact SW_fin hW hblk (by simp only [symM_size, rotM_size]) hS2) | exact SW_fin hW hblk (by simp only [symM_size, rotM_size]) hS2⟩
          · have hsym : symM lt (f + 1) a m b dk = rotM m (m - i) ((a + b) / 2 + m - i - m) dk := by rw [symM, if_neg c1, if_neg c2]; simp only; rw [hst, if_pos (c := i < m ∧ m < (a + b) / 2 + m - i) (by omega), if_neg (c := a < i ∧ i < (a + b) / 2) (by omega), if_neg (c := (a + b) / 2 < (a + b) / 2 + m - i ∧ (a + b) / 2 + m - i < b) (by omega)]
            go_wp2_with (go_at_fn 127)
            refine (sym_rot enc lt g lb sf sb blk off a m b i dk _ wr hswap' hB hbB hSW (by omega) (by omega) (by omega) (by omega)).mono ?_
            rintro e w1 ⟨rfl, hS1⟩
            go_wp2
            go_end0
            exact ⟨rfl, by first | (rw [hsym]; exact SW_fin hW hblk (by simp only [symM_size, rotM_size]) hS1) | exact SW_fin hW hblk (by simp only [symM_size, rotM_size]) hS1⟩
      · by_cases k2 : m < (a + b) / 2
        · have hsym : symM lt (f + 1) a m b dk = symM lt f a i ((a + b) / 2) dk := by rw [symM, if_neg c1, if_neg c2]; simp only; rw [hst, if_neg (c := i < m ∧ m < (a + b) / 2 + m - i) (by omega), if_pos (c := a < i ∧ i < (a + b) / 2) (by omega), if_neg (c := (a + b) / 2 < (a + b) / 2 + m - i ∧ (a + b) / 2 + m - i < b) (by omega)]
          go_wp2_with (go_at_fn 126)
          refine (sym_rec1 enc lt g lb sf sb blk off f a b i dk _ _ wr ih hless' hswap' hB hbB hSW rfl (by omega) (by omega) (by omega) (by omega) (by omega)).mono ?_
          rintro e w1 ⟨rfl, hS1⟩
          go_wp2
          go_end0
          exact ⟨rfl, by first | (rw [hsym]; exact SW_fin hW hblk (by simp only [symM_size, rotM_size]) hS1) | exact SW_fin hW hblk (by simp only [symM_size, rotM_size]) hS1⟩
        · have hsym : symM lt (f + 1) a m b dk = dk := by rw [symM, if_neg c1, if_neg c2]; simp only; rw [hst, if_neg (c := i < m ∧ m < (a + b) / 2 + m - i) (by omega), if_neg (c := a < i ∧ i < (a + b) / 2) (by omega), if_neg (c := (a + b) / 2 < (a + b) / 2 + m - i ∧ (a + b) / 2 + m - i < b) (by omega)]
          go_wp2
          go_end0
          exact ⟨rfl, by first | (rw [hsym]; exact SW_fin hW hblk (by simp only [symM_size, rotM_size]) hSW) | exact SW_fin hW hblk (by simp only [symM_size, rotM_size]) hSW⟩
end Go.Proofs.YtpjjjonplikilaaGreat
namespace Go.Proofs.YtpjjjonplikilaaGreat
open Go.AG Go.Lib Go.Sort Go.Shelf Go.RowKit Go.Proofs
variable {α : Type} [Inhabited α]

theorem symMerge_w (enc : α → Value) (lt : α → α → Bool) (g : Nat) (lb : Array Value) (sf : Nat) (sb : Array Value) (blk off : Nat) (eg : ∀ args w, (callFunc g args).run Tryz.prog w = .ok (.enter g args) w) (f : Nat) : SymIH enc lt g lb sf sb blk off f := by
  induction f with
  | zero => intro a m b d dk w0 W _ _ _ _ _ _ h1 h2 _ h3; omega
  | succ f ih =>
    intro a m b d dk w0 W hless hswap hH hblk hW hs ha hm hb hf hsz
    by_cases c1 : m - a = 1
    · exact symMerge_c1 enc lt g lb sf sb blk off eg f a m b d dk w0 W hless hswap hH hblk hW hs ha hm hb hf hsz c1
    · by_cases c2 : b - m = 1
      · exact symMerge_c2 enc lt g lb sf sb blk off eg f a m b d dk w0 W hless hswap hH hblk hW hs ha hm hb hf hsz c1 c2
      · by_cases c3 : (a + b) / 2 < m
        · exact symMerge_c3 enc lt g lb sf sb blk off eg f ih a m b d dk w0 W hless hswap hH hblk hW hs ha hm hb hf hsz c1 c2 c3
        · exact symMerge_c4 enc lt g lb sf sb blk off eg f ih a m b d dk w0 W hless hswap hH hblk hW hs ha hm hb hf hsz c1 c2 c3
end Go.Proofs.YtpjjjonplikilaaGreat
namespace Go.Proofs.YtpjjjonplikilaaGreat
open Go.AG Go.Lib Go.Sort Go.Shelf Go.RowKit Go.Proofs
variable {α : Type} [Inhabited α]

theorem insInner_size (lt : α → α → Bool) (a j : Nat) (d : Array α) : (insInner lt a j d).size = d.size := by
  induction j generalizing d with
  | zero => rfl
  | succ j ih =>
    rw [insInner]
    split
    · rw [ih, size_swp]
    · rfl
theorem insOuter_size (lt : α → α → Bool) (a b i : Nat) (d : Array α) : (insOuter lt a b i d).size = d.size := by
  induction hn : b - i using Nat.strongRecOn generalizing i d with
  | _ n ih =>
    rw [insOuter]
    split
    · rw [ih (b - (i + 1)) (by omega) (i + 1) _ rfl, insInner_size]
    · rfl
theorem insSort_size (lt : α → α → Bool) (d : Array α) (a b : Nat) : (insertionSort lt d a b).size = d.size := insOuter_size _ _ _ _ _
theorem ins_w (enc : α → Value) (lt : α → α → Bool) (g : Nat) (lb : Array Value) (sf : Nat) (sb : Array Value) (blk off a b : Nat) (d : Array α) (w : World)
    (eg : ∀ args w, (callFunc g args).run Tryz.prog w = .ok (.enter g args) w) (hless : LessReads Tryz.prog g lb enc lt blk off d.size w) (hswap : SwapSwaps Tryz.prog sf sb enc blk off d.size)
    (hH : Holds enc w blk off d) (hblk : blk < w.heap.size) (hab : a ≤ b) (hb : b ≤ d.size) (hsz : d.size < 4611686018427387904) :
    Calls Tryz.prog 125 #[.agg #[.func (.func g) #[] lb, .func (.func sf) #[] sb], .int .i64 a, .int .i64 b] w fun e w' => e = .returned (.tuple #[]) ∧ ∃ n os, w' = sortWorld enc w blk off n (Sort.insertionSort lt d a b) os := by
  have L := Tryz.laysGt8
  have L2 : LaysGt.n15 Tryz.prog _ := { L with }
  exact Any.insertionSort_func_w ({ L2 with } : LaysGt.n29 _ _).elder enc lt g lb sf sb blk off a b d w eg hless hswap hH hblk hab hb hsz

set_option maxHeartbeats 4000000 in
set_option maxRecDepth 100000 in
theorem stable_w (enc : α → Value) (lt : α → α → Bool) (g : Nat) (lb : Array Value) (sf : Nat) (sb : Array Value) (blk off : Nat) (d : Array α) (W : World)
    (eg : ∀ args w, (callFunc g args).run Tryz.prog w = .ok (.enter g args) w) (hless : LessReads Tryz.prog g lb enc lt blk off d.size W) (hswap : SwapSwaps Tryz.prog sf sb enc blk off d.size)
    (hH : Holds enc W blk off d) (hblk : blk < W.heap.size) (hsz : d.size < 1152921504606846976) :
    Calls Tryz.prog 111 #[.agg #[.func (.func g) #[] lb, .func (.func sf) #[] sb], .int .i64 d.size] W fun e w' => e = .returned (.tuple #[]) ∧ SW enc W blk off (stA lt d.size d) w' := by
  have hB : Holds enc (W.alloc (.cells #[.func (.func g) #[] lb, .func (.func sf) #[] sb] 154)) blk off d := by
    rw [alloc_eq_grow]; exact holds_grow enc W _ blk off d hblk hH
  have hbB : blk < (W.alloc (.cells #[.func (.func g) #[] lb, .func (.func sf) #[] sb] 154)).heap.size := by rw [alloc_eq_grow, size_grow]; omega
  have hless' : LessReads Tryz.prog g lb enc lt blk off d.size (W.alloc (.cells #[.func (.func g) #[] lb, .func (.func sf) #[] sb] 154)) := ((SW.start hH).alloc _).lessReads hless hblk rfl
  have fin : ∀ dj w', dj.size = d.size → SW enc (W.alloc (.cells #[.func (.func g) #[] lb, .func (.func sf) #[] sb] 154)) blk off dj w' → SW enc W blk off dj w' := fun dj w' hd h => by
    obtain ⟨n, os, rfl⟩ := h
    exact ((SW.start hH).alloc _).on hblk n dj os hd
  have cell : ∀ k v dj w', (W.alloc (.cells #[.func (.func g) #[] lb, .func (.func sf) #[] sb] 154)).cell? ⟨W.heap.size, k, none⟩ = some v → SW enc (W.alloc (.cells #[.func (.func g) #[] lb, .func (.func sf) #[] sb] 154)) blk off dj w' → w'.cell? ⟨W.heap.size, k, none⟩ = some v := fun k v dj w' hv h => by
    obtain ⟨n, os, rfl⟩ := h
    exact sortWorld_other enc hv (by show W.heap.size ≠ blk; omega)
  have b0 : (W.alloc (.cells #[.func (.func g) #[] lb, .func (.func sf) #[] sb] 154)).cell? ⟨W.heap.size, 0, none⟩ = some (.func (.func g) #[] lb) := by simp
  have b1 : (W.alloc (.cells #[.func (.func g) #[] lb, .func (.func sf) #[] sb] 154)).cell? ⟨W.heap.size, 1, none⟩ = some (.func (.func sf) #[] sb) := by simp
  have ins : ∀ (a b : Nat) (dj : Array α) (wr : World), SW enc (W.alloc (.cells #[.func (.func g) #[] lb, .func (.func sf) #[] sb] 154)) blk off dj wr → dj.size = d.size → a ≤ b → b ≤ d.size →
      Calls Tryz.prog 125 #[.agg #[.func (.func g) #[] lb, .func (.func sf) #[] sb], .int .i64 a, .int .i64 b] wr fun e w' =>
        e = .returned (.tuple #[]) ∧ (insertionSort lt dj a b).size = d.size ∧ SW enc (W.alloc (.cells #[.func (.func g) #[] lb, .func (.func sf) #[] sb] 154)) blk off (insertionSort lt dj a b) w' := fun a b dj wr hS hs hab hb => by
    have hz := insSort_size lt dj a b
    refine (ins_w enc lt g lb sf sb blk off a b dj wr eg (by rw [hs]; exact hS.lessReads hless' hbB hs) (by rw [hs]; exact hswap) (hS.holds hbB hB hs) (hS.lt hbB) hab (by omega) (by omega)).mono ?_
    rintro e w' ⟨rfl, n, os, rfl⟩
    exact ⟨rfl, by omega, hS.on hbB n _ os hz⟩
  have mrg : ∀ (f a m b : Nat) (dj : Array α) (wr : World), SW enc (W.alloc (.cells #[.func (.func g) #[] lb, .func (.func sf) #[] sb] 154)) blk off dj wr → dj.size = d.size → a < m → m < b → b ≤ d.size → b - a ≤ f →
      Calls Tryz.prog 126 #[.agg #[.func (.func g) #[] lb, .func (.func sf) #[] sb], .int .i64 a, .int .i64 m, .int .i64 b] wr fun e w' =>
        e = .returned (.tuple #[]) ∧ (symM lt f a m b dj).size = d.size ∧ SW enc (W.alloc (.cells #[.func (.func g) #[] lb, .func (.func sf) #[] sb] 154)) blk off (symM lt f a m b dj) w' := fun f a m b dj wr hS hs h1 h2 h3 h4 => by
    refine (symMerge_w enc lt g lb sf sb blk off eg f a m b d dj _ wr hless' hswap hB hbB hS hs h1 h2 h3 h4 (by omega)).mono ?_
    rintro e w' ⟨rfl, h⟩
    exact ⟨rfl, by rw [symM_size, hs], h⟩
  go_enter Tryz.func111, Tryz.ntmps111
  go_wp2
  go_loopw [5, 6] (fun va vb wr => ∃ (f a : Nat) (dj : Array α), va = .int .i64 a ∧ vb = .int .i64 (a + 20 : Nat) ∧ d.size < a + f ∧ a ≤ d.size ∧ dj.size = d.size ∧
      SW enc (W.alloc (.cells #[.func (.func g) #[] lb, .func (.func sf) #[] sb] 154)) blk off dj wr ∧ stI lt d.size f a dj = stI lt d.size (d.size + 1) 0 d) (fun va _ _ => d.size - (intOf va).toNat)
  case atStart => exact ⟨d.size + 1, 0, d, rfl, rfl, by omega, by omega, rfl, SW.start hB, rfl⟩
  case round =>
    obtain ⟨f, a, dj, rfl, rfl, hf, han, hsj, hSW, hR⟩ := hrel
    obtain ⟨f, rfl⟩ : ∃ f', f = f' + 1 := ⟨f - 1, by omega⟩
    have hc0 := cell 0 _ dj wr b0 hSW
    have hc1 := cell 1 _ dj wr b1 hSW
    rw [stI] at hR
    by_cases hlt : a + 20 ≤ d.size
    · rw [if_pos hlt] at hR
      go_wp2_with (go_at_fn 125)
      refine (ins a (a + 20) dj wr hSW hsj (by omega) hlt).mono ?_
      rintro e w1 ⟨rfl, hz, hS1⟩
      go_wp2
      exact ⟨⟨f, a + 20, _, rfl, by congr 1, by omega, hlt, hz, hS1, hR⟩, by simp [intOf]; omega⟩
    · rw [if_neg hlt] at hR
      go_wp2_with (go_at_fn 125)
      refine (ins a d.size dj wr hSW hsj han (Nat.le_refl _)).mono ?_
      rintro e w1 ⟨rfl, hz, hS1⟩
      rw [hR] at hS1 hz
      go_wp2
      go_loopw [4] (fun vc wr2 => ∃ (f c : Nat) (dj : Array α), vc = .int .i64 c ∧ 0 < c ∧ c < 2 * d.size + 21 ∧ d.size < c + f ∧ dj.size = d.size ∧
          SW enc (W.alloc (.cells #[.func (.func g) #[] lb, .func (.func sf) #[] sb] 154)) blk off dj wr2 ∧ stB lt d.size f c dj = stA lt d.size d) (fun vc _ => d.size - (intOf vc).toNat)
      case atStart => exact ⟨d.size, 20, _, rfl, by omega, by omega, by omega, hz, hS1, rfl⟩
      case round =>
        obtain ⟨f2, c, d2, rfl, hc, hc2, hf2, hs2, hSW2, hR2⟩ := hrel
        have hd0 := cell 0 _ d2 _ b0 hSW2
        have hd1 := cell 1 _ d2 _ b1 hSW2
        by_cases hlt2 : c < d.size
        · obtain ⟨f2, rfl⟩ : ∃ f', f2 = f' + 1 := ⟨f2 - 1, by omega⟩
          rw [stB, if_pos hlt2] at hR2
          go_wp2
          go_loopw [5, 6] (fun va vb wr3 => ∃ (f a : Nat) (dj : Array α), va = .int .i64 a ∧ vb = .int .i64 (a + 2 * c : Nat) ∧ d.size < a + f ∧ a ≤ d.size ∧ dj.size = d.size ∧
              SW enc (W.alloc (.cells #[.func (.func g) #[] lb, .func (.func sf) #[] sb] 154)) blk off dj wr3 ∧ stP lt d.size c f a dj = stP lt d.size c (d.size + 1) 0 d2) (fun va _ _ => d.size - (intOf va).toNat)
          case atStart => exact ⟨d.size + 1, 0, d2, rfl, by first | (congr 1; done) | (congr 1; omega), by omega, by omega, hs2, hSW2, rfl⟩
          case round =>
            obtain ⟨f3, a3, d3, rfl, rfl, hf3, han3, hs3, hSW3, hR3⟩ := hrel
            obtain ⟨f3, rfl⟩ : ∃ f', f3 = f' + 1 := ⟨f3 - 1, by omega⟩
            have he0 := cell 0 _ d3 _ b0 hSW3
            have he1 := cell 1 _ d3 _ b1 hSW3
            rw [stP] at hR3
            by_cases hlt3 : a3 + 2 * c ≤ d.size
            · rw [if_pos hlt3] at hR3
              have hm := mrg (2 * c) a3 (a3 + c) (a3 + 2 * c) d3 _ hSW3 hs3 (by omega) (by omega) hlt3 (by omega)
              rw [show ((a3 + c : Nat) : Int) = (a3 : Int) + c by omega] at hm
              go_wp2_with (go_at_fn 126)
              refine hm.mono ?_
              rintro e w4 ⟨rfl, hz4, hS4⟩
              go_wp2
              exact ⟨⟨f3, a3 + 2 * c, _, rfl, by first | (congr 1; done) | (congr 1; omega), by omega, hlt3, hz4, hS4, hR3⟩, by simp [intOf]; omega⟩
            · rw [if_neg hlt3] at hR3
              by_cases hlt4 : a3 + c < d.size
              · rw [if_pos hlt4] at hR3
                have hm := mrg (d.size - a3) a3 (a3 + c) d.size d3 _ hSW3 hs3 (by omega) hlt4 (Nat.le_refl _) (by omega)
                rw [show ((a3 + c : Nat) : Int) = (a3 : Int) + c by omega] at hm
                go_wp2_with (go_at_fn 126)
                refine hm.mono ?_
                rintro e w4 ⟨rfl, hz4, hS4⟩
                go_wp2
                rw [hR3] at hS4 hz4
                exact ⟨⟨f2, 2 * c, _, by first | (congr 1; done) | (congr 1; omega), by omega, by omega, by omega, hz4, hS4, hR2⟩, by simp [intOf]; omega⟩
              · rw [if_neg hlt4] at hR3
                go_wp2
                rw [← hR3] at hR2
                exact ⟨⟨f2, 2 * c, _, by first | (congr 1; done) | (congr 1; omega), by omega, by omega, by omega, hs3, hSW3, hR2⟩, by simp [intOf]; omega⟩
        · have hst : stA lt d.size d = d2 := by
            rw [← hR2]
            cases f2 with
            | zero => rfl
            | succ f2 => rw [stB, if_neg hlt2]
          go_wp2
          go_end0
          exact ⟨rfl, by rw [hst]; exact fin _ _ hs2 hSW2⟩

set_option maxHeartbeats 1000000 in
/-- sort.SliceStable of two elements or more -/
theorem stable_any (t e : TypeId) (i ie : TypeInfo) (hi : Tryz.prog.info? t = some i) (hd : i.desc = .slice e) (hpk : Tryz.prog.packed t = false) (hie : Tryz.prog.info? e = some ie) (ke : Nat) (hke : ∀ w, (Extern.Rtype.kind e).run Tryz.prog w = .ok ke w)
    (hs1 : ie.size = 1) (hagg : ∀ w, (isAgg e).run Tryz.prog w = .ok false w) (enc : α → Value) (h1 : ∀ x, (enc x).oneCell' = true) (lt : α → α → Bool) (g : Nat) (lb : Array Value)
    (eg : ∀ args w, (callFunc g args).run Tryz.prog w = .ok (.enter g args) w) (blk off c : Nat) (d : Array α) (h2 : 2 ≤ d.size) (h20 : d.size < 1152921504606846976)
    (f : Nat) (hf : Tryz.prog.funcs.findIdx? (·.name == "internal/reflectlite" ++ ".Swapper$" ++ toString (swapperK d.size ie ke)) = some f)
    (gS : Bool) (hx : ∀ args W, (callFunc f args).run Tryz.prog W = ((Extern.ReflectliteSwapper.swap gS args).run Tryz.prog W).andThen fun v w' => .ok (.value v) w')
    (w : World) (hless : LessReads Tryz.prog g lb enc lt blk off d.size w) (hH : Holds enc w blk off d) (hblk : blk < w.heap.size) :
    Calls Tryz.prog 94 #[.iface t (.slice (some ⟨blk, off, none⟩) d.size c), .func (.func g) #[] lb] w fun e w' =>
      e = .returned (.tuple #[]) ∧ ∃ n os, w' = grow (putRow enc (Sort.ahead w n) blk off (stA lt d.size d)) os := by
  have L := Tryz.laysGt8
  refine Any.sort_SliceStable_of_stable L t e i ie hi hd hpk hie ke hke _ d.size c (by omega) f hf (.func g) #[] lb w _ ?_
  have hB : sliceBound Tryz.prog e ie ke (some ⟨blk, off, none⟩) d.size c = #[.slice (some ⟨blk, off, none⟩) d.size c, typeHandle Tryz.prog e] := by
    unfold sliceBound; rw [if_neg (swapperK_gt _ _ _ h2)]
  obtain ⟨os0, hW⟩ : ∃ os0, stableWorld Tryz.prog Tryz.laysGt8_ren t (some ⟨blk, off, none⟩) d.size c w = grow w os0 := by
    exact ⟨_, by unfold stableWorld; rw [alloc_eq_grow, alloc_eq_grow, grow_grow]⟩
  rw [hB, hW]
  have hp := stable_w enc lt g lb f _ blk off d (grow w os0) eg (hless.grow hblk os0)
    (swapSwaps_of_literal gS f hx e ie hie hs1 hagg enc h1 blk off d.size c) (holds_grow enc w _ blk off d hblk hH) (by rw [size_grow]; omega) h20
  refine hp.mono ?_
  rintro e w' ⟨rfl, n, os, rfl⟩
  exact ⟨rfl, n, _, by unfold sortWorld; rw [ahead_grow, putRow_grow enc (Sort.ahead w n) _ blk off _ hblk, grow_grow]⟩
end Go.Proofs.YtpjjjonplikilaaGreat
namespace Go.Proofs.YtpjjjonplikilaaGreat
open Go.AG Go.Lib Go.Sort Go.Shelf Go.RowKit

def encF {n : Nat} (k : Fin n) : Value := .int .i64 (k.val : Nat)
def ltS (T S : Int) (ws : List Int) {n : Nat} (a b : Fin n) : Bool := decide (rmW T S (gi ws b.val) < rmW T S (gi ws a.val))
/-- .. and ties by the first places: a total order -/
def RbS (T S : Int) (ws : List Int) {n : Nat} (a b : Fin n) : Bool := ltS T S ws a b || (!ltS T S ws b a && decide (a.val < b.val))
theorem RbS_iff (T S : Int) (ws : List Int) {n : Nat} (a b : Fin n) : RbS T S ws a b = true ↔ rmW T S (gi ws b.val) < rmW T S (gi ws a.val) ∨ rmW T S (gi ws b.val) = rmW T S (gi ws a.val) ∧ a.val < b.val := by
  simp only [RbS, ltS, Bool.or_eq_true, Bool.and_eq_true, Bool.not_eq_true', decide_eq_true_eq, decide_eq_false_iff_not]
  omega
theorem RbS_no (T S : Int) (ws : List Int) {n : Nat} (a b : Fin n) : RbS T S ws a b = false ↔ ¬ (rmW T S (gi ws b.val) < rmW T S (gi ws a.val) ∨ rmW T S (gi ws b.val) = rmW T S (gi ws a.val) ∧ a.val < b.val) := by
  rw [← RbS_iff, Bool.not_eq_true]
theorem RbS_swo (T S : Int) (ws : List Int) (n : Nat) : SWO (RbS T S ws (n := n + 1)) := ⟨fun x => by rw [RbS_no]; omega, fun x y z h1 h2 => by rw [RbS_iff] at *; omega, fun x y z h1 h2 => by rw [RbS_no] at *; omega⟩
theorem ext_self {α : Type} (d : Array α) (n : Nat) (h : d.size = n) : d.extract 0 n = d := by subst h; simp
theorem get_bang {α : Type} [Inhabited α] (d : Array α) (t : Nat) (h : t < d.toList.length) : d[t]! = d.toList[t] := by
  have : t < d.size := by simpa using h
  simp [this]
/-- the order that the sort leaves -/
def srt (T S : Int) (ws : List Int) {n : Nat} (xs : List (Fin (n + 1))) : List (Fin (n + 1)) := (stA (ltS T S ws) xs.toArray.size xs.toArray).toList
theorem org_fin (T S : Int) (ws : List Int) (n : Nat) : Org (ltS T S ws (n := n + 1)) (RbS T S ws) (List.finRange (n + 1)).toArray (List.finRange (n + 1)).toArray.size := by
  intro i j hij hj
  have hj' : j < n + 1 := by simpa using hj
  have ei : (List.finRange (n + 1)).toArray[i]! = ⟨i, by omega⟩ := by
    rw [get_bang _ _ (by simpa using (show i < n + 1 by omega))]; simp
  have ej : (List.finRange (n + 1)).toArray[j]! = ⟨j, hj'⟩ := by
    rw [get_bang _ _ (by simpa using hj')]; simp
  rw [ei, ej]
  constructor
  · have : decide (j < i) = false := decide_eq_false (by omega)
    simp only [RbS, this, Bool.and_false, Bool.or_false]
  · intro h
    rw [RbS_no] at h
    rw [RbS_iff]
    simp only at h ⊢
    omega
theorem srt_perm (T S : Int) (ws : List Int) (n : Nat) : (srt T S ws (List.finRange (n + 1))).Perm (List.finRange (n + 1)) := by
  obtain ⟨⟨h1, _, h2⟩, _⟩ := stA_ok (RbS_swo T S ws n) (org_fin T S ws n) (Nat.le_refl _)
  have e1 := ext_self (stA (ltS T S ws (n := n + 1)) (List.finRange (n + 1)).toArray.size (List.finRange (n + 1)).toArray) _ h1
  have e2 := ext_self (List.finRange (n + 1)).toArray _ rfl
  rw [e1, e2, List.toList_toArray] at h2
  exact h2
theorem srt_len (T S : Int) (ws : List Int) (n : Nat) : (srt T S ws (List.finRange (n + 1))).length = n + 1 := by rw [(srt_perm T S ws n).length_eq, List.length_finRange]
theorem srt_tot (T S : Int) (ws : List Int) (n : Nat) : ∀ i j (h : i < j) (hj : j < (srt T S ws (List.finRange (n + 1))).length), RbS T S ws ((srt T S ws (List.finRange (n + 1)))[i]'(by omega)) (srt T S ws (List.finRange (n + 1)))[j] = true := fun i j h hj => by
  obtain ⟨_, h3⟩ := stA_ok (RbS_swo T S ws n) (org_fin T S ws n) (Nat.le_refl _)
  have hl := srt_len T S ws n
  have := h3 i j (Nat.zero_le _) h (by simp; omega)
  have ej : ∀ t (ht : t < (srt T S ws (List.finRange (n + 1))).length), (stA (ltS T S ws (n := n + 1)) (List.finRange (n + 1)).toArray.size (List.finRange (n + 1)).toArray)[t]! = (srt T S ws (List.finRange (n + 1)))[t] := fun t ht => get_bang _ t ht
  rw [ej i (by omega), ej j hj] at this
  exact this
theorem ref_of {w : World} {Y : Nat → Prop} {ρ : Nat → Pl} {ob : Objs} {v : Value} {l n : Nat} (h : RepC w Y ρ ob v (.ref l 0 n)) (hn : n ≠ 0) : ∃ cap, v = .slice (some ⟨(ρ l).blk, (ρ l).base, none⟩) n cap := by
  cases h with
  | d h => cases h
  | ref ho' hm' hlc hc' hs' => exact ⟨_, rfl⟩
  | ref0 ho' hm' => exact absurd rfl hn
def shRest (T S : Int) (ws : List Int) (n : Nat) : Objs := [some ⟨1, [I T]⟩, some ⟨1, [iS ws]⟩, some ⟨1, [.ref 0 0 n]⟩, some ⟨1, [I S]⟩]
def shCaps : List V := [.ptr 1 0, .ptr 2 0, .ptr 3 0, .ptr 4 0]
theorem shLess (T S : Int) (hS : 0 < S) (ws : List Int) (k : Nat) (hw : ws.length = k + 2) (xs : List (Fin (k + 2))) (hx : xs.length = k + 2) (F : Fr) (w : World) (ρ : Nat → Pl) (h : HOk F w ρ (some ⟨1, encs encF xs⟩ :: shRest T S ws (k + 2)))
    (cs : Array Value) (hs : cs.size = shCaps.length) (hr : ∀ i (h : i < shCaps.length), RepC w (F.Y ρ (some ⟨1, encs encF xs⟩ :: shRest T S ws (k + 2))) ρ (some ⟨1, encs encF xs⟩ :: shRest T S ws (k + 2)) (cs.getD i undef) shCaps[i]) :
    LessReads (α := Fin (k + 2)) Tryz.prog 95 cs encF (ltS T S ws) (ρ 0).blk (ρ 0).base xs.length w := by
  have l0 : Live (some ⟨1, encs encF xs⟩ :: shRest T S ws (k + 2)) 0 ⟨1, encs encF xs⟩ := rfl
  have l1 : Live (some ⟨1, encs encF xs⟩ :: shRest T S ws (k + 2)) 1 ⟨1, [I T]⟩ := rfl
  have l2 : Live (some ⟨1, encs encF xs⟩ :: shRest T S ws (k + 2)) 2 ⟨1, [iS ws]⟩ := rfl
  have l3 : Live (some ⟨1, encs encF xs⟩ :: shRest T S ws (k + 2)) 3 ⟨1, [.ref 0 0 (k + 2)]⟩ := rfl
  have l4 : Live (some ⟨1, encs encF xs⟩ :: shRest T S ws (k + 2)) 4 ⟨1, [I S]⟩ := rfl
  have p0 := ptr_of (l := 1) (off := 0) (hr 0 (by simp [shCaps]))
  have p1 := ptr_of (l := 2) (off := 0) (hr 1 (by simp [shCaps]))
  have p2 := ptr_of (l := 3) (off := 0) (hr 2 (by simp [shCaps]))
  have p3 := ptr_of (l := 4) (off := 0) (hr 3 (by simp [shCaps]))
  have hcs : cs = #[cs.getD 0 undef, cs.getD 1 undef, cs.getD 2 undef, cs.getD 3 undef] := by
    have hs4 : cs.size = 4 := hs
    apply Array.ext (by simp [hs4])
    intro i h1 h2
    have : i = 0 ∨ i = 1 ∨ i = 2 ∨ i = 3 := by omega
    rcases this with rfl | rfl | rfl | rfl <;> simp [Array.getD, h1]
  rw [p0, p1, p2, p3] at hcs
  subst hcs
  obtain ⟨c1, a1, b1⟩ := h.box0 l1
  obtain ⟨c2, a2, b2⟩ := h.box0 l2
  obtain ⟨c3, a3, b3⟩ := h.box0 l3
  obtain ⟨c4, a4, b4⟩ := h.box0 l4
  rw [sc_of b1] at a1
  rw [sc_of b4] at a4
  have hb := h.blk_lt l0
  have hH := h.holds (by decide) encF l0
  obtain ⟨wb, wo, cw, e2, hwb, hwc⟩ := by
    cases b2 with
    | d hd => exact sl_of hd (by intro e; have := congrArg List.length e; simp [ints, hw] at this)
  subst e2
  obtain ⟨cap, e3⟩ := ref_of b3 (by omega)
  subst e3
  have hne : wb ≠ (ρ 0).blk := fun e => hwb (.inr ⟨0, _, l0, e.symm⟩)
  intro m os dk hd i j hi hj
  rw [hx] at hd hi hj
  have n1 : (ρ 1).blk ≠ (ρ 0).blk := fun e => absurd (h.inj _ _ _ _ l1 l0 e) (by decide)
  have n2 : (ρ 2).blk ≠ (ρ 0).blk := fun e => absurd (h.inj _ _ _ _ l2 l0 e) (by decide)
  have n3 : (ρ 3).blk ≠ (ρ 0).blk := fun e => absurd (h.inj _ _ _ _ l3 l0 e) (by decide)
  have n4 : (ρ 4).blk ≠ (ρ 0).blk := fun e => absurd (h.inj _ _ _ _ l4 l0 e) (by decide)
  refine shLess_walk _ (ρ 1).blk ((ρ 1).base + 0) (ρ 2).blk ((ρ 2).base + 0) (ρ 3).blk ((ρ 3).base + 0) (ρ 4).blk ((ρ 4).base + 0) (ρ 0).blk (ρ 0).base cap wb wo cw (k + 2) T S (gi ws) (fun t => (dk[t]!).val)
    (sortWorld_other _ a1 n1) ?_ (sortWorld_other _ a3 n3) (sortWorld_other _ a4 n4) (fun t ht => ?_) (fun t ht => (dk[t]!).isLt) (fun t ht => ?_) i j hi hj hS
  · rw [hw] at a2; exact sortWorld_other _ a2 n2
  · exact sortWorld_row encF hH hb (by simp [hd, hx]) t (by omega)
  · obtain ⟨c, q1, q2⟩ := hwc t (by simp [ints]; omega)
    have : c = .int .i64 (gi ws t) := by
      simp only [ints, List.getElem_map] at q2
      cases q2
      simp [gi, List.getD, show t < ws.length by omega]
    rw [this] at q1
    exact sortWorld_other _ q1 hne
theorem sortSh_ok (T S : Int) (hS : 0 < S) (ws : List Int) (k : Nat) (hw : ws.length = k + 2) (h20 : k + 2 ≤ 1000000) :
    ACalls Tryz.prog 94 [.ifc 131 (.ref 0 0 (List.finRange (k + 2)).length), .fn 95 shCaps] (some ⟨1, encs encF (List.finRange (k + 2))⟩ :: shRest T S ws (k + 2)) (fun r o => r = .tup [] ∧ o = some ⟨1, encs encF (srt T S ws (List.finRange (k + 2)))⟩ :: shRest T S ws (k + 2)) := by
  have hb : HasBody Tryz.prog 94 := ⟨_, Tryz.func94, by kernel_rfl, rfl⟩
  have hx : (List.finRange (k + 2)).length = k + 2 := by simp
  have hl : (srt T S ws (List.finRange (k + 2))).length = (List.finRange (k + 2)).length := by rw [srt_len, hx]
  generalize hxs : List.finRange (k + 2) = xs at *
  refine ACalls.stable hb _ _ _ encF (fun x => rfl) (ltS T S ws) xs (srt T S ws xs) hl (fun e => by simp [e] at hx) _ (fun F w ρ h cs hs hr => shLess T S hS ws k hw xs hx F w ρ h cs hs hr) (fun w blk off cap cs hless hH hblk => ?_)
  have hz : xs.toArray.size = xs.length := by simp
  have h := stable_any 131 3 shT shE (by kernel_rfl) (by kernel_rfl) (by kernel_rfl) (by kernel_rfl) 2 (fun _ => by kernel_rfl) (by kernel_rfl) (fun _ => by kernel_rfl) encF (fun _ => rfl) (ltS T S ws) 95 cs
    (enters_of Tryz.func95 (by kernel_rfl) rfl) blk off cap xs.toArray (by omega) (by omega) 120 (by rw [shK _ (by omega)]; kernel_rfl) true
    (fun args W => run_callFunc_extern Tryz.func120 (by kernel_rfl) (by kernel_rfl) (by kernel_rfl) (e := Extern.ReflectliteSwapper.swap true) (by kernel_rfl) args W) w (by rw [hz]; exact hless) hH hblk
  rw [hz] at h
  refine h.mono ?_
  rintro e w' ⟨e1, n, os, e2⟩
  refine ⟨e1, n, os, ?_⟩
  rw [e2]
  simp [srt]
theorem sortTiny_ok (n : Nat) (hn : n ≤ 1) (g : FuncId) (caps : List V) (ob : Objs) :
    ACalls Tryz.prog 94 [.ifc 131 (.ref 0 0 n), .fn g caps] ob (fun r o => r = .tup [] ∧ o = ob) := by
  have hb : HasBody Tryz.prog 94 := ⟨_, Tryz.func94, by kernel_rfl, rfl⟩
  refine ACalls.tiny hb _ _ _ n ob (fun w p cap cs => ?_)
  rcases (show n = 0 ∨ n = 1 by omega) with rfl | rfl
  · exact Any.sort_SliceStable_tiny Tryz.laysGt8 131 3 shT shE (by kernel_rfl) (by kernel_rfl) (by kernel_rfl) (by kernel_rfl) 2 (fun _ => by kernel_rfl) p 0 cap (by omega) 116 (by rw [shK0]; kernel_rfl) (.func g) #[] cs w
  · exact Any.sort_SliceStable_tiny Tryz.laysGt8 131 3 shT shE (by kernel_rfl) (by kernel_rfl) (by kernel_rfl) (by kernel_rfl) 2 (fun _ => by kernel_rfl) p 1 cap (by omega) 117 (by rw [shK1]; kernel_rfl) (.func g) #[] cs w
/-- the positions, and their order by falling remainders -/
def posI (n : Nat) : List Int := (List.range n).map fun i : Nat => (i : Int)
def ordV (T S : Int) (ws : List Int) : List Int := match ws.length with
  | k + 2 => (srt T S ws (List.finRange (k + 2))).map fun i => (i.val : Int)
  | n => posI n
theorem encs_fin {n : Nat} (xs : List (Fin n)) : encs encF xs = ints (xs.map fun i => (i.val : Int)) := by
  simp only [encs, ints, List.map_map]
  rfl
theorem fin_id (n : Nat) : (List.finRange n).map (fun i => (i.val : Int)) = posI n := by
  apply List.ext_getElem (by simp [posI])
  intro i h1 h2
  simp [posI]
theorem ordV_big (T S : Int) (ws : List Int) (k : Nat) (h : ws.length = k + 2) : ordV T S ws = (srt T S ws (List.finRange (k + 2))).map fun i => (i.val : Int) := by
  unfold ordV
  split
  · rename_i k' he
    have : k' = k := by omega
    subst this
    rfl
  · rename_i h2
    exact absurd h (h2 k)
theorem ordV_small (T S : Int) (ws : List Int) (h : ws.length ≤ 1) : ordV T S ws = posI ws.length := by
  simp only [ordV]
  split
  · omega
  · rfl
theorem sortOrd_ok (T S : Int) (hS : 0 < S) (ws : List Int) (h20 : ws.length ≤ 1000000) :
    ACalls Tryz.prog 94 [.ifc 131 (.ref 0 0 ws.length), .fn 95 shCaps] (oI (posI ws.length) :: shRest T S ws ws.length) (fun r o => r = .tup [] ∧ o = oI (ordV T S ws) :: shRest T S ws ws.length) := by
  by_cases h : ws.length ≤ 1
  · rw [ordV_small T S ws h]
    exact sortTiny_ok ws.length h _ _ _
  · obtain ⟨k, hk⟩ : ∃ k, ws.length = k + 2 := ⟨ws.length - 2, by omega⟩
    have := sortSh_ok T S hS ws k hk (by omega)
    rw [encs_fin, encs_fin, fin_id, List.length_finRange] at this
    rw [ordV_big T S ws k hk, hk]
    exact this
theorem ordV_len (T S : Int) (ws : List Int) : (ordV T S ws).length = ws.length := by
  by_cases h : ws.length ≤ 1
  · rw [ordV_small T S ws h]; simp [posI]
  · obtain ⟨k, hk⟩ : ∃ k, ws.length = k + 2 := ⟨ws.length - 2, by omega⟩
    rw [ordV_big T S ws k hk, hk, List.length_map, srt_len]
/-- by falling remainders, ties by the first places -/
theorem ordV_tot (T S : Int) (ws : List Int) (i j : Nat) (hij : i < j) (hj : j < ws.length) : rmW T S (gi ws (gi (ordV T S ws) j).toNat) < rmW T S (gi ws (gi (ordV T S ws) i).toNat) ∨ rmW T S (gi ws (gi (ordV T S ws) j).toNat) = rmW T S (gi ws (gi (ordV T S ws) i).toNat) ∧ gi (ordV T S ws) i < gi (ordV T S ws) j := by
  obtain ⟨k, hk⟩ : ∃ k, ws.length = k + 2 := ⟨ws.length - 2, by omega⟩
  have hl : (srt T S ws (List.finRange (k + 2))).length = k + 2 := srt_len T S ws (k + 1)
  have := (RbS_iff _ _ _ _ _).1 (srt_tot T S ws (k + 1) i j hij (show j < (srt T S ws (List.finRange (k + 2))).length by omega))
  rw [ordV_big T S ws k hk]
  simp only [gi, List.getD_eq_getElem?_getD, List.getElem?_map, List.getElem?_eq_getElem (show i < (srt T S ws (List.finRange (k + 2))).length by omega), List.getElem?_eq_getElem (show j < (srt T S ws (List.finRange (k + 2))).length by omega), Option.map_some, Option.getD_some, Int.toNat_natCast] at this ⊢
  rcases this with h | ⟨h1, h2⟩
  · exact .inl h
  · exact .inr ⟨h1, Int.ofNat_lt.2 h2⟩
/-- a permutation, by falling remainders -/
theorem ordV_ok (T S : Int) (ws : List Int) : (ordV T S ws).Perm (posI ws.length) ∧ ∀ i j, i < j → j < ws.length → rmW T S (gi ws (gi (ordV T S ws) j).toNat) ≤ rmW T S (gi ws (gi (ordV T S ws) i).toNat) := by
  refine ⟨?_, fun i j h1 h2 => by have := ordV_tot T S ws i j h1 h2; omega⟩
  by_cases h : ws.length ≤ 1
  · rw [ordV_small T S ws h]
  · obtain ⟨k, hk⟩ : ∃ k, ws.length = k + 2 := ⟨ws.length - 2, by omega⟩
    rw [ordV_big T S ws k hk, hk, ← fin_id]
    exact (srt_perm T S ws (k + 1)).map _
end Go.Proofs.YtpjjjonplikilaaGreat

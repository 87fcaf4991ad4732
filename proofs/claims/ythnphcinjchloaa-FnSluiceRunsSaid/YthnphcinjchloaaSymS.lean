/- sort.symMerge_func: the model, plain; the insertion sort is stable: plain; blocks sorted, halves merged: plain -/
import Derived.Test.YthnphcinjchloaaAgZ
import Derived.Sort.Lot0
import Derived.Sort.LotA
set_option linter.unusedVariables false
set_option linter.unusedSimpArgs false
namespace Go.Proofs.Ythnphcinjchloaa
open Go.Lib Go.Sort
variable {α : Type} [Inhabited α]

/-- n elements from a on change places with those from b on -/
def swR (d : Array α) (a b : Nat) : Nat → Array α
  | 0 => d
  | n + 1 => swp (swR d a b n) (a + n) (b + n)
theorem swR_size (d : Array α) (a b n : Nat) : (swR d a b n).size = d.size := by
  induction n with
  | zero => rfl
  | succ n ih => rw [swR, size_swp, ih]
/-- the blocks [m - i, m) and [m, m + j) change places -/
def rotM (m i j : Nat) (d : Array α) : Array α :=
  if i = j then swR d (m - i) m i
  else if i = 0 ∨ j = 0 then d
  else if j < i then rotM m (i - j) j (swR d (m - i) m j)
  else rotM m i (j - i) (swR d (m - i) (m + j - i) i)
termination_by i + j
decreasing_by all_goals omega
/-- a search by halves: the first place from i on at which p does not hold -/
def bsM (p : Nat → Bool) (i j : Nat) : Nat :=
  if h : i < j then (if p ((i + j) / 2) = true then bsM p ((i + j) / 2 + 1) j else bsM p i ((i + j) / 2)) else i
termination_by j - i
decreasing_by all_goals omega
/-- one element goes up to the place before i, by neighbours -/
def upM (d : Array α) (k i : Nat) : Array α := if k + 1 < i then upM (swp d k (k + 1)) (k + 1) i else d
termination_by i - k
/-- one element goes down to the place i -/
def downM (d : Array α) (k i : Nat) : Array α := if i < k then downM (swp d k (k - 1)) (k - 1) i else d
termination_by k - i
/-- the place at which the halves part -/
def stM (lt : α → α → Bool) (d : Array α) (a m b : Nat) : Nat :=
  let mid := (a + b) / 2
  let n := mid + m
  if mid < m then bsM (fun c => !lt d[n - 1 - c]! d[c]!) (n - b) mid else bsM (fun c => !lt d[n - 1 - c]! d[c]!) a m
def symM (lt : α → α → Bool) : Nat → Nat → Nat → Nat → Array α → Array α
  | 0, _, _, _, d => d
  | f + 1, a, m, b, d =>
    if m - a = 1 then upM d a (bsM (fun h => lt d[h]! d[a]!) m b)
    else if b - m = 1 then downM d m (bsM (fun h => !lt d[m]! d[h]!) a m)
    else
      let mid := (a + b) / 2
      let st := stM lt d a m b
      let en := mid + m - st
      let d1 := if st < m ∧ m < en then rotM m (m - st) (en - m) d else d
      let d2 := if a < st ∧ st < mid then symM lt f a st mid d1 else d1
      if mid < en ∧ en < b then symM lt f mid en b d2 else d2
theorem bsM_bd (p : Nat → Bool) (i j : Nat) (h : i ≤ j) : i ≤ bsM p i j ∧ bsM p i j ≤ j := by
  induction hn : j - i using Nat.strongRecOn generalizing i j with
  | _ n ih =>
    rw [bsM]
    split
    · split
      · have := ih (j - ((i + j) / 2 + 1)) (by omega) ((i + j) / 2 + 1) j (by omega) rfl
        omega
      · have := ih ((i + j) / 2 - i) (by omega) i ((i + j) / 2) (by omega) rfl
        omega
    · omega
/-- the search parts the places, where what holds at one holds at all before it -/
theorem bsM_part (p : Nat → Bool) (i j : Nat) (h : i ≤ j) (hm : ∀ c c', i ≤ c' → c' < c → c < j → p c = true → p c' = true) : (∀ c, i ≤ c → c < bsM p i j → p c = true) ∧ (∀ c, bsM p i j ≤ c → c < j → p c = false) := by
  induction hn : j - i using Nat.strongRecOn generalizing i j with
  | _ n ih =>
    rw [bsM]
    split
    · split
      · rename_i h1 h2
        obtain ⟨q1, q2⟩ := ih (j - ((i + j) / 2 + 1)) (by omega) ((i + j) / 2 + 1) j (by omega) (fun c c' a b d e => hm c c' (by omega) b d e) rfl
        refine ⟨fun c a b => ?_, q2⟩
        by_cases e : (i + j) / 2 + 1 ≤ c
        · exact q1 c e b
        · by_cases e2 : c = (i + j) / 2
          · rw [e2]; exact h2
          · exact hm ((i + j) / 2) c a (by omega) (by omega) h2
      · rename_i h1 h2
        obtain ⟨q1, q2⟩ := ih ((i + j) / 2 - i) (by omega) i ((i + j) / 2) (by omega) (fun c c' a b d e => hm c c' a b (by omega) e) rfl
        refine ⟨q1, fun c a b => ?_⟩
        by_cases e : c < (i + j) / 2
        · exact q2 c a e
        · cases hp : p c with
          | false => rfl
          | true =>
            exfalso
            apply h2
            by_cases e2 : c = (i + j) / 2
            · rw [← e2]; exact hp
            · exact hm c ((i + j) / 2) (by omega) (by omega) b hp
    · exact ⟨fun c a b => by omega, fun c a b => by omega⟩
theorem swR_get (d : Array α) (a b n : Nat) (hab : a + n ≤ b) (hb : b + n ≤ d.size) : ∀ k, (swR d a b n)[k]! = if a ≤ k ∧ k < a + n then d[k - a + b]! else if b ≤ k ∧ k < b + n then d[k - b + a]! else d[k]! := by
  induction n with
  | zero =>
    intro k
    rw [if_neg (by omega), if_neg (by omega)]; rfl
  | succ n ih =>
    have ih := ih (by omega) (by omega)
    intro k
    rw [swR]
    by_cases e1 : k = a + n
    · subst e1
      rw [swp_left _ _ _ (by rw [swR_size]; omega) (by omega), ih, if_neg (by omega), if_neg (by omega), if_pos (by omega)]
      congr 1; omega
    · by_cases e2 : k = b + n
      · subst e2
        rw [swp_right _ _ _ (by rw [swR_size]; omega), ih, if_neg (by omega), if_neg (by omega), if_neg (by omega), if_pos (by omega)]
        congr 1; omega
      · rw [swp_other _ _ _ _ e1 e2, ih]
        by_cases c1 : a ≤ k ∧ k < a + n
        · rw [if_pos c1, if_pos (by omega)]
        · by_cases c2 : b ≤ k ∧ k < b + n
          · rw [if_neg c1, if_pos c2, if_neg (by omega), if_pos (by omega)]
          · rw [if_neg c1, if_neg c2, if_neg (by omega), if_neg (by omega)]
theorem rotM_size (m i j : Nat) (d : Array α) : (rotM m i j d).size = d.size := by
  induction hn : i + j using Nat.strongRecOn generalizing i j d with
  | _ n ih =>
    rw [rotM]
    split
    · exact swR_size _ _ _ _
    · split
      · rfl
      · split
        · rw [ih _ (by omega) _ _ _ rfl, swR_size]
        · rw [ih _ (by omega) _ _ _ rfl, swR_size]
theorem rotM_get (m i j : Nat) (d : Array α) (hi : i ≤ m) (hj : m + j ≤ d.size) : ∀ k, (rotM m i j d)[k]! = if m - i ≤ k ∧ k < m - i + j then d[k + i]! else if m - i + j ≤ k ∧ k < m + j then d[k - j]! else d[k]! := by
  induction hn : i + j using Nat.strongRecOn generalizing i j d with
  | _ n ih =>
    intro k
    rw [rotM]
    split
    · rename_i e
      subst e
      rw [swR_get _ _ _ _ (by omega) (by omega)]
      by_cases c1 : m - i ≤ k ∧ k < m - i + i
      · rw [if_pos c1, if_pos c1]; congr 1; omega
      · rw [if_neg c1, if_neg c1]
        by_cases c2 : m ≤ k ∧ k < m + i
        · rw [if_pos c2, if_pos (by omega)]; congr 1; omega
        · rw [if_neg c2, if_neg (by omega)]
    · split
      · rename_i e0 e
        rcases e with e | e
        · subst e
          by_cases c1 : m - 0 ≤ k ∧ k < m - 0 + j
          · rw [if_pos c1]; rfl
          · rw [if_neg c1, if_neg (by omega)]
        · subst e
          rw [if_neg (by omega)]
          by_cases c2 : m - i + 0 ≤ k ∧ k < m + 0
          · rw [if_pos c2]; rfl
          · rw [if_neg c2]
      · rename_i e0 e1
        split
        · rename_i e2
          have hs : (swR d (m - i) m j).size = d.size := swR_size _ _ _ _
          rw [ih _ (by omega) (i - j) j (swR d (m - i) m j) (by omega) (by omega) rfl]
          have g := swR_get d (m - i) m j (by omega) (by omega)
          by_cases c1 : m - i ≤ k ∧ k < m - i + j
          · rw [if_pos c1, if_neg (by omega), if_neg (by omega), g, if_pos (by omega)]
            congr 1; omega
          · rw [if_neg c1]
            by_cases c2 : m - i + j ≤ k ∧ k < m + j
            · rw [if_pos c2]
              by_cases c3 : k < m - i + j + j
              · rw [if_pos (by omega), g]
                by_cases c4 : m ≤ k + (i - j)
                · rw [if_neg (by omega), if_pos (by omega)]; congr 1; omega
                · omega
              · rw [if_neg (by omega), if_pos (by omega), g, if_neg (by omega), if_neg (by omega)]
            · rw [if_neg c2, if_neg (by omega), if_neg (by omega), g, if_neg (by omega), if_neg (by omega)]
        · rename_i e2
          have hs : (swR d (m - i) (m + j - i) i).size = d.size := swR_size _ _ _ _
          rw [ih _ (by omega) i (j - i) (swR d (m - i) (m + j - i) i) (by omega) (by omega) rfl]
          have g := swR_get d (m - i) (m + j - i) i (by omega) (by omega)
          by_cases c1 : m - i ≤ k ∧ k < m - i + j
          · rw [if_pos c1]
            by_cases c3 : k < m - i + (j - i)
            · rw [if_pos (by omega), g, if_neg (by omega), if_neg (by omega)]
            · rw [if_neg (by omega), if_pos (by omega), g, if_pos (by omega)]
              congr 1; omega
          · rw [if_neg c1]
            by_cases c2 : m - i + j ≤ k ∧ k < m + j
            · rw [if_pos c2, if_neg (by omega), if_neg (by omega), g, if_neg (by omega), if_pos (by omega)]
              congr 1; omega
            · rw [if_neg c2, if_neg (by omega), if_neg (by omega), g, if_neg (by omega), if_neg (by omega)]
theorem upM_get (d : Array α) (k i : Nat) (h1 : k < i) (h2 : i ≤ d.size) : ∀ p, (upM d k i)[p]! = if k ≤ p ∧ p + 1 < i then d[p + 1]! else if p + 1 = i then d[k]! else d[p]! := by
  induction hn : i - k using Nat.strongRecOn generalizing k d with
  | _ n ih =>
    intro p
    rw [upM]
    split
    · rename_i h
      rw [ih _ (by omega) (swp d k (k + 1)) (k + 1) (by omega) (by rw [size_swp]; omega) rfl]
      by_cases c1 : k + 1 ≤ p ∧ p + 1 < i
      · rw [if_pos c1, if_pos (by omega), swp_other _ _ _ _ (by omega) (by omega)]
      · rw [if_neg c1]
        by_cases c2 : p + 1 = i
        · rw [if_pos c2, if_neg (by omega), if_pos c2, swp_right _ _ _ (by omega)]
        · rw [if_neg c2]
          by_cases c3 : p = k
          · subst c3
            rw [swp_left _ _ _ (by omega) (by omega), if_pos (by omega)]
          · rw [swp_other _ _ _ _ c3 (by omega), if_neg (by omega), if_neg c2]
    · rename_i h
      rw [if_neg (by omega)]
      by_cases c2 : p + 1 = i
      · rw [if_pos c2]; congr 1; omega
      · rw [if_neg c2]
theorem downM_get (d : Array α) (k i : Nat) (h1 : i ≤ k) (h2 : k < d.size) : ∀ p, (downM d k i)[p]! = if i < p ∧ p ≤ k then d[p - 1]! else if p = i then d[k]! else d[p]! := by
  induction hn : k - i using Nat.strongRecOn generalizing k d with
  | _ n ih =>
    intro p
    rw [downM]
    split
    · rename_i h
      rw [ih _ (by omega) (swp d k (k - 1)) (k - 1) (by omega) (by rw [size_swp]; omega) rfl]
      by_cases c1 : i < p ∧ p ≤ k - 1
      · rw [if_pos c1, if_pos (by omega), swp_other _ _ _ _ (by omega) (by omega)]
      · rw [if_neg c1]
        by_cases c2 : p = i
        · rw [if_pos c2, if_neg (by omega), if_pos c2, swp_right _ _ _ (by omega)]
        · rw [if_neg c2]
          by_cases c3 : p = k
          · subst c3
            rw [swp_left _ _ _ (by omega) (by omega), if_pos (by omega)]
          · rw [swp_other _ _ _ _ c3 (by omega), if_neg (by omega), if_neg c2]
    · rename_i h
      obtain rfl : i = k := by omega
      rw [if_neg (by omega)]
      by_cases c2 : p = i
      · rw [if_pos c2, c2]
      · rw [if_neg c2]
theorem upM_perm (a b : Nat) (i : Nat) (hb : b ≥ i) : ∀ (d : Array α) (k : Nat), a ≤ k → k < i → b ≤ d.size → PermIn a b d (upM d k i) := by
  intro d k ha h1 h2
  induction hn : i - k using Nat.strongRecOn generalizing k d with
  | _ n ih =>
    rw [upM]
    split
    · rename_i h
      exact permIn_trans _ _ _ _ _ (swp_permIn d a b k (k + 1) ha (by omega) (by omega) (by omega) h2) (ih _ (by omega) (swp d k (k + 1)) (k + 1) (by omega) (by omega) (by rw [size_swp]; exact h2) rfl)
    · exact permIn_refl _ _ _
theorem downM_perm (a b : Nat) (i : Nat) (ha : a ≤ i) : ∀ (d : Array α) (k : Nat), i ≤ k → k < b → b ≤ d.size → PermIn a b d (downM d k i) := by
  intro d k h1 h3 h2
  induction hn : k - i using Nat.strongRecOn generalizing k d with
  | _ n ih =>
    rw [downM]
    split
    · rename_i h
      exact permIn_trans _ _ _ _ _ (swp_permIn d a b k (k - 1) (by omega) h3 (by omega) (by omega) h2) (ih _ (by omega) (swp d k (k - 1)) (k - 1) (by omega) (by omega) (by rw [size_swp]; exact h2) rfl)
    · exact permIn_refl _ _ _
theorem swR_perm (a b : Nat) (d : Array α) (x y : Nat) (n : Nat) (h1 : a ≤ x) (h2 : a ≤ y) (h3 : x + n ≤ b) (h4 : y + n ≤ b) (hb : b ≤ d.size) : PermIn a b d (swR d x y n) := by
  induction n with
  | zero => exact permIn_refl _ _ _
  | succ n ih =>
    rw [swR]
    exact permIn_trans _ _ _ _ _ (ih (by omega) (by omega)) (swp_permIn _ a b (x + n) (y + n) (by omega) (by omega) (by omega) (by omega) (by rw [swR_size]; exact hb))
theorem rotM_perm (a b m i j : Nat) (d : Array α) (h1 : a + i ≤ m) (h2 : m + j ≤ b) (hb : b ≤ d.size) : PermIn a b d (rotM m i j d) := by
  induction hn : i + j using Nat.strongRecOn generalizing i j d with
  | _ n ih =>
    rw [rotM]
    split
    · exact swR_perm a b d _ _ _ (by omega) (by omega) (by omega) (by omega) hb
    · split
      · exact permIn_refl _ _ _
      · split
        · exact permIn_trans _ _ _ _ _ (swR_perm a b d _ _ _ (by omega) (by omega) (by omega) (by omega) hb) (ih _ (by omega) _ _ _ (by omega) (by omega) (by rw [swR_size]; exact hb) rfl)
        · exact permIn_trans _ _ _ _ _ (swR_perm a b d _ _ _ (by omega) (by omega) (by omega) (by omega) hb) (ih _ (by omega) _ _ _ (by omega) (by omega) (by rw [swR_size]; exact hb) rfl)
/-! the law -/
structure StO (R : α → α → Prop) : Prop where
  ir : ∀ x, ¬ R x x
  tr : ∀ x y z, R x y → R y z → R x z
def Srt9 (R : α → α → Prop) (d : Array α) (a b : Nat) : Prop := ∀ i j, a ≤ i → i < j → j < b → R d[i]! d[j]!
/-- the halves are told apart by lt as by R -/
def Cmp9 (lt : α → α → Bool) (R : α → α → Prop) (d : Array α) (a m b : Nat) : Prop := ∀ i j, a ≤ i → i < m → m ≤ j → j < b → (lt d[j]! d[i]! = true → R d[j]! d[i]!) ∧ (lt d[j]! d[i]! = false → R d[i]! d[j]!)
theorem Cmp9.anti {lt : α → α → Bool} {R : α → α → Prop} (hR : StO R) {d : Array α} {a m b : Nat} (h : Cmp9 lt R d a m b) {i j : Nat} (h1 : a ≤ i) (h2 : i < m) (h3 : m ≤ j) (h4 : j < b) (hr : R d[i]! d[j]!) : lt d[j]! d[i]! = false := by
  cases e : lt d[j]! d[i]! with
  | false => rfl
  | true => exact absurd (hR.tr _ _ _ hr ((h i j h1 h2 h3 h4).1 e)) (hR.ir _)
/-- where the halves part -/
theorem stM_ok {lt : α → α → Bool} {R : α → α → Prop} (hR : StO R) {d : Array α} {a m b : Nat} (ham : a < m) (hmb : m < b) (hl : Srt9 R d a m) (hr : Srt9 R d m b) (hc : Cmp9 lt R d a m b) :
    (a ≤ stM lt d a m b ∧ stM lt d a m b ≤ (a + b) / 2 ∧ stM lt d a m b ≤ m ∧ (a + b) / 2 + m - stM lt d a m b ≤ b) ∧
    (stM lt d a m b < m → m < (a + b) / 2 + m - stM lt d a m b → R d[(a + b) / 2 + m - stM lt d a m b - 1]! d[stM lt d a m b]!) ∧
    (a < stM lt d a m b → (a + b) / 2 + m - stM lt d a m b < b → R d[stM lt d a m b - 1]! d[(a + b) / 2 + m - stM lt d a m b]!) := by
  have hmid1 : 2 * ((a + b) / 2) ≤ a + b := by omega
  have hmid2 : a + b ≤ 2 * ((a + b) / 2) + 1 := by omega
  unfold stM
  generalize (a + b) / 2 = mid at *
  have hmono : ∀ lo hi, a ≤ lo → hi ≤ m → hi ≤ mid → mid + m ≤ lo + b → ∀ c c', lo ≤ c' → c' < c → c < hi → (!lt d[mid + m - 1 - c]! d[c]!) = true → (!lt d[mid + m - 1 - c']! d[c']!) = true := by
    intro lo hi k1 k2 k3 k4 c c' g1 g2 g3 g4
    rw [Bool.not_eq_true'] at g4 ⊢
    have q1 := (hc c (mid + m - 1 - c) (by omega) (by omega) (by omega) (by omega)).2 g4
    have q2 := hl c' c (by omega) g2 (by omega)
    have q3 := hr (mid + m - 1 - c) (mid + m - 1 - c') (by omega) (by omega) (by omega)
    exact hc.anti hR (by omega) (by omega) (by omega) (by omega) (hR.tr _ _ _ q2 (hR.tr _ _ _ q1 q3))
  have fin : ∀ lo hi st, a ≤ lo → hi ≤ m → hi ≤ mid → lo ≤ hi → mid + m ≤ lo + b → (hi = m ∨ hi = mid) → (lo = a ∨ mid + m = lo + b) → lo ≤ st → st ≤ hi → (∀ c, lo ≤ c → c < st → (!lt d[mid + m - 1 - c]! d[c]!) = true) → (∀ c, st ≤ c → c < hi → (!lt d[mid + m - 1 - c]! d[c]!) = false) →
      (a ≤ st ∧ st ≤ mid ∧ st ≤ m ∧ mid + m - st ≤ b) ∧ (st < m → m < mid + m - st → R d[mid + m - st - 1]! d[st]!) ∧ (a < st → mid + m - st < b → R d[st - 1]! d[mid + m - st]!) := by
    intro lo hi st k1 k2 k3 k4 k5 k6 k7 k8 k9 k10 k11
    refine ⟨by omega, fun g1 g2 => ?_, fun g1 g2 => ?_⟩
    · have := k11 st (Nat.le_refl _) (by omega)
      rw [Bool.not_eq_false', show mid + m - 1 - st = mid + m - st - 1 by omega] at this
      exact (hc st (mid + m - st - 1) (by omega) g1 (by omega) (by omega)).1 this
    · have := k10 (st - 1) (by omega) (by omega)
      rw [Bool.not_eq_true', show mid + m - 1 - (st - 1) = mid + m - st by omega] at this
      exact (hc (st - 1) (mid + m - st) (by omega) (by omega) (by omega) (by omega)).2 this
  by_cases c : mid < m
  · simp only [if_pos c]
    have hb := bsM_bd (fun c => !lt d[mid + m - 1 - c]! d[c]!) (mid + m - b) mid (by omega)
    have hp := bsM_part (fun c => !lt d[mid + m - 1 - c]! d[c]!) (mid + m - b) mid (by omega) (hmono _ _ (by omega) (by omega) (by omega) (by omega))
    exact fin _ _ _ (by omega) (by omega) (by omega) (by omega) (by omega) (.inr rfl) (.inr (by omega)) hb.1 hb.2 hp.1 hp.2
  · simp only [if_neg c]
    have hb := bsM_bd (fun c => !lt d[mid + m - 1 - c]! d[c]!) a m (by omega)
    have hp := bsM_part (fun c => !lt d[mid + m - 1 - c]! d[c]!) a m (by omega) (hmono _ _ (by omega) (by omega) (by omega) (by omega))
    exact fin _ _ _ (by omega) (by omega) (by omega) (by omega) (by omega) (.inl rfl) (.inl rfl) hb.1 hb.2 hp.1 hp.2
/-- the first step: the inner blocks change places -/
theorem d1_get (d : Array α) (m st en mid : Nat) (h1 : st ≤ m) (h2 : m ≤ en) (h3 : mid + m = st + en) (hen : en ≤ d.size) : ∀ p, (if st < m ∧ m < en then rotM m (m - st) (en - m) d else d)[p]! = if st ≤ p ∧ p < mid then d[p + (m - st)]! else if mid ≤ p ∧ p < en then d[p - (en - m)]! else d[p]! := by
  intro p
  by_cases c : st < m ∧ m < en
  · rw [if_pos c, rotM_get _ _ _ _ (by omega) (by omega)]
    by_cases c1 : st ≤ p ∧ p < mid
    · rw [if_pos c1, if_pos (by omega)]
    · by_cases c2 : mid ≤ p ∧ p < en
      · rw [if_neg c1, if_pos c2, if_neg (by omega), if_pos (by omega)]
      · rw [if_neg c1, if_neg c2, if_neg (by omega), if_neg (by omega)]
  · rw [if_neg c]
    by_cases c1 : st ≤ p ∧ p < mid
    · rw [if_pos c1]; congr 1; omega
    · by_cases c2 : mid ≤ p ∧ p < en
      · rw [if_neg c1, if_pos c2]; congr 1; omega
      · rw [if_neg c1, if_neg c2]
theorem symM_ok {lt : α → α → Bool} {R : α → α → Prop} (hR : StO R) : ∀ (f a m b : Nat) (d : Array α), b - a ≤ f → a < m → m < b → b ≤ d.size → Srt9 R d a m → Srt9 R d m b → Cmp9 lt R d a m b → PermIn a b d (symM lt f a m b d) ∧ Srt9 R (symM lt f a m b d) a b
  | 0, a, m, b, d, hf, h1, h2, _, _, _, _ => by omega
  | f + 1, a, m, b, d, hf, ham, hmb, hb, hl, hr, hc => by
    rw [symM]
    by_cases c1 : m - a = 1
    · rw [if_pos c1]
      obtain rfl : m = a + 1 := by omega
      have hbd := bsM_bd (fun h => lt d[h]! d[a]!) (a + 1) b (by omega)
      have hpt := bsM_part (fun h => lt d[h]! d[a]!) (a + 1) b (by omega) (fun c c' g1 g2 g3 g4 => by
        have q1 := (hc a c (Nat.le_refl _) (by omega) (by omega) g3).1 g4
        have q2 := hr c' c g1 g2 g3
        cases e : lt d[c']! d[a]! with
        | true => rfl
        | false => exact absurd (hR.tr _ _ _ ((hc a c' (Nat.le_refl _) (by omega) g1 (by omega)).2 e) (hR.tr _ _ _ q2 q1)) (hR.ir _))
      generalize bsM (fun h => lt d[h]! d[a]!) (a + 1) b = i at *
      have g := upM_get d a i (by omega) (by omega)
      refine ⟨upM_perm a b i hbd.2 d a (Nat.le_refl _) (by omega) hb, fun p q hp hpq hq => ?_⟩
      have low : ∀ j, a + 1 ≤ j → j < i → R d[j]! d[a]! := fun j j1 j2 => (hc a j (Nat.le_refl _) (by omega) j1 (by omega)).1 (hpt.1 j j1 j2)
      have high : ∀ j, i ≤ j → j < b → R d[a]! d[j]! := fun j j1 j2 => (hc a j (Nat.le_refl _) (by omega) (by omega) j2).2 (hpt.2 j j1 j2)
      rw [g, g]
      by_cases a1 : p + 1 < i
      · rw [if_pos (by omega)]
        by_cases a2 : q + 1 < i
        · rw [if_pos (by omega)]; exact hr _ _ (by omega) (by omega) (by omega)
        · rw [if_neg (by omega)]
          by_cases a3 : q + 1 = i
          · rw [if_pos a3]; exact low _ (by omega) (by omega)
          · rw [if_neg a3]; exact hr _ _ (by omega) (by omega) (by omega)
      · rw [if_neg (by omega)]
        by_cases a4 : p + 1 = i
        · rw [if_pos a4, if_neg (by omega), if_neg (by omega)]; exact high _ (by omega) (by omega)
        · rw [if_neg a4, if_neg (by omega), if_neg (by omega)]; exact hr _ _ (by omega) (by omega) (by omega)
    · rw [if_neg c1]
      by_cases c2 : b - m = 1
      · rw [if_pos c2]
        obtain rfl : b = m + 1 := by omega
        have hbd := bsM_bd (fun h => !lt d[m]! d[h]!) a m (by omega)
        have hpt := bsM_part (fun h => !lt d[m]! d[h]!) a m (by omega) (fun c c' g1 g2 g3 g4 => by
          rw [Bool.not_eq_true'] at g4 ⊢
          have q1 := (hc c m (by omega) g3 (Nat.le_refl _) (by omega)).2 g4
          have q2 := hl c' c g1 g2 g3
          exact hc.anti hR g1 (by omega) (Nat.le_refl _) (by omega) (hR.tr _ _ _ q2 q1))
        generalize bsM (fun h => !lt d[m]! d[h]!) a m = i at *
        have g := downM_get d m i (by omega) (by omega)
        refine ⟨downM_perm a (m + 1) i hbd.1 d m (by omega) (by omega) hb, fun p q hp hpq hq => ?_⟩
        have low : ∀ j, a ≤ j → j < i → R d[j]! d[m]! := fun j j1 j2 => by
          have := hpt.1 j j1 j2
          rw [Bool.not_eq_true'] at this
          exact (hc j m j1 (by omega) (Nat.le_refl _) (by omega)).2 this
        have high : ∀ j, i ≤ j → j < m → R d[m]! d[j]! := fun j j1 j2 => by
          have := hpt.2 j j1 j2
          rw [Bool.not_eq_false'] at this
          exact (hc j m (by omega) j2 (Nat.le_refl _) (by omega)).1 this
        rw [g, g]
        by_cases a1 : q ≤ i
        · by_cases a2 : q = i
          · rw [if_neg (by omega), if_neg (by omega), if_neg (by omega), if_pos a2]; exact low _ hp (by omega)
          · rw [if_neg (by omega), if_neg (by omega), if_neg (by omega), if_neg a2]; exact hl _ _ hp hpq (by omega)
        · rw [if_pos (show i < q ∧ q ≤ m by omega)]
          by_cases a3 : p < i
          · rw [if_neg (by omega), if_neg (by omega)]; exact hl _ _ hp (by omega) (by omega)
          · by_cases a4 : p = i
            · rw [if_neg (by omega), if_pos a4]; exact high _ (by omega) (by omega)
            · rw [if_pos (by omega)]; exact hl _ _ (by omega) (by omega) (by omega)
      · rw [if_neg c2]
        obtain ⟨⟨s1, s2, s3, s4⟩, F1, F2⟩ := stM_ok hR ham hmb hl hr hc
        simp only
        generalize stM lt d a m b = st at *
        have hmid1 : 2 * ((a + b) / 2) ≤ a + b := by omega
        have hmid2 : a + b ≤ 2 * ((a + b) / 2) + 1 := by omega
        generalize (a + b) / 2 = mid at *
        generalize hen : mid + m - st = en at s4 F1 F2 ⊢
        have g := d1_get d m st en mid s3 (by omega) (by omega) (by omega)
        have P1 : PermIn a b d (if st < m ∧ m < en then rotM m (m - st) (en - m) d else d) := by
          split
          · exact rotM_perm a b m _ _ d (by omega) (by omega) hb
          · exact permIn_refl _ _ _
        generalize (if st < m ∧ m < en then rotM m (m - st) (en - m) d else d) = d1 at *
        have z1 : d1.size = d.size := P1.1
        have gA : ∀ p, p < st → d1[p]! = d[p]! := fun p h => by rw [g, if_neg (by omega), if_neg (by omega)]
        have gB : ∀ p, st ≤ p → p < mid → d1[p]! = d[p + (m - st)]! := fun p h h' => by rw [g, if_pos ⟨h, h'⟩]
        have gC : ∀ p, mid ≤ p → p < en → d1[p]! = d[p - (en - m)]! := fun p h h' => by rw [g, if_neg (by omega), if_pos ⟨h, h'⟩]
        have gD : ∀ p, en ≤ p → d1[p]! = d[p]! := fun p h => by rw [g, if_neg (by omega), if_neg (by omega)]
        have S1 : Srt9 R d1 a st := fun i j h1 h2 h3 => by rw [gA i (by omega), gA j h3]; exact hl _ _ h1 h2 (by omega)
        have S2 : Srt9 R d1 st mid := fun i j h1 h2 h3 => by rw [gB i h1 (by omega), gB j (by omega) h3]; exact hr _ _ (by omega) (by omega) (by omega)
        have S3 : Srt9 R d1 mid en := fun i j h1 h2 h3 => by rw [gC i h1 (by omega), gC j (by omega) h3]; exact hl _ _ (by omega) (by omega) (by omega)
        have S4 : Srt9 R d1 en b := fun i j h1 h2 h3 => by rw [gD i h1, gD j (by omega)]; exact hr _ _ (by omega) (by omega) h3
        have X : ∀ p q, a ≤ p → p < mid → mid ≤ q → q < b → R d1[p]! d1[q]! := fun p q h1 h2 h3 h4 => by
          by_cases e1 : p < st <;> by_cases e2 : q < en
          · rw [gA p e1, gC q h3 e2]; exact hl _ _ h1 (by omega) (by omega)
          · rw [gA p e1, gD q (by omega)]
            have k := F2 (by omega) (by omega)
            have k1 : p = st - 1 ∨ R d[p]! d[st - 1]! := by
              by_cases e : p = st - 1
              · exact .inl e
              · exact .inr (hl _ _ h1 (by omega) (by omega))
            have k2 : q = en ∨ R d[en]! d[q]! := by
              by_cases e : q = en
              · exact .inl e
              · exact .inr (hr _ _ (by omega) (by omega) h4)
            rcases k1 with rfl | k1 <;> rcases k2 with rfl | k2
            · exact k
            · exact hR.tr _ _ _ k k2
            · exact hR.tr _ _ _ k1 k
            · exact hR.tr _ _ _ k1 (hR.tr _ _ _ k k2)
          · rw [gB p (by omega) h2, gC q h3 e2]
            have k := F1 (by omega) (by omega)
            have k1 : p + (m - st) = en - 1 ∨ R d[p + (m - st)]! d[en - 1]! := by
              by_cases e : p + (m - st) = en - 1
              · exact .inl e
              · exact .inr (hr _ _ (by omega) (by omega) (by omega))
            have k2 : q - (en - m) = st ∨ R d[st]! d[q - (en - m)]! := by
              by_cases e : q - (en - m) = st
              · exact .inl e
              · exact .inr (hl _ _ (by omega) (by omega) (by omega))
            rcases k1 with k1 | k1 <;> rcases k2 with k2 | k2
            · rw [k1, k2]; exact k
            · rw [k1]; exact hR.tr _ _ _ k k2
            · rw [k2]; exact hR.tr _ _ _ k1 k
            · exact hR.tr _ _ _ k1 (hR.tr _ _ _ k k2)
          · rw [gB p (by omega) h2, gD q (by omega)]; exact hr _ _ (by omega) (by omega) h4
        have H2 : PermIn a mid d1 (if a < st ∧ st < mid then symM lt f a st mid d1 else d1) ∧ Srt9 R (if a < st ∧ st < mid then symM lt f a st mid d1 else d1) a mid := by
          by_cases e : a < st ∧ st < mid
          · rw [if_pos e]
            exact symM_ok hR f a st mid d1 (by omega) e.1 e.2 (by omega) S1 S2 (fun i j h1 h2 h3 h4 => by
              rw [gA i h2, gB j h3 h4]; exact hc _ _ h1 (by omega) (by omega) (by omega))
          · rw [if_neg e]
            refine ⟨permIn_refl _ _ _, ?_⟩
            by_cases e2 : a < st
            · exact fun i j h1 h2 h3 => S1 i j h1 h2 (by omega)
            · exact fun i j h1 h2 h3 => S2 i j (by omega) h2 h3
        generalize (if a < st ∧ st < mid then symM lt f a st mid d1 else d1) = d2 at *
        obtain ⟨P2, T2⟩ := H2
        have z2 : d2.size = d1.size := P2.1
        have o2 : ∀ p, mid ≤ p → d2[p]! = d1[p]! := fun p h => P2.2.1 p (.inr h)
        have S3' : Srt9 R d2 mid en := fun i j h1 h2 h3 => by rw [o2 i h1, o2 j (by omega)]; exact S3 i j h1 h2 h3
        have S4' : Srt9 R d2 en b := fun i j h1 h2 h3 => by rw [o2 i (by omega), o2 j (by omega)]; exact S4 i j h1 h2 h3
        have H3 : PermIn mid b d2 (if mid < en ∧ en < b then symM lt f mid en b d2 else d2) ∧ Srt9 R (if mid < en ∧ en < b then symM lt f mid en b d2 else d2) mid b := by
          by_cases e : mid < en ∧ en < b
          · rw [if_pos e]
            exact symM_ok hR f mid en b d2 (by omega) e.1 e.2 (by omega) S3' S4' (fun i j h1 h2 h3 h4 => by
              rw [o2 i h1, o2 j (by omega), gC i h1 h2, gD j h3]; exact hc _ _ (by omega) (by omega) (by omega) h4)
          · rw [if_neg e]
            refine ⟨permIn_refl _ _ _, ?_⟩
            by_cases e2 : mid < en
            · exact fun i j h1 h2 h3 => S3' i j h1 h2 (by omega)
            · exact fun i j h1 h2 h3 => S4' i j (by omega) h2 h3
        generalize (if mid < en ∧ en < b then symM lt f mid en b d2 else d2) = d3 at *
        obtain ⟨P3, T3⟩ := H3
        have o3 : ∀ p, p < mid → d3[p]! = d2[p]! := fun p h => P3.2.1 p (.inl h)
        refine ⟨permIn_trans _ _ _ _ _ P1 (permIn_trans _ _ _ _ _ (permIn_mono _ _ a mid a b (Nat.le_refl _) (by omega) (by omega) P2) (permIn_mono _ _ mid b a b (by omega) (Nat.le_refl _) (by omega) P3)), fun p q h1 h2 h3 => ?_⟩
        by_cases e1 : q < mid
        · rw [o3 p (by omega), o3 q e1]; exact T2 p q h1 h2 e1
        · by_cases e2 : mid ≤ p
          · exact T3 p q e2 h2 h3
          · rw [o3 p (by omega)]
            refine permIn_all d2 d3 mid b (fun y => R d2[p]! y) (by omega) P3 (fun q' q1 q2 => ?_) q (by omega) h3
            rw [o2 q' q1]
            exact permIn_all d1 d2 a mid (fun x => R x d1[q']!) (by omega) P2 (fun p' p1 p2 => X p' q' p1 p2 q1 q2) p h1 (by omega)
end Go.Proofs.Ythnphcinjchloaa
namespace Go.Proofs.Ythnphcinjchloaa
open Go.Lib Go.Sort
variable {α : Type} [Inhabited α]

theorem insInner_eq (lt l2 : α → α → Bool) (a : Nat) : ∀ (j : Nat) (d : Array α), j < d.size → (∀ p, a ≤ p → p < j → lt d[j]! d[p]! = l2 d[j]! d[p]!) → insInner lt a j d = insInner l2 a j d
  | 0, d, _, _ => rfl
  | j + 1, d, hj, h => by
    unfold insInner
    by_cases c : j + 1 > a
    · rw [h j (by omega) (by omega)]
      split
      · refine insInner_eq lt l2 a j _ (by rw [size_swp]; omega) fun p h1 h2 => ?_
        rw [swp_right _ _ _ (by omega), swp_other _ _ _ _ (by omega) (by omega)]
        exact h p h1 (by omega)
      · rfl
    · have : decide (j + 1 > a) = false := decide_eq_false c
      simp only [this, Bool.false_and]
      rfl
theorem insInner_perm (lt : α → α → Bool) (a b : Nat) : ∀ (j : Nat) (d : Array α), a ≤ j → j < b → b ≤ d.size → PermIn a b d (insInner lt a j d)
  | 0, d, _, _, _ => permIn_refl _ _ _
  | j + 1, d, h1, h2, h3 => by
    unfold insInner
    split
    · rename_i hc
      simp only [Bool.and_eq_true, decide_eq_true_eq] at hc
      exact permIn_trans _ _ _ _ _ (swp_permIn d a b (j + 1) j h1 (by omega) (by omega) (by omega) h3) (insInner_perm lt a b j _ (by omega) (by omega) (by rw [size_swp]; exact h3))
    · exact permIn_refl _ _ _
/-- where lt tells a later element from an earlier one as l2 does, the insertion sorts are one -/
theorem insOuter_eq (lt l2 : α → α → Bool) (a b : Nat) (d0 : Array α) (h0 : ∀ i j, a ≤ i → i < j → j < b → lt d0[j]! d0[i]! = l2 d0[j]! d0[i]!) (hb : b ≤ d0.size) : ∀ (n i : Nat) (d : Array α), b - i = n → a < i → PermIn a i d0 d → insOuter lt a b i d = insOuter l2 a b i d
  | 0, i, d, hn, _, _ => by
    rw [insOuter.eq_def lt, insOuter.eq_def l2, if_neg (by omega), if_neg (by omega)]
  | n + 1, i, d, hn, ha, hp => by
    have hlt : i < b := by omega
    rw [insOuter.eq_def lt, insOuter.eq_def l2, if_pos hlt, if_pos hlt]
    have hsz := hp.1
    have e : insInner lt a i d = insInner l2 a i d := insInner_eq lt l2 a i d (by omega) fun p h1 h2 => by
      have ei : d[i]! = d0[i]! := hp.2.1 i (.inr (Nat.le_refl _))
      rw [ei]
      exact permIn_all d0 d a i (fun x => lt d0[i]! x = l2 d0[i]! x) (by omega) hp (fun q q1 q2 => h0 q i q1 q2 hlt) p h1 h2
    rw [e]
    refine insOuter_eq lt l2 a b d0 h0 hb n (i + 1) _ (by omega) (by omega) ?_
    exact permIn_trans _ _ _ _ _ (permIn_mono _ _ a i a (i + 1) (Nat.le_refl _) (by omega) (by omega) hp) (insInner_perm l2 a (i + 1) i d (by omega) (by omega) (by omega))
theorem insSort_eq (lt l2 : α → α → Bool) (a b : Nat) (d0 : Array α) (hab : a < b) (hb : b ≤ d0.size) (h0 : ∀ i j, a ≤ i → i < j → j < b → lt d0[j]! d0[i]! = l2 d0[j]! d0[i]!) : insertionSort lt d0 a b = insertionSort l2 d0 a b :=
  insOuter_eq lt l2 a b d0 h0 hb _ _ _ rfl (by omega) (permIn_refl _ _ _)
end Go.Proofs.Ythnphcinjchloaa
namespace Go.Proofs.Ythnphcinjchloaa
open Go.Lib Go.Sort
variable {α : Type} [Inhabited α]

/-- what holds of every two elements, in any order, holds behind a permutation -/
theorem tot_perm {T : α → α → Prop} (hT : ∀ x y, T x y → T y x) {d0 d : Array α} {a b : Nat} (hp : PermIn a b d0 d) (hb : b ≤ d0.size) (h : ∀ i j, a ≤ i → i < j → j < b → T d0[i]! d0[j]!) : ∀ i j, a ≤ i → i < j → j < b → T d[i]! d[j]! := by
  have e0 := extract_toList d0 a b hb
  have e1 := extract_toList d a b (by rw [hp.1]; exact hb)
  have hpm := hp.2.2
  rw [e0, e1] at hpm
  have h1 : ((List.range' a (b - a)).map fun i => d0[i]!).Pairwise T := by
    rw [List.pairwise_iff_getElem]
    intro i j hi hj hij
    simp only [List.length_map, List.length_range'] at hi hj
    simp only [List.getElem_map, List.getElem_range', Nat.one_mul]
    exact h _ _ (by omega) (by omega) (by omega)
  have h2 := (hpm.pairwise_iff (fun {x y} h => hT x y h)).2 h1
  rw [List.pairwise_iff_getElem] at h2
  intro i j hi hij hj
  have := h2 (i - a) (j - a) (by simp; omega) (by simp; omega) (by omega)
  simp only [List.getElem_map, List.getElem_range', Nat.one_mul] at this
  rw [show a + (i - a) = i by omega, show a + (j - a) = j by omega] at this
  exact this
/-- lt tells what stands later in the beginning from what stands earlier as Rb does -/
def Org (lt Rb : α → α → Bool) (d0 : Array α) (n : Nat) : Prop := ∀ i j, i < j → j < n → lt d0[j]! d0[i]! = Rb d0[j]! d0[i]! ∧ (Rb d0[j]! d0[i]! = false → Rb d0[i]! d0[j]! = true)
theorem ins_srt {lt Rb : α → α → Bool} (hS : SWO Rb) {d0 : Array α} {n : Nat} (hO : Org lt Rb d0 n) (hn : n ≤ d0.size) (a b : Nat) (hab : a < b) (hb : b ≤ n) (d : Array α) (hsz : d.size = d0.size) (hd : ∀ i, a ≤ i → i < b → d[i]! = d0[i]!) : PermIn a b d (insertionSort lt d a b) ∧ Srt9 (fun x y => Rb x y = true) (insertionSort lt d a b) a b := by
  rw [insSort_eq lt Rb a b d hab (by omega) (fun i j h1 h2 h3 => by rw [hd j (by omega) h3, hd i h1 (by omega)]; exact (hO i j h2 (by omega)).1)]
  have h := insertionSort_of (lt := Rb) swp_permIn permIn_refl permIn_trans hS d a b (by omega) (by omega)
  refine ⟨h.1, fun i j h1 h2 h3 => ?_⟩
  have ht := tot_perm (T := fun x y => Rb x y = true ∨ Rb y x = true) (fun x y h => h.symm) h.1 (by omega) (fun i j h1 h2 h3 => by
    rw [hd j (by omega) h3, hd i h1 (by omega)]
    cases e : Rb d0[j]! d0[i]! with
    | true => exact .inr rfl
    | false => exact .inl ((hO i j h2 (by omega)).2 e)) i j h1 h2 h3
  rcases ht with ht | ht
  · exact ht
  · have := h.2 i j h1 h2 h3
    rw [ht] at this
    cases this
/-! blocks -/
def In9 (d0 d : Array α) (a b : Nat) : Prop := ∀ P : α → Prop, (∀ i, a ≤ i → i < b → P d0[i]!) → ∀ i, a ≤ i → i < b → P d[i]!
def Ml (c x : Nat) : Prop := ∃ k, x = k * c
theorem Ml.add {c x : Nat} (h : Ml c x) : Ml c (x + c) := by
  obtain ⟨k, rfl⟩ := h
  exact ⟨k + 1, by rw [Nat.succ_mul]⟩
theorem Ml.half {c x : Nat} (h : Ml (2 * c) x) : Ml c x := by
  obtain ⟨k, rfl⟩ := h
  exact ⟨k * 2, by rw [Nat.mul_assoc]⟩
theorem Ml.gap {c x y : Nat} (h : Ml c x) (h' : Ml c y) (hl : x < y) : x + c ≤ y := by
  obtain ⟨k, rfl⟩ := h
  obtain ⟨k', rfl⟩ := h'
  have : k < k' := Nat.lt_of_mul_lt_mul_right hl
  rw [← Nat.succ_mul]
  exact Nat.mul_le_mul_right _ this
abbrev RB (Rb : α → α → Bool) : α → α → Prop := fun x y => Rb x y = true
/-- a block: its elements are those of the beginning, in order -/
def Blk9 (Rb : α → α → Bool) (d0 d : Array α) (n c x : Nat) : Prop := In9 d0 d x (min (x + c) n) ∧ Srt9 (RB Rb) d x (min (x + c) n)
theorem Blk9.keep {Rb : α → α → Bool} {d0 d d' : Array α} {n c x : Nat} (h : Blk9 Rb d0 d n c x) (he : ∀ i, x ≤ i → i < min (x + c) n → d'[i]! = d[i]!) : Blk9 Rb d0 d' n c x :=
  ⟨fun P hP i h1 h2 => by rw [he i h1 h2]; exact h.1 P hP i h1 h2, fun i j h1 h2 h3 => by rw [he i h1 (by omega), he j (by omega) h3]; exact h.2 i j h1 h2 h3⟩
omit [Inhabited α] in
theorem swo_sto {Rb : α → α → Bool} (hS : SWO Rb) : StO (RB Rb) where
  ir := fun x h => by
    have := hS.irrefl x
    rw [h] at this
    cases this
  tr := hS.trans
/-- two neighbours merged -/
theorem merge_blk {lt Rb : α → α → Bool} (hS : SWO Rb) {d0 : Array α} {n : Nat} (hO : Org lt Rb d0 n) {d : Array α} (hsz : d.size = d0.size) (hn : n ≤ d0.size) {c x hi : Nat} (hc : 0 < c) (hx : x + c < n) (hhi : hi = min (x + 2 * c) n) (h1 : Blk9 Rb d0 d n c x) (h2 : Blk9 Rb d0 d n c (x + c)) (f : Nat) (hf : hi - x ≤ f) :
    PermIn x hi d (symM lt f x (x + c) hi d) ∧ Blk9 Rb d0 (symM lt f x (x + c) hi d) n (2 * c) x := by
  have e1 : min (x + c) n = x + c := by omega
  have e2 : min (x + c + c) n = hi := by omega
  unfold Blk9 at h1 h2 ⊢
  rw [e1] at h1
  rw [e2] at h2
  rw [← hhi]
  have hm := symM_ok (swo_sto hS) f x (x + c) hi d hf (by omega) (by omega) (by omega) h1.2 h2.2 (fun i j i1 i2 j1 j2 => by
    refine h1.1 (fun y => (lt d[j]! y = true → RB Rb d[j]! y) ∧ (lt d[j]! y = false → RB Rb y d[j]!)) (fun i' a1 a2 => ?_) i i1 i2
    refine h2.1 (fun z => (lt z d0[i']! = true → RB Rb z d0[i']!) ∧ (lt z d0[i']! = false → RB Rb d0[i']! z)) (fun j' b1 b2 => ?_) j j1 j2
    have o := hO i' j' (by omega) (by omega)
    exact ⟨fun g => by rw [o.1] at g; exact g, fun g => by rw [o.1] at g; exact o.2 g⟩)
  refine ⟨hm.1, fun P hP => ?_, hm.2⟩
  refine permIn_all d _ x hi P (by omega) hm.1 (fun i i1 i2 => ?_)
  by_cases e : i < x + c
  · exact h1.1 P (fun i' a1 a2 => hP i' a1 (by omega)) i i1 e
  · exact h2.1 P (fun i' a1 a2 => hP i' (by omega) a2) i (by omega) i2
/-- the model of a pass of merges, and of stable -/
def stP (lt : α → α → Bool) (n c : Nat) : Nat → Nat → Array α → Array α
  | 0, _, d => d
  | f + 1, a, d => if a + 2 * c ≤ n then stP lt n c f (a + 2 * c) (symM lt (2 * c) a (a + c) (a + 2 * c) d) else if a + c < n then symM lt (n - a) a (a + c) n d else d
theorem stP_ok {lt Rb : α → α → Bool} (hS : SWO Rb) {d0 : Array α} {n : Nat} (hO : Org lt Rb d0 n) (hn : n ≤ d0.size) {c : Nat} (hc : 0 < c) : ∀ (f a : Nat) (d : Array α), n < a + f → Ml (2 * c) a → PermIn 0 n d0 d → (∀ x, Ml (2 * c) x → x < a → x < n → Blk9 Rb d0 d n (2 * c) x) → (∀ x, Ml c x → a ≤ x → x < n → Blk9 Rb d0 d n c x) →
    PermIn 0 n d0 (stP lt n c f a d) ∧ ∀ x, Ml (2 * c) x → x < n → Blk9 Rb d0 (stP lt n c f a d) n (2 * c) x
  | 0, a, d, hf, hm, hp, h1, h2 => by
    rw [stP]
    exact ⟨hp, fun x hx hxn => h1 x hx (by omega) hxn⟩
  | f + 1, a, d, hf, hm, hp, h1, h2 => by
    have hsz := hp.1
    rw [stP]
    by_cases c1 : a + 2 * c ≤ n
    · rw [if_pos c1]
      have hb := merge_blk hS hO hsz hn hc (x := a) (hi := a + 2 * c) (by omega) (by omega) (h2 a hm.half (Nat.le_refl _) (by omega)) (h2 (a + c) hm.half.add (by omega) (by omega)) (2 * c) (by omega)
      generalize symM lt (2 * c) a (a + c) (a + 2 * c) d = d' at *
      refine stP_ok hS hO hn hc f (a + 2 * c) d' (by omega) hm.add (permIn_trans _ _ _ _ _ hp (permIn_mono _ _ a (a + 2 * c) 0 n (by omega) c1 (by omega) hb.1)) (fun x hx hxa hxn => ?_) (fun x hx hxa hxn => ?_)
      · by_cases e : x = a
        · subst e; exact hb.2
        · have hlt : x < a := by
            apply Nat.lt_of_le_of_ne _ e
            apply Nat.le_of_not_lt; intro g
            have := hm.gap hx g
            omega
          have := hx.gap hm hlt
          exact (h1 x hx hlt hxn).keep fun i i1 i2 => hb.1.2.1 i (.inl (by omega))
      · exact (h2 x hx (by omega) hxn).keep fun i i1 i2 => hb.1.2.1 i (.inr (by omega))
    · rw [if_neg c1]
      have last : ∀ x, Ml (2 * c) x → x < n → x < a ∨ x = a := fun x hx hxn => by
        by_cases e : x = a
        · exact .inr e
        · left
          apply Nat.lt_of_le_of_ne _ e
          apply Nat.le_of_not_lt; intro g
          have := hm.gap hx g
          omega
      by_cases c2 : a + c < n
      · rw [if_pos c2]
        have hb := merge_blk hS hO hsz hn hc (x := a) (hi := n) (by omega) (by omega) (h2 a hm.half (Nat.le_refl _) (by omega)) (h2 (a + c) hm.half.add (by omega) (by omega)) (n - a) (by omega)
        generalize symM lt (n - a) a (a + c) n d = d' at *
        refine ⟨permIn_trans _ _ _ _ _ hp (permIn_mono _ _ a n 0 n (by omega) (Nat.le_refl _) (by omega) hb.1), fun x hx hxn => ?_⟩
        rcases last x hx hxn with hlt | rfl
        · have := hx.gap hm hlt
          exact (h1 x hx hlt hxn).keep fun i i1 i2 => hb.1.2.1 i (.inl (by omega))
        · exact hb.2
      · rw [if_neg c2]
        refine ⟨hp, fun x hx hxn => ?_⟩
        rcases last x hx hxn with hlt | rfl
        · exact h1 x hx hlt hxn
        · have := h2 x hm.half (Nat.le_refl _) hxn
          unfold Blk9 at this ⊢
          rw [show min (x + c) n = n by omega] at this
          rw [show min (x + 2 * c) n = n by omega]
          exact this
/-- blocks of 20, each by insertion -/
def stI (lt : α → α → Bool) (n : Nat) : Nat → Nat → Array α → Array α
  | 0, _, d => d
  | f + 1, a, d => if a + 20 ≤ n then stI lt n f (a + 20) (insertionSort lt d a (a + 20)) else insertionSort lt d a n
theorem insSort_nil (lt : α → α → Bool) (d : Array α) (n : Nat) : insertionSort lt d n n = d := by
  unfold insertionSort
  rw [insOuter, if_neg (by omega)]
theorem stI_ok {lt Rb : α → α → Bool} (hS : SWO Rb) {d0 : Array α} {n : Nat} (hO : Org lt Rb d0 n) (hn : n ≤ d0.size) : ∀ (f a : Nat) (d : Array α), n < a + f → a ≤ n → Ml 20 a → PermIn 0 n d0 d → (∀ i, a ≤ i → d[i]! = d0[i]!) → (∀ x, Ml 20 x → x < a → x < n → Blk9 Rb d0 d n 20 x) →
    PermIn 0 n d0 (stI lt n f a d) ∧ ∀ x, Ml 20 x → x < n → Blk9 Rb d0 (stI lt n f a d) n 20 x
  | 0, a, d, hf, hn', hm, hp, hd, h1 => by omega
  | f + 1, a, d, hf, hn', hm, hp, hd, h1 => by
    have hsz := hp.1
    rw [stI]
    have blk : ∀ b, a < b → b ≤ n → b = min (a + 20) n → PermIn a b d (insertionSort lt d a b) ∧ Blk9 Rb d0 (insertionSort lt d a b) n 20 a := fun b b1 b2 b3 => by
      have h := ins_srt hS hO hn a b b1 b2 d hsz (fun i i1 i2 => hd i i1)
      unfold Blk9
      rw [← b3]
      refine ⟨h.1, fun P hP => ?_, h.2⟩
      exact permIn_all d _ a b P (by omega) h.1 (fun i i1 i2 => by rw [hd i i1]; exact hP i i1 i2)
    by_cases c1 : a + 20 ≤ n
    · rw [if_pos c1]
      have hb := blk (a + 20) (by omega) c1 (by omega)
      generalize insertionSort lt d a (a + 20) = d' at *
      refine stI_ok hS hO hn f (a + 20) d' (by omega) c1 hm.add (permIn_trans _ _ _ _ _ hp (permIn_mono _ _ a (a + 20) 0 n (by omega) c1 (by omega) hb.1)) (fun i hi => by rw [hb.1.2.1 i (.inr hi)]; exact hd i (by omega)) (fun x hx hxa hxn => ?_)
      by_cases e : x = a
      · subst e; exact hb.2
      · have hlt : x < a := by
          apply Nat.lt_of_le_of_ne _ e
          apply Nat.le_of_not_lt; intro g
          have := hm.gap hx g
          omega
        have := hx.gap hm hlt
        exact (h1 x hx hlt hxn).keep fun i i1 i2 => hb.1.2.1 i (.inl (by omega))
    · rw [if_neg c1]
      by_cases c2 : a < n
      · have hb := blk n c2 (Nat.le_refl _) (by omega)
        generalize insertionSort lt d a n = d' at *
        refine ⟨permIn_trans _ _ _ _ _ hp (permIn_mono _ _ a n 0 n (by omega) (Nat.le_refl _) (by omega) hb.1), fun x hx hxn => ?_⟩
        by_cases e : x = a
        · subst e; exact hb.2
        · have hlt : x < a := by
            apply Nat.lt_of_le_of_ne _ e
            apply Nat.le_of_not_lt; intro g
            have := hm.gap hx g
            omega
          have := hx.gap hm hlt
          exact (h1 x hx hlt hxn).keep fun i i1 i2 => hb.1.2.1 i (.inl (by omega))
      · obtain rfl : a = n := by omega
        rw [insSort_nil]
        exact ⟨hp, fun x hx hxn => h1 x hx hxn hxn⟩
/-- passes of merges, the blocks twice as long each time -/
def stB (lt : α → α → Bool) (n : Nat) : Nat → Nat → Array α → Array α
  | 0, _, d => d
  | f + 1, c, d => if c < n then stB lt n f (2 * c) (stP lt n c (n + 1) 0 d) else d
theorem stB_ok {lt Rb : α → α → Bool} (hS : SWO Rb) {d0 : Array α} {n : Nat} (hO : Org lt Rb d0 n) (hn : n ≤ d0.size) : ∀ (f c : Nat) (d : Array α), 0 < c → n < c + f → PermIn 0 n d0 d → (∀ x, Ml c x → x < n → Blk9 Rb d0 d n c x) →
    PermIn 0 n d0 (stB lt n f c d) ∧ Srt9 (RB Rb) (stB lt n f c d) 0 n
  | 0, c, d, hc, hf, hp, h => by
    rw [stB]
    refine ⟨hp, fun i j i1 i2 i3 => ?_⟩
    have := (h 0 ⟨0, by simp⟩ (by omega)).2
    rw [show min (0 + c) n = n by omega] at this
    exact this i j i1 i2 i3
  | f + 1, c, d, hc, hf, hp, h => by
    rw [stB]
    by_cases c1 : c < n
    · rw [if_pos c1]
      have hq := stP_ok hS hO hn hc (n + 1) 0 d (by omega) ⟨0, by simp⟩ hp (fun x _ hx _ => absurd hx (by omega)) (fun x hx _ hxn => h x hx hxn)
      exact stB_ok hS hO hn f (2 * c) _ (by omega) (by omega) hq.1 hq.2
    · rw [if_neg c1]
      refine ⟨hp, fun i j i1 i2 i3 => ?_⟩
      have := (h 0 ⟨0, by simp⟩ (by omega)).2
      rw [show min (0 + c) n = n by omega] at this
      exact this i j i1 i2 i3
/-- sort.stable: what it computes -/
def stA (lt : α → α → Bool) (n : Nat) (d : Array α) : Array α := stB lt n n 20 (stI lt n (n + 1) 0 d)
/-- it sorts by the total order in which ties are told by the first places -/
theorem stA_ok {lt Rb : α → α → Bool} (hS : SWO Rb) {d0 : Array α} {n : Nat} (hO : Org lt Rb d0 n) (hn : n ≤ d0.size) : PermIn 0 n d0 (stA lt n d0) ∧ Srt9 (RB Rb) (stA lt n d0) 0 n := by
  have h := stI_ok hS hO hn (n + 1) 0 d0 (by omega) (by omega) ⟨0, by simp⟩ (permIn_refl _ _ _) (fun i _ => rfl) (fun x _ hx _ => absurd hx (by omega))
  exact stB_ok hS hO hn n 20 _ (by omega) (by omega) h.1 h.2
end Go.Proofs.Ythnphcinjchloaa

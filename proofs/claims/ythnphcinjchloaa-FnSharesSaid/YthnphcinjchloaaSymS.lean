/- blocks sorted, halves merged: plain -/
import Derived.Test.YthnphcinjchloaaSymI
set_option linter.unusedVariables false
set_option linter.unusedSimpArgs false
namespace Go.Proofs.Ythnphcinjchloaa
open Go.Lib Go.Sort
variable {α : Type} [Inhabited α]

/-- what holds of every two elements, in any order, holds behind a permutation -/
theorem tot_perm {T : α → α → Prop} (hT : ∀ x y, T x y → T y x) {d0 d : Array α} {a b : Nat} (hp : PermIn a b d0 d) (hb : b ≤ d0.size) (h : ∀ i j, a ≤ i → i < j → j < b → T d0[i]! d0[j]!) : ∀ i j, a ≤ i → i < j → j < b → T d[i]! d[j]! := by
  have e0 := extract_toList d0 a b hb
  have e1 := extract_toList d a b (by rw [hp.1]; exact hb)
  have hpm := hp.2.2
  rw [e0, e1] at hpm
  have h1 : ((List.range' a (b - a)).map fun i => d0[i]!).Pairwise T := by
    rw [List.pairwise_iff_getElem]
    intro i j hi hj hij
    simp only [List.length_map, List.length_range'] at hi hj
    simp only [List.getElem_map, List.getElem_range', Nat.one_mul]
    exact h _ _ (by omega) (by omega) (by omega)
  have h2 := (hpm.pairwise_iff (fun {x y} h => hT x y h)).2 h1
  rw [List.pairwise_iff_getElem] at h2
  intro i j hi hij hj
  have := h2 (i - a) (j - a) (by simp; omega) (by simp; omega) (by omega)
  simp only [List.getElem_map, List.getElem_range', Nat.one_mul] at this
  rw [show a + (i - a) = i by omega, show a + (j - a) = j by omega] at this
  exact this
/-- lt tells what stands later in the beginning from what stands earlier as Rb does -/
def Org (lt Rb : α → α → Bool) (d0 : Array α) (n : Nat) : Prop := ∀ i j, i < j → j < n → lt d0[j]! d0[i]! = Rb d0[j]! d0[i]! ∧ (Rb d0[j]! d0[i]! = false → Rb d0[i]! d0[j]! = true)
theorem ins_srt {lt Rb : α → α → Bool} (hS : SWO Rb) {d0 : Array α} {n : Nat} (hO : Org lt Rb d0 n) (hn : n ≤ d0.size) (a b : Nat) (hab : a < b) (hb : b ≤ n) (d : Array α) (hsz : d.size = d0.size) (hd : ∀ i, a ≤ i → i < b → d[i]! = d0[i]!) : PermIn a b d (insertionSort lt d a b) ∧ Srt9 (fun x y => Rb x y = true) (insertionSort lt d a b) a b := by
  rw [insSort_eq lt Rb a b d hab (by omega) (fun i j h1 h2 h3 => by rw [hd j (by omega) h3, hd i h1 (by omega)]; exact (hO i j h2 (by omega)).1)]
  have h := insertionSort_of (lt := Rb) swp_permIn permIn_refl permIn_trans hS d a b (by omega) (by omega)
  refine ⟨h.1, fun i j h1 h2 h3 => ?_⟩
  have ht := tot_perm (T := fun x y => Rb x y = true ∨ Rb y x = true) (fun x y h => h.symm) h.1 (by omega) (fun i j h1 h2 h3 => by
    rw [hd j (by omega) h3, hd i h1 (by omega)]
    cases e : Rb d0[j]! d0[i]! with
    | true => exact .inr rfl
    | false => exact .inl ((hO i j h2 (by omega)).2 e)) i j h1 h2 h3
  rcases ht with ht | ht
  · exact ht
  · have := h.2 i j h1 h2 h3
    rw [ht] at this
    cases this
/-! blocks -/
def In9 (d0 d : Array α) (a b : Nat) : Prop := ∀ P : α → Prop, (∀ i, a ≤ i → i < b → P d0[i]!) → ∀ i, a ≤ i → i < b → P d[i]!
def Ml (c x : Nat) : Prop := ∃ k, x = k * c
theorem Ml.add {c x : Nat} (h : Ml c x) : Ml c (x + c) := by
  obtain ⟨k, rfl⟩ := h
  exact ⟨k + 1, by rw [Nat.succ_mul]⟩
theorem Ml.half {c x : Nat} (h : Ml (2 * c) x) : Ml c x := by
  obtain ⟨k, rfl⟩ := h
  exact ⟨k * 2, by rw [Nat.mul_assoc]⟩
theorem Ml.gap {c x y : Nat} (h : Ml c x) (h' : Ml c y) (hl : x < y) : x + c ≤ y := by
  obtain ⟨k, rfl⟩ := h
  obtain ⟨k', rfl⟩ := h'
  have : k < k' := Nat.lt_of_mul_lt_mul_right hl
  rw [← Nat.succ_mul]
  exact Nat.mul_le_mul_right _ this
abbrev RB (Rb : α → α → Bool) : α → α → Prop := fun x y => Rb x y = true
/-- a block: its elements are those of the beginning, in order -/
def Blk9 (Rb : α → α → Bool) (d0 d : Array α) (n c x : Nat) : Prop := In9 d0 d x (min (x + c) n) ∧ Srt9 (RB Rb) d x (min (x + c) n)
theorem Blk9.keep {Rb : α → α → Bool} {d0 d d' : Array α} {n c x : Nat} (h : Blk9 Rb d0 d n c x) (he : ∀ i, x ≤ i → i < min (x + c) n → d'[i]! = d[i]!) : Blk9 Rb d0 d' n c x :=
  ⟨fun P hP i h1 h2 => by rw [he i h1 h2]; exact h.1 P hP i h1 h2, fun i j h1 h2 h3 => by rw [he i h1 (by omega), he j (by omega) h3]; exact h.2 i j h1 h2 h3⟩
omit [Inhabited α] in
theorem swo_sto {Rb : α → α → Bool} (hS : SWO Rb) : StO (RB Rb) where
  ir := fun x h => by
    have := hS.irrefl x
    rw [h] at this
    cases this
  tr := hS.trans
/-- two neighbours merged -/
theorem merge_blk {lt Rb : α → α → Bool} (hS : SWO Rb) {d0 : Array α} {n : Nat} (hO : Org lt Rb d0 n) {d : Array α} (hsz : d.size = d0.size) (hn : n ≤ d0.size) {c x hi : Nat} (hc : 0 < c) (hx : x + c < n) (hhi : hi = min (x + 2 * c) n) (h1 : Blk9 Rb d0 d n c x) (h2 : Blk9 Rb d0 d n c (x + c)) (f : Nat) (hf : hi - x ≤ f) :
    PermIn x hi d (symM lt f x (x + c) hi d) ∧ Blk9 Rb d0 (symM lt f x (x + c) hi d) n (2 * c) x := by
  have e1 : min (x + c) n = x + c := by omega
  have e2 : min (x + c + c) n = hi := by omega
  unfold Blk9 at h1 h2 ⊢
  rw [e1] at h1
  rw [e2] at h2
  rw [← hhi]
  have hm := symM_ok (swo_sto hS) f x (x + c) hi d hf (by omega) (by omega) (by omega) h1.2 h2.2 (fun i j i1 i2 j1 j2 => by
    refine h1.1 (fun y => (lt d[j]! y = true → RB Rb d[j]! y) ∧ (lt d[j]! y = false → RB Rb y d[j]!)) (fun i' a1 a2 => ?_) i i1 i2
    refine h2.1 (fun z => (lt z d0[i']! = true → RB Rb z d0[i']!) ∧ (lt z d0[i']! = false → RB Rb d0[i']! z)) (fun j' b1 b2 => ?_) j j1 j2
    have o := hO i' j' (by omega) (by omega)
    exact ⟨fun g => by rw [o.1] at g; exact g, fun g => by rw [o.1] at g; exact o.2 g⟩)
  refine ⟨hm.1, fun P hP => ?_, hm.2⟩
  refine permIn_all d _ x hi P (by omega) hm.1 (fun i i1 i2 => ?_)
  by_cases e : i < x + c
  · exact h1.1 P (fun i' a1 a2 => hP i' a1 (by omega)) i i1 e
  · exact h2.1 P (fun i' a1 a2 => hP i' (by omega) a2) i (by omega) i2
/-- the model of a pass of merges, and of stable -/
def stP (lt : α → α → Bool) (n c : Nat) : Nat → Nat → Array α → Array α
  | 0, _, d => d
  | f + 1, a, d => if a + 2 * c ≤ n then stP lt n c f (a + 2 * c) (symM lt (2 * c) a (a + c) (a + 2 * c) d) else if a + c < n then symM lt (n - a) a (a + c) n d else d
theorem stP_ok {lt Rb : α → α → Bool} (hS : SWO Rb) {d0 : Array α} {n : Nat} (hO : Org lt Rb d0 n) (hn : n ≤ d0.size) {c : Nat} (hc : 0 < c) : ∀ (f a : Nat) (d : Array α), n < a + f → Ml (2 * c) a → PermIn 0 n d0 d → (∀ x, Ml (2 * c) x → x < a → x < n → Blk9 Rb d0 d n (2 * c) x) → (∀ x, Ml c x → a ≤ x → x < n → Blk9 Rb d0 d n c x) →
    PermIn 0 n d0 (stP lt n c f a d) ∧ ∀ x, Ml (2 * c) x → x < n → Blk9 Rb d0 (stP lt n c f a d) n (2 * c) x
  | 0, a, d, hf, hm, hp, h1, h2 => by
    rw [stP]
    exact ⟨hp, fun x hx hxn => h1 x hx (by omega) hxn⟩
  | f + 1, a, d, hf, hm, hp, h1, h2 => by
    have hsz := hp.1
    rw [stP]
    by_cases c1 : a + 2 * c ≤ n
    · rw [if_pos c1]
      have hb := merge_blk hS hO hsz hn hc (x := a) (hi := a + 2 * c) (by omega) (by omega) (h2 a hm.half (Nat.le_refl _) (by omega)) (h2 (a + c) hm.half.add (by omega) (by omega)) (2 * c) (by omega)
      generalize symM lt (2 * c) a (a + c) (a + 2 * c) d = d' at *
      refine stP_ok hS hO hn hc f (a + 2 * c) d' (by omega) hm.add (permIn_trans _ _ _ _ _ hp (permIn_mono _ _ a (a + 2 * c) 0 n (by omega) c1 (by omega) hb.1)) (fun x hx hxa hxn => ?_) (fun x hx hxa hxn => ?_)
      · by_cases e : x = a
        · subst e; exact hb.2
        · have hlt : x < a := by
            apply Nat.lt_of_le_of_ne _ e
            apply Nat.le_of_not_lt; intro g
            have := hm.gap hx g
            omega
          have := hx.gap hm hlt
          exact (h1 x hx hlt hxn).keep fun i i1 i2 => hb.1.2.1 i (.inl (by omega))
      · exact (h2 x hx (by omega) hxn).keep fun i i1 i2 => hb.1.2.1 i (.inr (by omega))
    · rw [if_neg c1]
      have last : ∀ x, Ml (2 * c) x → x < n → x < a ∨ x = a := fun x hx hxn => by
        by_cases e : x = a
        · exact .inr e
        · left
          apply Nat.lt_of_le_of_ne _ e
          apply Nat.le_of_not_lt; intro g
          have := hm.gap hx g
          omega
      by_cases c2 : a + c < n
      · rw [if_pos c2]
        have hb := merge_blk hS hO hsz hn hc (x := a) (hi := n) (by omega) (by omega) (h2 a hm.half (Nat.le_refl _) (by omega)) (h2 (a + c) hm.half.add (by omega) (by omega)) (n - a) (by omega)
        generalize symM lt (n - a) a (a + c) n d = d' at *
        refine ⟨permIn_trans _ _ _ _ _ hp (permIn_mono _ _ a n 0 n (by omega) (Nat.le_refl _) (by omega) hb.1), fun x hx hxn => ?_⟩
        rcases last x hx hxn with hlt | rfl
        · have := hx.gap hm hlt
          exact (h1 x hx hlt hxn).keep fun i i1 i2 => hb.1.2.1 i (.inl (by omega))
        · exact hb.2
      · rw [if_neg c2]
        refine ⟨hp, fun x hx hxn => ?_⟩
        rcases last x hx hxn with hlt | rfl
        · exact h1 x hx hlt hxn
        · have := h2 x hm.half (Nat.le_refl _) hxn
          unfold Blk9 at this ⊢
          rw [show min (x + c) n = n by omega] at this
          rw [show min (x + 2 * c) n = n by omega]
          exact this
/-- blocks of 20, each by insertion -/
def stI (lt : α → α → Bool) (n : Nat) : Nat → Nat → Array α → Array α
  | 0, _, d => d
  | f + 1, a, d => if a + 20 ≤ n then stI lt n f (a + 20) (insertionSort lt d a (a + 20)) else insertionSort lt d a n
theorem insSort_nil (lt : α → α → Bool) (d : Array α) (n : Nat) : insertionSort lt d n n = d := by
  unfold insertionSort
  rw [insOuter, if_neg (by omega)]
theorem stI_ok {lt Rb : α → α → Bool} (hS : SWO Rb) {d0 : Array α} {n : Nat} (hO : Org lt Rb d0 n) (hn : n ≤ d0.size) : ∀ (f a : Nat) (d : Array α), n < a + f → a ≤ n → Ml 20 a → PermIn 0 n d0 d → (∀ i, a ≤ i → d[i]! = d0[i]!) → (∀ x, Ml 20 x → x < a → x < n → Blk9 Rb d0 d n 20 x) →
    PermIn 0 n d0 (stI lt n f a d) ∧ ∀ x, Ml 20 x → x < n → Blk9 Rb d0 (stI lt n f a d) n 20 x
  | 0, a, d, hf, hn', hm, hp, hd, h1 => by omega
  | f + 1, a, d, hf, hn', hm, hp, hd, h1 => by
    have hsz := hp.1
    rw [stI]
    have blk : ∀ b, a < b → b ≤ n → b = min (a + 20) n → PermIn a b d (insertionSort lt d a b) ∧ Blk9 Rb d0 (insertionSort lt d a b) n 20 a := fun b b1 b2 b3 => by
      have h := ins_srt hS hO hn a b b1 b2 d hsz (fun i i1 i2 => hd i i1)
      unfold Blk9
      rw [← b3]
      refine ⟨h.1, fun P hP => ?_, h.2⟩
      exact permIn_all d _ a b P (by omega) h.1 (fun i i1 i2 => by rw [hd i i1]; exact hP i i1 i2)
    by_cases c1 : a + 20 ≤ n
    · rw [if_pos c1]
      have hb := blk (a + 20) (by omega) c1 (by omega)
      generalize insertionSort lt d a (a + 20) = d' at *
      refine stI_ok hS hO hn f (a + 20) d' (by omega) c1 hm.add (permIn_trans _ _ _ _ _ hp (permIn_mono _ _ a (a + 20) 0 n (by omega) c1 (by omega) hb.1)) (fun i hi => by rw [hb.1.2.1 i (.inr hi)]; exact hd i (by omega)) (fun x hx hxa hxn => ?_)
      by_cases e : x = a
      · subst e; exact hb.2
      · have hlt : x < a := by
          apply Nat.lt_of_le_of_ne _ e
          apply Nat.le_of_not_lt; intro g
          have := hm.gap hx g
          omega
        have := hx.gap hm hlt
        exact (h1 x hx hlt hxn).keep fun i i1 i2 => hb.1.2.1 i (.inl (by omega))
    · rw [if_neg c1]
      by_cases c2 : a < n
      · have hb := blk n c2 (Nat.le_refl _) (by omega)
        generalize insertionSort lt d a n = d' at *
        refine ⟨permIn_trans _ _ _ _ _ hp (permIn_mono _ _ a n 0 n (by omega) (Nat.le_refl _) (by omega) hb.1), fun x hx hxn => ?_⟩
        by_cases e : x = a
        · subst e; exact hb.2
        · have hlt : x < a := by
            apply Nat.lt_of_le_of_ne _ e
            apply Nat.le_of_not_lt; intro g
            have := hm.gap hx g
            omega
          have := hx.gap hm hlt
          exact (h1 x hx hlt hxn).keep fun i i1 i2 => hb.1.2.1 i (.inl (by omega))
      · obtain rfl : a = n := by omega
        rw [insSort_nil]
        exact ⟨hp, fun x hx hxn => h1 x hx hxn hxn⟩
/-- passes of merges, the blocks twice as long each time -/
def stB (lt : α → α → Bool) (n : Nat) : Nat → Nat → Array α → Array α
  | 0, _, d => d
  | f + 1, c, d => if c < n then stB lt n f (2 * c) (stP lt n c (n + 1) 0 d) else d
theorem stB_ok {lt Rb : α → α → Bool} (hS : SWO Rb) {d0 : Array α} {n : Nat} (hO : Org lt Rb d0 n) (hn : n ≤ d0.size) : ∀ (f c : Nat) (d : Array α), 0 < c → n < c + f → PermIn 0 n d0 d → (∀ x, Ml c x → x < n → Blk9 Rb d0 d n c x) →
    PermIn 0 n d0 (stB lt n f c d) ∧ Srt9 (RB Rb) (stB lt n f c d) 0 n
  | 0, c, d, hc, hf, hp, h => by
    rw [stB]
    refine ⟨hp, fun i j i1 i2 i3 => ?_⟩
    have := (h 0 ⟨0, by simp⟩ (by omega)).2
    rw [show min (0 + c) n = n by omega] at this
    exact this i j i1 i2 i3
  | f + 1, c, d, hc, hf, hp, h => by
    rw [stB]
    by_cases c1 : c < n
    · rw [if_pos c1]
      have hq := stP_ok hS hO hn hc (n + 1) 0 d (by omega) ⟨0, by simp⟩ hp (fun x _ hx _ => absurd hx (by omega)) (fun x hx _ hxn => h x hx hxn)
      exact stB_ok hS hO hn f (2 * c) _ (by omega) (by omega) hq.1 hq.2
    · rw [if_neg c1]
      refine ⟨hp, fun i j i1 i2 i3 => ?_⟩
      have := (h 0 ⟨0, by simp⟩ (by omega)).2
      rw [show min (0 + c) n = n by omega] at this
      exact this i j i1 i2 i3
/-- sort.stable: what it computes -/
def stA (lt : α → α → Bool) (n : Nat) (d : Array α) : Array α := stB lt n n 20 (stI lt n (n + 1) 0 d)
/-- it sorts by the total order in which ties are told by the first places -/
theorem stA_ok {lt Rb : α → α → Bool} (hS : SWO Rb) {d0 : Array α} {n : Nat} (hO : Org lt Rb d0 n) (hn : n ≤ d0.size) : PermIn 0 n d0 (stA lt n d0) ∧ Srt9 (RB Rb) (stA lt n d0) 0 n := by
  have h := stI_ok hS hO hn (n + 1) 0 d0 (by omega) (by omega) ⟨0, by simp⟩ (permIn_refl _ _ _) (fun i _ => rfl) (fun x _ hx _ => absurd hx (by omega))
  exact stB_ok hS hO hn n 20 _ (by omega) (by omega) h.1 h.2
end Go.Proofs.Ythnphcinjchloaa

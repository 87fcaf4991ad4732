/- lands: floods grow with the level: plain law -/
import Derived.Test.YthgjcanhemohfaaFlood3
set_option linter.unusedVariables false
set_option linter.unusedSimpArgs false
namespace Go.Proofs.Ythgjcanhemohfaa
open Go.AG

theorem bfS_len1 (l : Ld) (lv : Int) (a : Bf) (x : Int) : (bfS l lv a x).1.length = a.1.length := by unfold bfS; split <;> simp
theorem bfR_len1 (l : Ld) (lv : Int) (xs : List Int) : ∀ a : Bf, (bfR l lv a xs).1.length = a.1.length := by
  induction xs with
  | nil => intro a; rfl
  | cons x xs ih => intro a; exact (ih (bfS l lv a x)).trans (bfS_len1 l lv a x)
theorem bfS_pre (l : Ld) (lv : Int) (a : Bf) (x : Int) : ∃ t, (bfS l lv a x).2 = a.2 ++ t := by
  unfold bfS; split
  · exact ⟨[x], rfl⟩
  · exact ⟨[], by simp⟩
theorem bfR_pre (l : Ld) (lv : Int) (xs : List Int) : ∀ a : Bf, ∃ t, (bfR l lv a xs).2 = a.2 ++ t := by
  induction xs with
  | nil => intro a; exact ⟨[], by simp [bfR]⟩
  | cons x xs ih =>
    intro a
    obtain ⟨t, h1⟩ := ih (bfS l lv a x)
    obtain ⟨u, h2⟩ := bfS_pre l lv a x
    exact ⟨u ++ t, by rw [show bfR l lv a (x :: xs) = bfR l lv (bfS l lv a x) xs from rfl, h1, h2, List.append_assoc]⟩
theorem gb_set (s : List Bool) (i j : Nat) (h : gb s j = true) : gb (s.set i true) j = true := by
  by_cases e : i = j
  · subst e
    by_cases hl : i < s.length
    · exact gb_set_same s i true hl
    · rw [List.set_eq_of_length_le (by omega)]; exact h
  · rw [gb_set_ne s i j true e]; exact h
theorem bfS_mk (l : Ld) (lv : Int) (a : Bf) (x : Int) (k : Nat) (h : gb a.1 k = true) : gb (bfS l lv a x).1 k = true := by
  unfold bfS; split
  · exact gb_set _ _ _ h
  · exact h
theorem bfR_mk (l : Ld) (lv : Int) (k : Nat) (xs : List Int) : ∀ a : Bf, gb a.1 k = true → gb (bfR l lv a xs).1 k = true := by
  induction xs with
  | nil => intro a h; exact h
  | cons x xs ih => intro a h; exact ih _ (bfS_mk l lv a x k h)
theorem bfS_hit (l : Ld) (lv : Int) (a : Bf) (x : Int) (hl : x.toNat < a.1.length) (h : gi l.hs x.toNat < lv) : gb (bfS l lv a x).1 x.toNat = true := by
  cases hg : gb a.1 x.toNat with
  | true => rw [bfS_no1 hg]; exact hg
  | false => rw [bfS_yes hg h]; exact gb_set_same _ _ _ hl
theorem bfR_hit (l : Ld) (lv : Int) (y : Int) (h : gi l.hs y.toNat < lv) (xs : List Int) : ∀ a : Bf, y.toNat < a.1.length → y ∈ xs → gb (bfR l lv a xs).1 y.toNat = true := by
  induction xs with
  | nil => intro a _ hy; simp at hy
  | cons x xs ih =>
    intro a hl hy
    rcases List.mem_cons.1 hy with rfl | hy
    · exact bfR_mk l lv _ xs _ (bfS_hit l lv a y hl h)
    · exact ih _ (by rw [bfS_len1]; exact hl) hy
/-- marks and list say the same -/
def Mk (l : Ld) (a : Bf) : Prop := ∀ k : Nat, k < l.hs.length → (gb a.1 k = true ↔ (k : Int) ∈ a.2)
theorem bfS_Mk {l : Ld} {lv : Int} {a : Bf} {x : Int} (hl : a.1.length = l.hs.length) (hx : inC l x) (h : Mk l a) : Mk l (bfS l lv a x) := by
  unfold bfS; split
  · intro k hk
    have hxb : 0 ≤ x ∧ x ≤ (l.hs.length : Int) - 1 := hx
    by_cases e : x.toNat = k
    · subst e
      simp only [gb_set_same _ _ _ (show x.toNat < a.1.length by omega), true_iff, List.mem_append, List.mem_singleton]
      right; omega
    · simp only [gb_set_ne _ _ _ _ e, List.mem_append, List.mem_singleton]
      rw [h k hk]
      constructor
      · exact .inl
      · rintro (h1 | h1)
        · exact h1
        · omega
  · exact h
theorem bfR_Mk {l : Ld} {lv : Int} (xs : List Int) : ∀ {a : Bf}, a.1.length = l.hs.length → (∀ x ∈ xs, inC l x) → Mk l a → Mk l (bfR l lv a xs) := by
  induction xs with
  | nil => intro a _ _ h; exact h
  | cons x xs ih => intro a hl hx h; exact ih (by rw [bfS_len1]; exact hl) (fun y hy => hx y (by simp [hy])) (bfS_Mk hl (hx x (by simp)) h)
abbrev off (l : Ld) : List Bool := List.replicate l.hs.length false
theorem bfK_Mk {l : Ld} {lv c : Int} (hok : okL l = true) (hc : inC l c) : ∀ i, Mk l (bfK l lv (off l) c i)
  | 0 => by
    intro k hk
    have hcb : 0 ≤ c ∧ c ≤ (l.hs.length : Int) - 1 := hc
    simp only [bfK, List.mem_singleton]
    by_cases e : c.toNat = k
    · subst e
      simp only [gb_set_same _ _ _ (show c.toNat < (off l).length by simp; omega), true_iff]
      omega
    · simp only [gb_set_ne _ _ _ _ e]
      constructor
      · intro h; simp [gb, hk] at h
      · intro h; omega
  | i + 1 => by
    have ih := bfK_Mk (lv := lv) hok hc i
    show Mk l (if i < (bfK l lv (off l) c i).2.length then _ else _)
    split
    · rename_i g
      exact bfR_Mk _ (bfK_len hok hc (by simp) i).2 (near_in l hok _ ((bfK_ok hok hc (by simp) i).ins _ (gi_mem _ _ g))) ih
    · exact ih
/-- all neighbours of the first i are marked -/
theorem bfK_cl {l : Ld} {lv c : Int} (hok : okL l = true) (hc : inC l c) : ∀ i, ∀ j, j < i → j < (bfK l lv (off l) c i).2.length → ∀ y ∈ near l (gi (bfK l lv (off l) c i).2 j), gi l.hs y.toNat < lv → gb (bfK l lv (off l) c i).1 y.toNat = true
  | 0 => fun j hj => by omega
  | i + 1 => by
    have ih := bfK_cl (lv := lv) hok hc i
    have hokI := bfK_ok (lv := lv) (s := off l) hok hc (by simp) i
    intro j hj hjl y hy hlow
    by_cases g : i < (bfK l lv (off l) c i).2.length
    · have e : bfK l lv (off l) c (i + 1) = bfR l lv (bfK l lv (off l) c i) (near l (gi (bfK l lv (off l) c i).2 i)) := if_pos g
      obtain ⟨t, ht⟩ := bfR_pre l lv (near l (gi (bfK l lv (off l) c i).2 i)) (bfK l lv (off l) c i)
      rw [e] at hjl hy ⊢
      rw [ht, gi_append_left _ _ _ (by omega)] at hy
      by_cases e2 : j = i
      · subst e2
        have hyin := near_in l hok _ (hokI.ins _ (gi_mem _ _ g)) y hy
        have hyb : 0 ≤ y ∧ y ≤ (l.hs.length : Int) - 1 := hyin
        exact bfR_hit l lv y hlow _ _ (by rw [hokI.len]; omega) hy
      · exact bfR_mk l lv _ _ _ (ih j (by omega) (by omega) y hy hlow)
    · have e : bfK l lv (off l) c (i + 1) = bfK l lv (off l) c i := if_neg g
      rw [e] at hjl hy ⊢
      exact ih j (by omega) hjl y hy hlow
/-- nothing but what is reached is marked -/
theorem bfS_min {l : Ld} {lv : Int} {S : Int → Prop} {a : Bf} {x : Int} (ha : ∀ z ∈ a.2, S z) (hx : gi l.hs x.toNat < lv → S x) : ∀ z ∈ (bfS l lv a x).2, S z := by
  unfold bfS; split
  · rename_i g
    intro z hz
    rcases List.mem_append.1 hz with hz | hz
    · exact ha z hz
    · simp at hz; subst hz; exact hx g.2
  · exact ha
theorem bfR_min {l : Ld} {lv : Int} {S : Int → Prop} (xs : List Int) : ∀ {a : Bf}, (∀ z ∈ a.2, S z) → (∀ x ∈ xs, gi l.hs x.toNat < lv → S x) → ∀ z ∈ (bfR l lv a xs).2, S z := by
  induction xs with
  | nil => intro a h _; exact h
  | cons x xs ih => intro a h hx; exact ih (bfS_min h (hx x (by simp))) (fun y hy => hx y (by simp [hy]))
theorem bfK_min {l : Ld} {lv c : Int} {s : List Bool} {S : Int → Prop} (hc : S c) (hcl : ∀ x, S x → ∀ y ∈ near l x, gi l.hs y.toNat < lv → S y) : ∀ i, ∀ z ∈ (bfK l lv s c i).2, S z
  | 0 => by intro z hz; simp [bfK] at hz; subst hz; exact hc
  | i + 1 => by
    have ih := bfK_min (lv := lv) (s := s) hc hcl i
    show ∀ z ∈ (if i < (bfK l lv s c i).2.length then _ else _ : Bf).2, S z
    split
    · rename_i g
      exact bfR_min _ ih (hcl _ (ih _ (gi_mem _ _ g)))
    · exact ih
theorem bfE_cl {l : Ld} {lv c : Int} (hok : okL l = true) (hc : inC l c) (x : Int) (hx : x ∈ (bfE l lv (off l) c).2) (y : Int) (hy : y ∈ near l x) (hlow : gi l.hs y.toNat < lv) : y ∈ (bfE l lv (off l) c).2 := by
  obtain ⟨j, hj, e⟩ := List.mem_iff_getElem.1 hx
  have hxin : inC l x := (bfK_ok (lv := lv) (s := off l) hok hc (by simp) (l.hs.length + 1)).ins x hx
  have hyin := near_in l hok x hxin y hy
  have hyb : 0 ≤ y ∧ y ≤ (l.hs.length : Int) - 1 := hyin
  have hlen := (bfK_len (lv := lv) (s := off l) hok hc (by simp) (l.hs.length + 1)).1
  have e2 : gi (bfE l lv (off l) c).2 j = x := by rw [gi_lt _ _ hj]; exact e
  have h1 := bfK_cl (lv := lv) hok hc (l.hs.length + 1) j (by unfold bfE at hj; omega) hj y (by rw [show bfK l lv (off l) c (l.hs.length + 1) = bfE l lv (off l) c from rfl, e2]; exact hy) hlow
  have h2 := (bfK_Mk (lv := lv) hok hc (l.hs.length + 1) y.toNat (by omega)).1 h1
  rw [Int.toNat_of_nonneg hyb.1] at h2
  exact h2
theorem wet_iff {l : Ld} {lv c : Int} (hok : okL l = true) (hc : inC l c) (k : Nat) (hk : k < l.hs.length) : gb (wet l c lv) k = true ↔ gi l.hs c.toNat < lv ∧ (k : Int) ∈ (bfE l lv (off l) c).2 := by
  unfold wet
  by_cases h : gi l.hs c.toNat < lv
  · rw [if_pos h]
    have := bfK_Mk (lv := lv) hok hc (l.hs.length + 1) k hk
    constructor
    · intro h1; exact ⟨h, this.1 h1⟩
    · intro h1; exact this.2 h1.2
  · rw [if_neg h]
    constructor
    · intro h1; simp [gb, hk] at h1
    · intro h1; exact absurd h1.1 h
theorem wet_low {l : Ld} {lv c : Int} (hok : okL l = true) (hc : inC l c) (k : Nat) (hk : k < l.hs.length) (h : gb (wet l c lv) k = true) : gi l.hs k < lv := by
  obtain ⟨h1, h2⟩ := (wet_iff hok hc k hk).1 h
  have := bfK_min (l := l) (lv := lv) (c := c) (s := off l) (S := fun x => gi l.hs x.toNat < lv) h1 (fun x _ y _ hl => hl) (l.hs.length + 1) k h2
  simpa using this
theorem wet_mono {l : Ld} {lv lv' c : Int} (hok : okL l = true) (hc : inC l c) (hlv : lv ≤ lv') (k : Nat) (hk : k < l.hs.length) (h : gb (wet l c lv) k = true) : gb (wet l c lv') k = true := by
  obtain ⟨h1, h2⟩ := (wet_iff hok hc k hk).1 h
  refine (wet_iff hok hc k hk).2 ⟨by omega, ?_⟩
  have hc0 : c ∈ (bfE l lv' (off l) c).2 := by
    have : (bfK l lv' (off l) c 0).1.length = l.hs.length := by simp [bfK]
    have hcb : 0 ≤ c ∧ c ≤ (l.hs.length : Int) - 1 := hc
    have hpre : ∀ i, c ∈ (bfK l lv' (off l) c i).2 := by
      intro i
      induction i with
      | zero => simp [bfK]
      | succ i ih =>
        show c ∈ (if i < (bfK l lv' (off l) c i).2.length then _ else _ : Bf).2
        split
        · obtain ⟨t, ht⟩ := bfR_pre l lv' (near l (gi (bfK l lv' (off l) c i).2 i)) (bfK l lv' (off l) c i)
          rw [ht]; exact List.mem_append_left _ ih
        · exact ih
    exact hpre _
  exact bfK_min (l := l) (lv := lv) (c := c) (s := off l) (S := fun x => x ∈ (bfE l lv' (off l) c).2) hc0 (fun x hx y hy hl => bfE_cl hok hc x hx y hy (by omega)) (l.hs.length + 1) k h2
theorem dpt_bd {l : Ld} {lv c : Int} (hok : okL l = true) (hc : inC l c) (hlv : lvC lv) (k : Nat) (hk : k < l.hs.length) : 0 ≤ dpt l c lv k ∧ dpt l c lv k ≤ 4000 := by
  have hlv' : -2000 ≤ lv ∧ lv ≤ 2000 := hlv
  have hh := okL_h hok k hk
  unfold dpt
  split
  · rename_i g
    have := wet_low hok hc k hk g
    omega
  · omega
theorem dpt_mono {l : Ld} {lv lv' c : Int} (hok : okL l = true) (hc : inC l c) (hlv : lvC lv') (h : lv ≤ lv') (k : Nat) (hk : k < l.hs.length) : dpt l c lv k ≤ dpt l c lv' k := by
  have hb := (dpt_bd hok hc hlv k hk).1
  by_cases g : gb (wet l c lv) k = true
  · have g' := wet_mono hok hc h k hk g
    unfold dpt
    rw [if_pos g, if_pos g']
    omega
  · have : dpt l c lv k = 0 := if_neg g
    omega
/-- how much water there is -/
def vol (l : Ld) (c lv : Int) : Int := wsum (dpts l c lv l.hs.length)
theorem vol_eq {l : Ld} {lv c : Int} (hok : okL l = true) (hc : inC l c) (hlv : lvC lv) : vol l c lv = sumI (dpts l c lv l.hs.length) := by
  have hfs := (Cl.of2 hok hc).fs
  refine (wsum_eq _ 4000 (by omega) (fun x hx => ?_) (by rw [dpts_len]; omega)).1
  simp only [dpts, List.mem_map, List.mem_range] at hx
  obtain ⟨k, hk, rfl⟩ := hx
  have := dpt_bd hok hc hlv k hk
  omega
theorem vol_mono {l : Ld} {lv lv' c : Int} (hok : okL l = true) (hc : inC l c) (hlv : lvC lv) (hlv' : lvC lv') (h : lv ≤ lv') : vol l c lv ≤ vol l c lv' := by
  rw [vol_eq hok hc hlv, vol_eq hok hc hlv']
  have : ∀ n, n ≤ l.hs.length → sumI (dpts l c lv n) ≤ sumI (dpts l c lv' n) := by
    intro n
    induction n with
    | zero => intro _; simp [dpts]
    | succ n ih =>
      intro hn
      rw [dpts_succ, dpts_succ, sumI_append, sumI_append, sumI_cons, sumI_nil, sumI_cons, sumI_nil]
      have := ih (by omega)
      have := dpt_mono hok hc hlv' h n (by omega)
      omega
  exact this _ (Nat.le_refl _)
theorem vol_zero {l : Ld} {lv c : Int} (hok : okL l = true) (hc : inC l c) (hlv : lvC lv) (h : lv ≤ gi l.hs c.toNat) : vol l c lv = 0 := by
  rw [vol_eq hok hc hlv]
  have : ∀ n, n ≤ l.hs.length → sumI (dpts l c lv n) = 0 := by
    intro n
    induction n with
    | zero => intro _; simp [dpts, sumI_nil]
    | succ n ih =>
      intro hn
      rw [dpts_succ, sumI_append, sumI_cons, sumI_nil, ih (by omega)]
      have : dpt l c lv n = 0 := if_neg (by
        intro g
        have := ((wet_iff hok hc n (by omega)).1 g).1
        omega)
      omega
  exact this _ (Nat.le_refl _)
end Go.Proofs.Ythgjcanhemohfaa

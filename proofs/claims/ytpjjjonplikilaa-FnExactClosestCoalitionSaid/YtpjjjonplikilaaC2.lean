/- coalitions: the plain law -/
import Derived.Test.YtpjjjonplikilaaC1
set_option linter.unusedVariables false
set_option linter.unusedSimpArgs false
namespace Go.Proofs.Ytpjjjonplikilaa
open Go.AG

def sel (n : Nat) (f : Nat → Bool) : List Nat := (List.range n).filter f
theorem sel_succ (n : Nat) (f : Nat → Bool) : sel (n + 1) f = if f n = true then sel n f ++ [n] else sel n f := by
  unfold sel
  rw [List.range_succ, List.filter_append]
  cases h : f n <;> simp [h]
theorem mem_sel {n : Nat} {f : Nat → Bool} {i : Nat} : i ∈ sel n f ↔ i < n ∧ f i = true := by simp [sel]
theorem sel_len (n : Nat) (f : Nat → Bool) : (sel n f).length ≤ n := by
  have := List.length_filter_le f (List.range n)
  simpa [sel] using this
/-- the sum of the parties of a set -/
def sF (xs : List Int) (f : Nat → Bool) : Nat → Int
  | 0 => 0
  | n + 1 => sF xs f n + if f n = true then gi xs n else 0
theorem sF_sel (xs : List Int) (f : Nat → Bool) (n : Nat) : sumI ((sel n f).map (gi xs)) = sF xs f n := by
  induction n with
  | zero => rfl
  | succ n ih =>
    rw [sel_succ]
    simp only [sF]
    split
    · rw [List.map_append, sumI_append, ih]; simp [sumI_cons, sumI_nil]
    · rw [ih]; omega
structure Cx (xs : List Int) : Prop where
  ok : okV xs 60 = true
  n8 : xs.length ≤ 8
  n1 : 1 ≤ xs.length
  bd : ∀ i, 0 ≤ gi xs i ∧ gi xs i ≤ 60
  pos : 1 ≤ wsum xs
  tot : wsum xs = sF xs (fun _ => true) xs.length
theorem okV_get {xs : List Int} {m : Int} (h : okV xs m = true) (i : Nat) (hi : i < xs.length) : 0 ≤ gi xs i ∧ gi xs i ≤ m := by
  simp only [okV, Bool.and_eq_true, List.all_eq_true, decide_eq_true_eq] at h
  exact h.1.1 _ (gi_mem _ _ hi)
theorem sumI_all (xs : List Int) : ∀ n, n ≤ xs.length → sumI (xs.take n) = sF xs (fun _ => true) n
  | 0, _ => by simp [sumI_nil, sF]
  | n + 1, h => by
    rw [take_succ_gi xs n (by omega), sumI_append, sumI_all xs n (by omega)]
    simp [sF, sumI_cons, sumI_nil]
theorem Cx.of {xs : List Int} (h : okV xs 60 = true) : Cx xs := by
  obtain ⟨g1, g2, g3, g4, g5⟩ := okV_sum (by omega) h
  refine ⟨h, g3, g4, fun i => ?_, g1, ?_⟩
  · by_cases hi : i < xs.length
    · exact okV_get h i hi
    · have : gi xs i = 0 := by simp [gi, hi]
      omega
  · rw [g5]
    have := sumI_all xs xs.length (Nat.le_refl _)
    rwa [List.take_length] at this
theorem mand_eq {xs : List Int} (g : Cx xs) (t : List Nat) (ht : t.length ≤ 8) : mand xs (nI t) = sumI (t.map (gi xs)) := by
  have e : (nI t).map (fun y => gi xs y.toNat) = t.map (gi xs) := by simp [nI]
  unfold mand
  rw [e]
  refine (wsum_eq _ 60 (by omega) (fun x hx => ?_) (by simp; omega)).1
  obtain ⟨i, _, rfl⟩ := List.mem_map.1 hx
  have := g.bd i
  omega
theorem mand_sel {xs : List Int} (g : Cx xs) (f : Nat → Bool) : mand xs (nI (sel xs.length f)) = sF xs f xs.length := by
  rw [mand_eq g _ (Nat.le_trans (sel_len _ _) g.n8), sF_sel]
theorem sF_bd {xs : List Int} (g : Cx xs) (f : Nat → Bool) (n : Nat) : 0 ≤ sF xs f n ∧ sF xs f n ≤ 60 * n := by
  induction n with
  | zero => simp [sF]
  | succ n ih =>
    have := g.bd n
    simp only [sF]
    split <;> omega
theorem sF_mono {xs : List Int} (g : Cx xs) {f h : Nat → Bool} (n : Nat) (hfh : ∀ i, i < n → f i = true → h i = true) : sF xs f n ≤ sF xs h n := by
  induction n with
  | zero => simp [sF]
  | succ n ih =>
    have := g.bd n
    have := ih (fun i hi => hfh i (by omega))
    simp only [sF]
    by_cases hf : f n = true
    · rw [if_pos hf, if_pos (hfh n (by omega) hf)]; omega
    · rw [if_neg hf]; split <;> omega
/-- a set without one party -/
def wo (f : Nat → Bool) (i : Nat) : Nat → Bool := fun j => f j && decide (j ≠ i)
theorem sF_wo (xs : List Int) (f : Nat → Bool) (i : Nat) (hf : f i = true) (n : Nat) : sF xs (wo f i) n = sF xs f n - if i < n then gi xs i else 0 := by
  induction n with
  | zero => simp [sF]
  | succ n ih =>
    simp only [sF, ih]
    by_cases e : n = i
    · subst e
      simp [wo, hf]
    · have h1 : wo f i n = f n := by simp [wo, e]
      rw [h1]
      by_cases h2 : i < n
      · rw [if_pos h2, if_pos (show i < n + 1 by omega)]; omega
      · rw [if_neg h2, if_neg (show ¬ i < n + 1 by omega)]; omega
def cnt (f : Nat → Bool) : Nat → Nat
  | 0 => 0
  | n + 1 => cnt f n + if f n = true then 1 else 0
theorem cnt_wo (f : Nat → Bool) (i : Nat) (hf : f i = true) (n : Nat) : cnt (wo f i) n + (if i < n then 1 else 0) = cnt f n := by
  induction n with
  | zero => simp [cnt]
  | succ n ih =>
    simp only [cnt]
    by_cases e : n = i
    · subst e
      simp [wo, hf] at ih ⊢
      exact ih
    · have h1 : wo f i n = f n := by simp [wo, e]
      rw [h1]
      by_cases h2 : i < n
      · rw [if_pos h2] at ih; rw [if_pos (show i < n + 1 by omega)]; omega
      · rw [if_neg h2] at ih; rw [if_neg (show ¬ i < n + 1 by omega)]; omega
def Wn (xs : List Int) (f : Nat → Bool) : Prop := wsum xs < 2 * sF xs f xs.length
def Mn (xs : List Int) (f : Nat → Bool) : Prop := ∀ i, i < xs.length → f i = true → 2 * (sF xs f xs.length - gi xs i) ≤ wsum xs
theorem min_ex {xs : List Int} : ∀ (k : Nat) (f : Nat → Bool), cnt f xs.length ≤ k → Wn xs f → ∃ h, (∀ i, i < xs.length → h i = true → f i = true) ∧ Wn xs h ∧ Mn xs h
  | k, f, hk, hw => by
    by_cases hm : Mn xs f
    · exact ⟨f, fun _ _ h => h, hw, hm⟩
    · simp only [Mn, Classical.not_forall] at hm
      obtain ⟨i, hi, hf, hn⟩ := hm
      have h1 := sF_wo xs f i hf xs.length
      have h2 := cnt_wo f i hf xs.length
      rw [if_pos hi] at h1 h2
      match k, hk with
      | 0, hk => omega
      | k + 1, hk =>
        obtain ⟨h, g1, g2, g3⟩ := min_ex (xs := xs) k (wo f i) (by omega) (by unfold Wn; rw [h1]; omega)
        refine ⟨h, fun j hj hh => ?_, g2, g3⟩
        have := g1 j hj hh
        simp only [wo, Bool.and_eq_true] at this
        exact this.1
/-! ### rows and sets -/
theorem bits_ex (f : Nat → Bool) : ∀ n : Nat, ∃ m, m < 2 ^ n ∧ ∀ i, i < n → ((m >>> i) % 2 == 1) = f i
  | 0 => ⟨0, by simp, fun i hi => by omega⟩
  | n + 1 => by
    obtain ⟨m, h1, h2⟩ := bits_ex f n
    have hp : 2 ^ (n + 1) = 2 ^ n + 2 ^ n := by rw [Nat.pow_succ]; omega
    by_cases hf : f n = true
    · refine ⟨m + 2 ^ n, by omega, fun i hi => ?_⟩
      rw [Nat.shiftRight_eq_div_pow]
      by_cases e : i = n
      · subst e
        rw [Nat.add_div_right _ (Nat.two_pow_pos _), Nat.div_eq_of_lt h1, hf]; rfl
      · have h3 := h2 i (by omega)
        rw [Nat.shiftRight_eq_div_pow] at h3
        have e2 : 2 ^ n = 2 ^ i * (2 * 2 ^ (n - i - 1)) := by
          rw [← Nat.pow_succ', ← Nat.pow_add, show i + (n - i - 1 + 1) = n by omega]
        rw [e2, Nat.add_mul_div_left _ _ (Nat.two_pow_pos _), Nat.add_mul_mod_self_left]
        exact h3
    · refine ⟨m, by omega, fun i hi => ?_⟩
      by_cases e : i = n
      · subst e
        rw [Nat.shiftRight_eq_div_pow, Nat.div_eq_of_lt h1]
        cases hfi : f i with
        | true => exact absurd hfi hf
        | false => rfl
      · exact h2 i (by omega)
def bt (m : Nat) : Nat → Bool := fun i => (m >>> i) % 2 == 1
theorem maskS_sel (n m : Nat) : maskS n m = sel n (bt m) := rfl
theorem sel_mem {n : Nat} (hn : n ≤ 8) (f : Nat → Bool) : sel n f ∈ subs n (2 ^ n) := by
  obtain ⟨m, h1, h2⟩ := bits_ex f n
  have hp := (subs_ok n hn).2.2
  refine hp.mem_iff.2 (List.mem_map.2 ⟨m, by simpa using h1, ?_⟩)
  exact List.filter_congr fun i hi => h2 i (by simpa using hi)
theorem row_sel {n : Nat} (hn : n ≤ 8) {t : List Nat} (h : t ∈ subs n (2 ^ n)) : ∃ m, m < 2 ^ n ∧ t = sel n (bt m) := by
  have hp := (subs_ok n hn).2.2
  obtain ⟨m, hm, e⟩ := List.mem_map.1 (hp.mem_iff.1 h)
  exact ⟨m, by simpa using hm, e.symm⟩
theorem rowI_sel {n : Nat} (hn : n ≤ 8) {s : List Int} (h : s ∈ sI (subs n (2 ^ n))) : ∃ f, s = nI (sel n f) := by
  obtain ⟨t, ht, rfl⟩ := List.mem_map.1 h
  obtain ⟨m, _, rfl⟩ := row_sel hn ht
  exact ⟨_, rfl⟩
theorem selI_mem {n : Nat} (hn : n ≤ 8) (f : Nat → Bool) : nI (sel n f) ∈ sI (subs n (2 ^ n)) := List.mem_map.2 ⟨_, sel_mem hn f, rfl⟩
theorem wn_sel {xs : List Int} (g : Cx xs) (f : Nat → Bool) : wnB xs (nI (sel xs.length f)) = true ↔ Wn xs f := by
  have hb := sF_bd g f xs.length
  have := g.n8
  unfold wnB Wn
  rw [mand_sel g, wrap_i64_id _ (by omega)]
  simp
theorem cr_sel {xs : List Int} (g : Cx xs) (f : Nat → Bool) (i : Nat) : crB xs (nI (sel xs.length f)) (i : Int) = true ↔ 2 * (sF xs f xs.length - gi xs i) ≤ wsum xs := by
  have hb := sF_bd g f xs.length
  have := g.n8
  have := g.bd i
  unfold crB
  rw [mand_sel g, Int.toNat_natCast, wrap_i64_id (sF xs f xs.length - gi xs i) (by omega), wrap_i64_id _ (by omega)]
  simp
theorem mem_nI {t : List Nat} {y : Int} : y ∈ nI t ↔ ∃ i ∈ t, y = (i : Int) := by
  simp only [nI, List.mem_map]
  constructor
  · rintro ⟨i, h, rfl⟩; exact ⟨i, h, rfl⟩
  · rintro ⟨i, h, rfl⟩; exact ⟨i, h, rfl⟩
theorem ls_sel {xs : List Int} (g : Cx xs) (f : Nat → Bool) : lsB xs (nI (sel xs.length f)) = true ↔ Wn xs f ∧ Mn xs f := by
  unfold lsB
  rw [Bool.and_eq_true, wn_sel g, List.all_eq_true]
  refine and_congr Iff.rfl ⟨fun h i hi hf => (cr_sel g f i).1 (h _ (mem_nI.2 ⟨i, mem_sel.2 ⟨hi, hf⟩, rfl⟩)), fun h y hy => ?_⟩
  obtain ⟨i, hi, rfl⟩ := mem_nI.1 hy
  exact (cr_sel g f i).2 (h i (mem_sel.1 hi).1 (mem_sel.1 hi).2)
theorem mem_LC {xs : List Int} (g : Cx xs) {s : List Int} : s ∈ LC xs ↔ ∃ f, s = nI (sel xs.length f) ∧ Wn xs f ∧ Mn xs f := by
  unfold LC
  rw [List.mem_filter]
  constructor
  · rintro ⟨h1, h2⟩
    obtain ⟨f, rfl⟩ := rowI_sel g.n8 h1
    exact ⟨f, rfl, (ls_sel g f).1 h2⟩
  · rintro ⟨f, rfl, h⟩
    exact ⟨selI_mem g.n8 f, (ls_sel g f).2 h⟩
theorem Wn_all {xs : List Int} (g : Cx xs) : Wn xs (fun _ => true) := by
  unfold Wn
  have := g.pos
  rw [← g.tot]; omega
theorem min_of {xs : List Int} (g : Cx xs) {f : Nat → Bool} (h : Wn xs f) : ∃ h, (∀ i, i < xs.length → h i = true → f i = true) ∧ Wn xs h ∧ Mn xs h ∧ nI (sel xs.length h) ∈ LC xs := by
  obtain ⟨m, h1, h2, h3⟩ := min_ex (cnt f xs.length) f (Nat.le_refl _) h
  exact ⟨m, h1, h2, h3, (mem_LC g).2 ⟨m, rfl, h2, h3⟩⟩
theorem LC_pos {xs : List Int} (g : Cx xs) : 1 ≤ (LC xs).length := by
  obtain ⟨m, _, _, _, h⟩ := min_of g (Wn_all g)
  exact List.length_pos_of_mem h
/-! ### the closest one -/
theorem clK_inv {xs : List Int} (L : List (List Int)) (hm : ∀ k, k < L.length → 0 ≤ mand xs (gr L k)) : ∀ k, k ≤ L.length →
    (clK xs L k = ([], -1) ∧ ∀ j, j < k → wnB xs (gr L j) = false) ∨ ((∃ j, j < k ∧ (clK xs L k).1 = gr L j ∧ wnB xs (gr L j) = true) ∧ (clK xs L k).2 = mand xs (clK xs L k).1 ∧ 0 ≤ (clK xs L k).2 ∧ ∀ j, j < k → wnB xs (gr L j) = true → (clK xs L k).2 ≤ mand xs (gr L j))
  | 0, _ => .inl ⟨rfl, fun j hj => by omega⟩
  | k + 1, hk => by
    have ih := clK_inv L hm k (by omega)
    have h0 := hm k (by omega)
    have e : clK xs L (k + 1) = if wnB xs (gr L k) = true ∧ ((clK xs L k).2 < 0 ∨ mand xs (gr L k) < (clK xs L k).2) then (gr L k, mand xs (gr L k)) else clK xs L k := rfl
    by_cases hc : wnB xs (gr L k) = true ∧ ((clK xs L k).2 < 0 ∨ mand xs (gr L k) < (clK xs L k).2)
    · rw [if_pos hc] at e
      rw [e]
      refine .inr ⟨⟨k, by omega, rfl, hc.1⟩, rfl, h0, fun j hj hw => ?_⟩
      by_cases ej : j = k
      · subst ej; exact Int.le_refl _
      · rcases ih with ⟨ih1, ih2⟩ | ⟨_, ih2, ih3, ih4⟩
        · rw [ih2 j (by omega)] at hw; cases hw
        · have := ih4 j (by omega) hw
          simp only
          omega
    · rw [if_neg hc] at e
      rw [e]
      rcases ih with ⟨ih1, ih2⟩ | ⟨⟨j0, h1, h2, h3⟩, ih2, ih3, ih4⟩
      · refine .inl ⟨ih1, fun j hj => ?_⟩
        by_cases ej : j = k
        · subst ej
          cases hw : wnB xs (gr L j) with
          | false => rfl
          | true => exact absurd ⟨hw, .inl (by rw [ih1]; simp only; omega)⟩ hc
        · exact ih2 j (by omega)
      · refine .inr ⟨⟨j0, by omega, h2, h3⟩, ih2, ih3, fun j hj hw => ?_⟩
        by_cases ej : j = k
        · subst ej
          rcases Int.lt_or_le (mand xs (gr L j)) (clK xs L j).2 with h | h
          · exact absurd ⟨hw, .inr h⟩ hc
          · exact h
        · exact ih4 j (by omega) hw
theorem gr_memI (L : List (List Int)) (k : Nat) (h : k < L.length) : gr L k ∈ L := by
  rw [show gr L k = L[k] by simp [gr, h]]; exact List.getElem_mem h
theorem CL_ok {xs : List Int} (g : Cx xs) : ∃ f, (CL xs).1 = nI (sel xs.length f) ∧ Wn xs f ∧ (CL xs).2 = sF xs f xs.length ∧ ∀ h, Wn xs h → (CL xs).2 ≤ sF xs h xs.length := by
  have hlen : (sI (subs xs.length (2 ^ xs.length))).length = 2 ^ xs.length := by simp [sI, (subs_ok xs.length g.n8).2.1]
  have hrow := fun k (hk : k < (sI (subs xs.length (2 ^ xs.length))).length) => rowI_sel g.n8 (gr_memI _ k hk)
  have hcl : CL xs = clK xs (sI (subs xs.length (2 ^ xs.length))) (sI (subs xs.length (2 ^ xs.length))).length := by rw [hlen]; rfl
  have hall : ∀ h, ∃ j, j < (sI (subs xs.length (2 ^ xs.length))).length ∧ gr (sI (subs xs.length (2 ^ xs.length))) j = nI (sel xs.length h) := fun h => by
    obtain ⟨j, hj, e⟩ := List.mem_iff_getElem.1 (selI_mem g.n8 h)
    exact ⟨j, hj, by rw [← e]; simp [gr, hj]⟩
  generalize sI (subs xs.length (2 ^ xs.length)) = L at hrow hcl hall
  have inv := clK_inv (xs := xs) L (fun k hk => by
    obtain ⟨f, e⟩ := hrow k hk
    rw [e, mand_sel g]; exact (sF_bd g f _).1) L.length (Nat.le_refl _)
  rw [← hcl] at inv
  rcases inv with ⟨_, h2⟩ | ⟨⟨j, h1, h2, h3⟩, h4, h5, h6⟩
  · obtain ⟨j, hj, e⟩ := hall (fun _ => true)
    have := h2 j hj
    rw [e] at this
    rw [(wn_sel g _).2 (Wn_all g)] at this
    cases this
  · obtain ⟨f, e⟩ := hrow j h1
    refine ⟨f, by rw [h2, e], ?_, ?_, fun h hw => ?_⟩
    · rw [e] at h3; exact (wn_sel g f).1 h3
    · rw [h4, h2, e, mand_sel g]
    · obtain ⟨i, hi, e2⟩ := hall h
      have := h6 i hi (by rw [e2]; exact (wn_sel g h).2 hw)
      rwa [e2, mand_sel g] at this
/-! ### swings -/
theorem gi_inc (acc : List Int) (i j : Nat) (hj : j < acc.length) (hb : 0 ≤ gi acc i ∧ gi acc i ≤ 1000000000) : gi (inc acc i) j = if i = j then gi acc j + 1 else gi acc j := by
  unfold inc
  by_cases e : i = j
  · subst e
    rw [if_pos rfl, gi_lt _ _ (by simpa using hj)]
    simp only [List.getElem_set_self]
    rw [wrap_i64_id _ (by omega)]
  · rw [if_neg e, gi_lt _ _ (by simpa using hj), List.getElem_set_ne e, gi_lt _ _ hj]
theorem swp_pos {xs : List Int} {s : List Nat} (t : List Nat) : ∀ (acc : List Int) (B : Int), (∀ j, 0 ≤ gi acc j ∧ gi acc j ≤ B) → B + t.length ≤ 1000000000 →
    (∀ j, 0 ≤ gi (swp xs s acc t) j ∧ gi (swp xs s acc t) j ≤ B + t.length) ∧ ∀ j, j < acc.length → (0 < gi (swp xs s acc t) j ↔ 0 < gi acc j ∨ (j ∈ t ∧ need xs s j = true)) := by
  induction t with
  | nil => intro acc B hB _; exact ⟨fun j => by simpa [swp] using hB j, fun j hj => by simp [swp]⟩
  | cons i t ih =>
    intro acc B hB hl
    simp only [List.length_cons] at hl
    have hB1 : ∀ j, 0 ≤ gi (sw1 xs s acc i) j ∧ gi (sw1 xs s acc i) j ≤ B + 1 := fun j => by
      unfold sw1
      split
      · by_cases hj : j < acc.length
        · rw [gi_inc acc i j hj (by have := hB i; omega)]
          have := hB j
          split <;> omega
        · have : gi (inc acc i) j = 0 := by simp [gi, inc_len, hj]
          have := hB j
          omega
      · have := hB j; omega
    obtain ⟨h1, h2⟩ := ih (sw1 xs s acc i) (B + 1) hB1 (by omega)
    refine ⟨fun j => by
      have := h1 j
      rw [show swp xs s acc (i :: t) = swp xs s (sw1 xs s acc i) t from rfl, List.length_cons]
      omega, fun j hj => ?_⟩
    have h3 := h2 j (by rw [sw1_len]; exact hj)
    rw [show swp xs s acc (i :: t) = swp xs s (sw1 xs s acc i) t from rfl, h3, List.mem_cons]
    have h4 : 0 < gi (sw1 xs s acc i) j ↔ 0 < gi acc j ∨ (j = i ∧ need xs s j = true) := by
      unfold sw1
      by_cases hn : need xs s i = true
      · rw [if_pos hn, gi_inc acc i j hj (by have := hB i; omega)]
        have := hB j
        by_cases e : i = j
        · subst e
          rw [if_pos rfl]
          exact ⟨fun _ => .inr ⟨rfl, hn⟩, fun _ => by omega⟩
        · rw [if_neg e]
          exact ⟨.inl, fun h => h.resolve_right (fun h => e h.1.symm)⟩
      · rw [if_neg hn]
        exact ⟨.inl, fun h => h.resolve_right (fun h => hn (h.1 ▸ h.2))⟩
    rw [h4]
    constructor
    · rintro ((h | h) | h)
      · exact .inl h
      · exact .inr ⟨.inl h.1, h.2⟩
      · exact .inr ⟨.inr h.1, h.2⟩
    · rintro (h | ⟨h | h, h'⟩)
      · exact .inl (.inl h)
      · exact .inl (.inr ⟨h, h'⟩)
      · exact .inr ⟨h, h'⟩
theorem swF_pos {xs : List Int} (L : List (List Nat)) (h8 : ∀ s ∈ L, s.length ≤ 8) : ∀ (acc : List Int) (B : Int), (∀ j, 0 ≤ gi acc j ∧ gi acc j ≤ B) → B + 8 * L.length ≤ 1000000000 →
    (∀ j, 0 ≤ gi (L.foldl (sw xs) acc) j) ∧ ∀ j, j < acc.length → (0 < gi (L.foldl (sw xs) acc) j ↔ 0 < gi acc j ∨ ∃ s ∈ L, j ∈ s ∧ need xs s j = true) := by
  induction L with
  | nil => intro acc B hB _; exact ⟨fun j => (hB j).1, fun j hj => by simp⟩
  | cons s L ih =>
    intro acc B hB hl
    simp only [List.length_cons] at hl
    have hs := h8 s (by simp)
    obtain ⟨h1, h2⟩ := swp_pos (xs := xs) (s := s) s acc B hB (by omega)
    obtain ⟨h3, h4⟩ := ih (fun t ht => h8 t (by simp [ht])) (sw xs acc s) (B + 8) (fun j => by have := h1 j; exact ⟨this.1, by show gi (swp xs s acc s) j ≤ B + 8; omega⟩) (by omega)
    refine ⟨h3, fun j hj => ?_⟩
    have h5 := h4 j (by unfold sw; rw [swp_len]; exact hj)
    rw [List.foldl_cons, h5]
    have h6 : 0 < gi (sw xs acc s) j ↔ _ := h2 j hj
    rw [h6]
    constructor
    · rintro ((h | h) | ⟨t, ht, h⟩)
      · exact .inl h
      · exact .inr ⟨s, by simp, h⟩
      · exact .inr ⟨t, by simp [ht], h⟩
    · rintro (h | ⟨t, ht, h⟩)
      · exact .inl (.inl h)
      · rcases List.mem_cons.1 ht with rfl | ht
        · exact .inl (.inr h)
        · exact .inr ⟨t, ht, h⟩
theorem need_sel {xs : List Int} (g : Cx xs) (f : Nat → Bool) (i : Nat) : need xs (sel xs.length f) i = true ↔ Wn xs f ∧ 2 * (sF xs f xs.length - gi xs i) ≤ wsum xs := by
  have h1 := wn_sel g f
  have h2 := cr_sel g f i
  unfold wnB at h1
  unfold crB at h2
  rw [Int.toNat_natCast] at h2
  unfold need
  rw [Bool.and_eq_true, h1, h2]
theorem swings_ok {xs : List Int} (g : Cx xs) (i : Nat) (hi : i < xs.length) : 0 ≤ gi (swR xs) i ∧ (0 < gi (swR xs) i ↔ ∃ s ∈ LC xs, (i : Int) ∈ s) := by
  have e : swR xs = swings xs := by rw [swR, if_pos g.ok]
  rw [e]
  unfold swings
  have hz : ∀ j, gi (List.replicate xs.length (0 : Int)) j = 0 := fun j => by
    by_cases h : j < xs.length <;> simp [gi, h]
  obtain ⟨h1, h2⟩ := swF_pos (xs := xs) ((List.range (2 ^ xs.length)).map (maskS xs.length)) (fun s hs => by
    obtain ⟨m, _, rfl⟩ := List.mem_map.1 hs
    exact Nat.le_trans (maskS_len _ _) g.n8) (List.replicate xs.length 0) 0 (fun j => by rw [hz]; omega) (by have := pow2_le xs.length g.n8; simp; omega)
  refine ⟨h1 i, ?_⟩
  rw [h2 i (by simpa using hi), hz]
  constructor
  · rintro (h | ⟨s, hs, hm, hn⟩)
    · omega
    · obtain ⟨m, _, rfl⟩ := List.mem_map.1 hs
      rw [maskS_sel] at hm hn
      obtain ⟨hw, hc⟩ := (need_sel g (bt m) i).1 hn
      obtain ⟨f, k1, k2, k3, k4⟩ := min_of g hw
      refine ⟨_, k4, mem_nI.2 ⟨i, mem_sel.2 ⟨hi, ?_⟩, rfl⟩⟩
      cases hfi : f i with
      | true => rfl
      | false =>
        exfalso
        have h3 := sF_wo xs (bt m) i (mem_sel.1 hm).2 xs.length
        rw [if_pos hi] at h3
        have h4 := sF_mono g (f := f) (h := wo (bt m) i) xs.length (fun j hj hf => by
          simp only [wo, Bool.and_eq_true, decide_eq_true_eq]
          exact ⟨k1 j hj hf, fun e => by subst e; rw [hfi] at hf; cases hf⟩)
        unfold Wn at k2
        omega
  · rintro ⟨s, hs, hm⟩
    obtain ⟨f, rfl, hw, hmn⟩ := (mem_LC g).1 hs
    obtain ⟨j, hj, e⟩ := mem_nI.1 hm
    obtain rfl : i = j := by omega
    have hj2 := mem_sel.1 hj
    obtain ⟨m, hm2, e2⟩ := row_sel g.n8 (sel_mem g.n8 f)
    refine .inr ⟨maskS xs.length m, List.mem_map.2 ⟨m, by simpa using hm2, rfl⟩, ?_, ?_⟩
    · rw [maskS_sel, ← e2]; exact hj
    · rw [maskS_sel, ← e2]; exact (need_sel g f i).2 ⟨hw, hmn i hj2.1 hj2.2⟩
/-! ### a drawn set -/
theorem within_ok {xs : List Int} (g : Cx xs) (d : Nat → Bool) : (∃ s ∈ LC xs, ∀ y ∈ s, y ∈ nI (sel xs.length d)) ↔ Wn xs d := by
  constructor
  · rintro ⟨s, hs, h⟩
    obtain ⟨f, rfl, hw, _⟩ := (mem_LC g).1 hs
    have := sF_mono g (f := f) (h := d) xs.length (fun i hi hf => by
      obtain ⟨j, hj, e⟩ := mem_nI.1 (h _ (mem_nI.2 ⟨i, mem_sel.2 ⟨hi, hf⟩, rfl⟩))
      obtain rfl : i = j := by omega
      exact (mem_sel.1 hj).2)
    unfold Wn at hw ⊢
    omega
  · intro h
    obtain ⟨f, k1, k2, k3, k4⟩ := min_of g h
    refine ⟨_, k4, fun y hy => ?_⟩
    obtain ⟨i, hi, rfl⟩ := mem_nI.1 hy
    have := mem_sel.1 hi
    exact mem_nI.2 ⟨i, mem_sel.2 ⟨this.1, k1 i this.1 this.2⟩, rfl⟩
end Go.Proofs.Ytpjjjonplikilaa

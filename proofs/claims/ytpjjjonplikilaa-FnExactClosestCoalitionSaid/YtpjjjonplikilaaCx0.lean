/- the closest coalition: the order of the sets; no program in sight -/
import Derived.Test.YtpjjjonplikilaaC2
import Derived.Test.YtpjjjonplikilaaZ4
set_option linter.unusedVariables false
set_option linter.unusedSimpArgs false
namespace Go.Proofs.Ytpjjjonplikilaa
open Go.AG

/-- which of two lists of the same length comes first -/
def lxN : List Nat → List Nat → Bool
  | a :: x, b :: y => if Nat.beq a b then lxN x y else Nat.blt a b
  | _, _ => false
def bfN (x y : List Nat) : Bool := if Nat.beq x.length y.length then lxN x y else Nat.blt x.length y.length
theorem lxN_irr : ∀ x, lxN x x = false
  | [] => rfl
  | a :: x => by simp [lxN, lxN_irr x]
theorem bfN_irr (x : List Nat) : bfN x x = false := by simp [bfN, lxN_irr]
theorem lxN_trans : ∀ (x y z : List Nat), lxN x y = true → lxN y z = true → lxN x z = true
  | [], _, _, h, _ => by simp [lxN] at h
  | _ :: _, [], _, h, _ => by simp [lxN] at h
  | _ :: _, _ :: _, [], _, h => by simp [lxN] at h
  | a :: x, b :: y, c :: z, h1, h2 => by
    simp only [lxN] at h1 h2 ⊢
    by_cases e1 : a = b
    · subst e1
      rw [if_pos (by simp)] at h1
      by_cases e2 : a = c
      · subst e2
        rw [if_pos (by simp)] at h2 ⊢
        exact lxN_trans x y z h1 h2
      · rw [if_neg (by simpa using e2)] at h2 ⊢
        exact h2
    · rw [if_neg (by simpa using e1)] at h1
      have l1 : a < b := by simpa using h1
      by_cases e2 : b = c
      · subst e2
        rw [if_neg (by simpa using e1)]
        exact h1
      · rw [if_neg (by simpa using e2)] at h2
        have l2 : b < c := by simpa using h2
        rw [if_neg (by simp; omega)]
        simp; omega
theorem bfN_trans {x y z : List Nat} (h1 : bfN x y = true) (h2 : bfN y z = true) : bfN x z = true := by
  unfold bfN at h1 h2 ⊢
  by_cases e1 : x.length = y.length
  · rw [if_pos (by simpa using e1)] at h1
    by_cases e2 : y.length = z.length
    · rw [if_pos (by simpa using e2)] at h2
      rw [if_pos (by simp; omega)]
      exact lxN_trans _ _ _ h1 h2
    · rw [if_neg (by simpa using e2)] at h2
      have : y.length < z.length := by simpa using h2
      rw [if_neg (by simp; omega)]
      simp; omega
  · rw [if_neg (by simpa using e1)] at h1
    have l1 : x.length < y.length := by simpa using h1
    by_cases e2 : y.length = z.length
    · rw [if_neg (by simp; omega)]
      simp; omega
    · rw [if_neg (by simpa using e2)] at h2
      have : y.length < z.length := by simpa using h2
      rw [if_neg (by simp; omega)]
      simp; omega
/-- neighbours are in order -/
def adjB : List (List Nat) → Bool
  | a :: b :: r => bfN a b && adjB (b :: r)
  | _ => true
theorem adj_all : ((List.range 9).all fun n => adjB (subs n (2 ^ n))) = true := by kernel_rfl
theorem adj_lt : ∀ (L : List (List Nat)), adjB L = true → ∀ i j (hi : i < L.length) (hj : j < L.length), i < j → bfN L[i] L[j] = true
  | [], _, i, _, hi, _, _ => by simp at hi
  | [_], _, i, j, hi, hj, h => by simp at hj; omega
  | a :: b :: r, h, i, j, hi, hj, hij => by
    simp only [adjB, Bool.and_eq_true] at h
    cases i with
    | zero =>
      cases j with
      | zero => omega
      | succ j =>
        cases j with
        | zero => exact h.1
        | succ j => exact bfN_trans h.1 (adj_lt (b :: r) h.2 0 (j + 1) (by simp) (by simpa using hj) (by omega))
    | succ i =>
      cases j with
      | zero => omega
      | succ j => exact adj_lt (b :: r) h.2 i j (by simpa using hi) (by simpa using hj) (by omega)
theorem subs_lt {n : Nat} (hn : n ≤ 8) (i j : Nat) (hi : i < (subs n (2 ^ n)).length) (hj : j < (subs n (2 ^ n)).length) : bfN (subs n (2 ^ n))[i] (subs n (2 ^ n))[j] = true ↔ i < j := by
  have h := adj_lt _ (List.all_eq_true.1 adj_all n (List.mem_range.2 (by omega)))
  constructor
  · intro hb
    apply Classical.byContradiction
    intro g
    by_cases e : i = j
    · subst e
      rw [bfN_irr] at hb; cases hb
    · have := bfN_trans hb (h j i hj hi (by omega))
      rw [bfN_irr] at this; cases this
  · exact h i j hi hj
/-! lists of integers -/
def lxI : List Int → List Int → Bool
  | a :: x, b :: y => if a = b then lxI x y else decide (a < b)
  | _, _ => false
def bfI (x y : List Int) : Bool := if x.length = y.length then lxI x y else decide (x.length < y.length)
theorem lxI_nI : ∀ x y, lxI (nI x) (nI y) = lxN x y
  | [], _ => by simp [nI, lxI, lxN]
  | _ :: _, [] => by simp [nI, lxI, lxN]
  | a :: x, b :: y => by
    have ih := lxI_nI x y
    simp only [nI, List.map_cons, lxI, lxN] at ih ⊢
    rw [ih]
    by_cases e : a = b
    · subst e; simp
    · rw [if_neg (by omega), if_neg (by simpa using e)]
      rw [Bool.eq_iff_iff]
      simp only [decide_eq_true_eq, Nat.blt_eq]
      omega
theorem bfI_nI (x y : List Nat) : bfI (nI x) (nI y) = bfN x y := by
  unfold bfI bfN
  rw [nI_len, nI_len, lxI_nI]
  by_cases e : x.length = y.length
  · rw [if_pos e, if_pos (by simpa using e)]
  · rw [if_neg e, if_neg (by simpa using e)]
    rw [Bool.eq_iff_iff]
    simp only [decide_eq_true_eq, Nat.blt_eq]
/-- from an index on -/
theorem lxI_drop (x y : List Int) (hl : x.length = y.length) (k : Nat) (hk : k < x.length) : lxI (x.drop k) (y.drop k) = if gi x k = gi y k then lxI (x.drop (k + 1)) (y.drop (k + 1)) else decide (gi x k < gi y k) := by
  rw [List.drop_eq_getElem_cons hk, List.drop_eq_getElem_cons (show k < y.length by omega), lxI, gi_lt _ _ hk, gi_lt _ _ (show k < y.length by omega)]
theorem lxI_end (x y : List Int) (k : Nat) (hk : x.length ≤ k) : lxI (x.drop k) (y.drop k) = false := by
  rw [List.drop_of_length_le hk]; rfl
/-! the best set: the least sum, then the first -/
structure BsI (xs : List Int) (L : List (List Int)) (j : Nat) (m : Int) : Prop where
  hj : j < L.length
  hw : wnB xs (gr L j) = true
  hm : mand xs (gr L j) = m
  hle : ∀ i, i < L.length → wnB xs (gr L i) = true → m ≤ mand xs (gr L i)
  hfst : ∀ i, i < j → wnB xs (gr L i) = true → m < mand xs (gr L i)
theorem BsI.uniq {xs : List Int} {L : List (List Int)} {j j' : Nat} {m m' : Int} (h : BsI xs L j m) (h' : BsI xs L j' m') : j = j' ∧ m = m' := by
  have h1 := h.hle j' h'.hj h'.hw
  have h2 := h'.hle j h.hj h.hw
  rw [h'.hm] at h1
  rw [h.hm] at h2
  have e : m = m' := by omega
  refine ⟨?_, e⟩
  rcases Nat.lt_trichotomy j j' with g | g | g
  · have := h'.hfst j g h.hw
    rw [h.hm] at this; omega
  · exact g
  · have := h.hfst j' g h'.hw
    rw [h'.hm] at this; omega
/-- the best of the masks below k -/
structure BmI (xs : List Int) (k b : Nat) (m : Int) : Prop where
  hb : 1 ≤ b ∧ b < k
  hw : wnB xs (nI (maskS xs.length b)) = true
  hm : mand xs (nI (maskS xs.length b)) = m
  hp : 0 ≤ m
  hle : ∀ i, 1 ≤ i → i < k → wnB xs (nI (maskS xs.length i)) = true → m < mand xs (nI (maskS xs.length i)) ∨ (m = mand xs (nI (maskS xs.length i)) ∧ bfI (nI (maskS xs.length i)) (nI (maskS xs.length b)) = false)
/-- no mask below k, or the best one -/
def BmS (xs : List Int) (k : Nat) (best : List Int) (m : Int) : Prop :=
  (m = -1 ∧ best = [] ∧ ∀ i, 1 ≤ i → i < k → wnB xs (nI (maskS xs.length i)) = false) ∨ ∃ b, best = nI (maskS xs.length b) ∧ BmI xs k b m
theorem mand_mask {xs : List Int} (g : Cx xs) (b : Nat) : 0 ≤ mand xs (nI (maskS xs.length b)) := by
  rw [maskS_sel, mand_sel g]
  exact (sF_bd g _ _).1
theorem bfI_trans {x y z : List Nat} (h1 : bfI (nI x) (nI y) = true) (h2 : bfI (nI y) (nI z) = true) : bfI (nI x) (nI z) = true := by
  rw [bfI_nI] at *
  exact bfN_trans h1 h2
theorem BmS.zero (xs : List Int) : BmS xs 1 [] (-1) := .inl ⟨rfl, rfl, fun i h1 h2 => by omega⟩
theorem BmS.take {xs : List Int} (g : Cx xs) {k : Nat} {best : List Int} {m : Int} (h : BmS xs k best m) (hk : 1 ≤ k) (hw : wnB xs (nI (maskS xs.length k)) = true)
    (hc : m < 0 ∨ mand xs (nI (maskS xs.length k)) < m ∨ (mand xs (nI (maskS xs.length k)) = m ∧ bfI (nI (maskS xs.length k)) best = true)) : BmS xs (k + 1) (nI (maskS xs.length k)) (mand xs (nI (maskS xs.length k))) := by
  refine .inr ⟨k, rfl, by omega, hw, rfl, mand_mask g k, fun i hi1 hi2 hiw => ?_⟩
  have self : bfI (nI (maskS xs.length k)) (nI (maskS xs.length k)) = false := by rw [bfI_nI, bfN_irr]
  by_cases e : i = k
  · subst e; exact .inr ⟨rfl, self⟩
  · rcases h with ⟨_, _, h3⟩ | ⟨b, rfl, B⟩
    · rw [h3 i hi1 (by omega)] at hiw; cases hiw
    · have hp := B.hp
      rcases B.hle i hi1 (by omega) hiw with q | ⟨q1, q2⟩
      · left
        rcases hc with c | c | ⟨c, _⟩ <;> omega
      · rcases hc with c | c | ⟨c1, c2⟩
        · omega
        · left; omega
        · right
          refine ⟨by omega, ?_⟩
          rw [← Bool.not_eq_true]
          intro hb
          rw [bfI_trans hb c2] at q2; cases q2
theorem BmS.keep {xs : List Int} {k : Nat} {best : List Int} {m : Int} (h : BmS xs k best m)
    (hc : wnB xs (nI (maskS xs.length k)) = true → 0 ≤ m ∧ m ≤ mand xs (nI (maskS xs.length k)) ∧ (mand xs (nI (maskS xs.length k)) = m → bfI (nI (maskS xs.length k)) best = false)) : BmS xs (k + 1) best m := by
  rcases h with ⟨rfl, rfl, h3⟩ | ⟨b, rfl, B⟩
  · refine .inl ⟨rfl, rfl, fun i h1 h2 => ?_⟩
    by_cases e : i = k
    · subst e
      cases hw : wnB xs (nI (maskS xs.length i)) with
      | false => rfl
      | true => have := (hc hw).1; omega
    · exact h3 i h1 (by omega)
  · have hb := B.hb
    refine .inr ⟨b, rfl, by omega, B.hw, B.hm, B.hp, fun i h1 h2 hw => ?_⟩
    by_cases e : i = k
    · subst e
      obtain ⟨_, q2, q3⟩ := hc hw
      by_cases e2 : mand xs (nI (maskS xs.length i)) = m
      · exact .inr ⟨e2.symm, q3 e2⟩
      · left; omega
    · exact B.hle i h1 (by omega) hw
/-- the best of all masks is the first best of all sets -/
theorem BmS.best {xs : List Int} (g : Cx xs) (hx : xs.length ≤ 8) {best : List Int} {m : Int} (h : BmS xs (2 ^ xs.length) best m) : ∃ j, BsI xs (sI (subs xs.length (2 ^ xs.length))) j m ∧ gr (sI (subs xs.length (2 ^ xs.length))) j = best := by
  have hS := subs_ok xs.length hx
  have hlen : (sI (subs xs.length (2 ^ xs.length))).length = (subs xs.length (2 ^ xs.length)).length := by simp [sI]
  have hget : ∀ i (hi : i < (subs xs.length (2 ^ xs.length)).length), gr (sI (subs xs.length (2 ^ xs.length))) i = nI (subs xs.length (2 ^ xs.length))[i] := fun i hi => by simp [gr, sI, hi]
  -- each set is that of a mask, a winning one not that of the mask 0
  have hz : wnB xs (nI (maskS xs.length 0)) = false := by
    have h0 := g.pos
    rw [maskS_first]
    have e : mand xs (nI []) = 0 := rfl
    unfold wnB
    rw [e, decide_eq_false]
    rw [show IntKind.wrap .i64 (2 * 0) = 0 from rfl]
    omega
  have hmask : ∀ i (hi : i < (subs xs.length (2 ^ xs.length)).length), wnB xs (gr (sI (subs xs.length (2 ^ xs.length))) i) = true → ∃ b, 1 ≤ b ∧ b < 2 ^ xs.length ∧ (subs xs.length (2 ^ xs.length))[i] = maskS xs.length b := fun i hi hw => by
    obtain ⟨b, hb, e⟩ := List.mem_map.1 (hS.2.2.subset (List.getElem_mem hi))
    rw [List.mem_range] at hb
    refine ⟨b, ?_, hb, e.symm⟩
    rcases Nat.eq_zero_or_pos b with h0 | h0
    · rw [hget i hi, ← e, h0, hz] at hw; cases hw
    · exact h0
  have hfull : ∃ b, 1 ≤ b ∧ b < 2 ^ xs.length ∧ wnB xs (nI (maskS xs.length b)) = true := by
    obtain ⟨b, hb, e⟩ := bits_ex (fun _ => true) xs.length
    have hw : wnB xs (nI (maskS xs.length b)) = true := by
      have e2 : maskS xs.length b = sel xs.length (fun _ => true) := by
        rw [maskS_sel]
        unfold sel
        apply List.filter_congr
        intro i hi
        exact e i (List.mem_range.1 hi)
      rw [e2, wn_sel g]
      exact Wn_all g
    refine ⟨b, ?_, hb, hw⟩
    rcases Nat.eq_zero_or_pos b with h0 | h0
    · rw [h0, hz] at hw; cases hw
    · exact h0
  rcases h with ⟨_, _, h3⟩ | ⟨b, rfl, B⟩
  · obtain ⟨b, h1, h2, h4⟩ := hfull
    rw [h3 b h1 h2] at h4; cases h4
  · have hmem : maskS xs.length b ∈ subs xs.length (2 ^ xs.length) := hS.2.2.symm.subset (List.mem_map.2 ⟨b, List.mem_range.2 B.hb.2, rfl⟩)
    obtain ⟨j, hj, e⟩ := List.getElem_of_mem hmem
    refine ⟨j, ⟨by rw [hlen]; exact hj, by rw [hget j hj, e]; exact B.hw, by rw [hget j hj, e]; exact B.hm, fun i hi hw => ?_, fun i hi hw => ?_⟩, by rw [hget j hj, e]⟩
    · rw [hlen] at hi
      obtain ⟨b2, q1, q2, q3⟩ := hmask i hi hw
      rw [hget i hi, q3] at hw ⊢
      rcases B.hle b2 q1 q2 hw with q | ⟨q, _⟩ <;> omega
    · have hi2 : i < (subs xs.length (2 ^ xs.length)).length := by omega
      obtain ⟨b2, q1, q2, q3⟩ := hmask i hi2 hw
      have hlt := (subs_lt hx i j hi2 hj).2 hi
      rw [hget i hi2, q3] at hw ⊢
      rcases B.hle b2 q1 q2 hw with q | ⟨_, q⟩
      · exact q
      · rw [bfI_nI, ← q3, ← e, hlt] at q; cases q
end Go.Proofs.Ytpjjjonplikilaa

/- nets of ditches: the specification's pushes, greatest flow, narrow side -/
import Derived.Test.YtikhligjhmldhaaDoorFlo4
set_option linter.unusedVariables false
set_option linter.unusedSimpArgs false
namespace Go.Proofs.YtikhligjhmldhaaDoor
open Go.AG Go.Lib

attribute [local go_sem] beq_self_eq_true bne_self_eq_false Bool.not_true Bool.not_false wkO
theorem cls_dn {n : Nt} {F L : List Int} (h : Cls n F L n.ds.length) : ∀ p, p < L.length → Dn n F L (gi L p) n.ds.length := fun p hp k' hk' v hr => h k' hk' _ v hr (gi_mem L p hp)
theorem rises_ofN {xs : List Int} {lo hi : Int} (b : ∀ i, i < xs.length → lo ≤ gi xs i ∧ gi xs i ≤ hi) (r : ∀ i j, i < j → j < xs.length → gi xs i < gi xs j) : risesB xs lo hi = true := by
  refine decide_eq_true fun i hl => ?_
  unfold rok
  rw [show ((i : Int) - 1).toNat = i - 1 by omega]
  have h1 := b i hl
  simp only [Bool.and_eq_true, decide_eq_true_eq, Bool.not_eq_true', decide_eq_false_iff_not]
  refine ⟨h1, ?_⟩
  by_cases h0 : 0 < i
  · have := r (i - 1) i (by omega) hl; omega
  · omega
theorem ixs_memN (n : Nat) (q : Nat → Bool) (x : Int) : x ∈ ixs n q ↔ ∃ i : Nat, i < n ∧ q i = true ∧ x = i := by
  simp only [ixs, List.mem_map, List.mem_filter, List.mem_range]
  constructor
  · rintro ⟨i, ⟨h1, h2⟩, rfl⟩; exact ⟨i, h1, h2, rfl⟩
  · rintro ⟨i, h1, h2, rfl⟩; exact ⟨i, ⟨h1, h2⟩, rfl⟩
theorem ixs_srtN (n : Nat) (q : Nat → Bool) : (ixs n q).Pairwise (· < ·) := by
  induction n with
  | zero => simp [ixs]
  | succ n ih =>
    cases h : q n with
    | true =>
      rw [ixs_yes h, List.pairwise_append]
      refine ⟨ih, by simp, fun a ha b hb => ?_⟩
      obtain ⟨i, h1, _, rfl⟩ := (ixs_memN n q a).1 ha
      rw [List.mem_singleton.1 hb]; omega
    | false => rw [ixs_no h]; exact ih
theorem cuK_ext {n : Nt} (hn : NtF n) {S T : Int → Bool} (h : ∀ j : Int, 0 ≤ j → j < n.j → S j = T j) : ∀ k, k ≤ n.ds.length → cuK n.ds S k = cuK n.ds T k
  | 0, _ => rfl
  | k + 1, hk => by
    have ih := cuK_ext hn h k (by omega)
    have hd := hn.dt (k := k) (by omega)
    simp only [cuK, ih, h _ hd.a.1 hd.a.2, h _ hd.b.1 hd.b.2]
structure NarF (n : Nt) (from_ v : Int) (xs : List Int) : Prop where
  r : risesB xs 0 (n.j - 1) = true
  l : xs.length ≤ 10
  f : from_ ∈ xs
  z : ¬ (0 : Int) ∈ xs
  M : Most n from_ v (inS9 xs)
theorem nar_of {n : Nt} (hn : NtF n) {m : Nat} (hm : (m : Int) = n.j) {from_ v : Int} (hfr : 1 ≤ from_ ∧ from_ < n.j) {L : List Int} (hM : Most n from_ v (fun j => decide (j ∈ L))) : NarF n from_ v (ixs m (gb (usd m L))) := by
  have hj := hn.j
  have hmem : ∀ j : Int, 0 ≤ j → j < n.j → (j ∈ ixs m (gb (usd m L)) ↔ j ∈ L) := fun j h1 h2 => by
    rw [ixs_memN]
    constructor
    · rintro ⟨i, hi, hq, rfl⟩
      rw [usd_get m L i hi] at hq
      exact of_decide_eq_true hq
    · intro hl
      refine ⟨j.toNat, by omega, ?_, by omega⟩
      rw [usd_gb m L j (by omega)]
      exact decide_eq_true hl
  have hS : ∀ j : Int, 0 ≤ j → j < n.j → inS9 (ixs m (gb (usd m L))) j = decide (j ∈ L) := fun j h1 h2 => by
    unfold inS9
    exact decide_eq_decide.2 (hmem j h1 h2)
  have hlen := ixs_len m (gb (usd m L))
  refine ⟨rises_ofN (fun i hi => ?_) (fun i j h1 h2 => ?_), by omega, ?_, ?_, ?_⟩
  · obtain ⟨k, k1, k2, k3⟩ := (ixs_memN _ _ _).1 (gi_mem _ _ hi)
    omega
  · have := List.pairwise_iff_getElem.1 (ixs_srtN m (gb (usd m L))) i j (by omega) h2 h1
    rw [gi_lt _ _ (by omega), gi_lt _ _ h2]; exact this
  · exact (hmem from_ (by omega) hfr.2).2 (of_decide_eq_true hM.S1)
  · intro h
    have := (hmem 0 (by omega) (by omega)).1 h
    have h0 := of_decide_eq_false hM.S0
    exact h0 this
  · refine ⟨by rw [hS from_ (by omega) hfr.2]; exact hM.S1, by rw [hS 0 (by omega) (by omega)]; exact hM.S0, hM.F, ?_⟩
    rw [cuK_ext hn hS _ (Nat.le_refl _)]
    exact hM.c
end Go.Proofs.YtikhligjhmldhaaDoor

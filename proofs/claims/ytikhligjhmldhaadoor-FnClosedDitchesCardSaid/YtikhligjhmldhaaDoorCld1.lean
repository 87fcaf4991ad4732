/- nets with a ditch less: plain law -/
import Derived.Test.YtikhligjhmldhaaDoorFlo1
set_option linter.unusedVariables false
set_option linter.unusedSimpArgs false
namespace Go.Proofs.YtikhligjhmldhaaDoor
open Go.AG Go.Lib

def woL (ds : List Dt) (k : Nat) : List Dt := ds.take k ++ ds.drop (k + 1)
def wo (n : Nt) (k : Nat) : Nt := ⟨n.j, woL n.ds k⟩
def adN9 (n : Nt) (d : Dt) : Nt := ⟨n.j, n.ds ++ [d]⟩
theorem woL_len (ds : List Dt) (k : Nat) (h : k < ds.length) : (woL ds k).length = ds.length - 1 := by
  simp [woL]; omega
theorem woL_snoc (ds : List Dt) (d : Dt) : woL (ds ++ [d]) ds.length = ds := by
  unfold woL
  rw [List.take_append_of_le_length (Nat.le_refl _), List.take_length, List.drop_eq_nil_of_le (by simp), List.append_nil]
theorem wo_ad (n : Nt) (d : Dt) : wo (adN9 n d) n.ds.length = n := by
  unfold wo adN9
  simp only [woL_snoc]
theorem gDt_wo1 (ds : List Dt) (k : Nat) (h : k < ds.length) (i : Nat) (hi : i < k) : gDt (woL ds k) i = gDt ds i := by
  have hl := woL_len ds k h
  rw [gDt_lt _ _ (by omega), gDt_lt _ _ (by omega)]
  unfold woL
  rw [List.getElem_append_left (by simp; omega)]
  simp
theorem gDt_wo2 (ds : List Dt) (k : Nat) (h : k < ds.length) (i : Nat) (hi : k ≤ i) (hi2 : i + 1 < ds.length) : gDt (woL ds k) i = gDt ds (i + 1) := by
  have hl := woL_len ds k h
  rw [gDt_lt _ _ (by omega), gDt_lt _ _ hi2]
  unfold woL
  rw [List.getElem_append_right (by simp; omega)]
  simp only [List.getElem_drop, List.length_take]
  congr 1
  omega
def inF (F : List Int) (k m : Nat) : List Int := (List.range m).map fun i => if i < k then gi F i else if i = k then 0 else gi F (i - 1)
theorem gi_inF (F : List Int) (k m i : Nat) (h : i < m) : gi (inF F k m) i = if i < k then gi F i else if i = k then 0 else gi F (i - 1) := by
  rw [gi_lt _ _ (by simp [inF]; exact h)]
  simp [inF]
theorem ouE_0 (d : Dt) (j : Int) : ouE d 0 j = 0 := by
  unfold ouE
  split
  · rfl
  · split <;> simp
theorem ouK_lo (ds : List Dt) (F : List Int) (j : Int) (k : Nat) (h : k < ds.length) : ∀ i, i ≤ k → ouK ds (inF F k ds.length) j i = ouK (woL ds k) F j i
  | 0, _ => rfl
  | i + 1, hi => by
    simp only [ouK]
    rw [ouK_lo ds F j k h i (by omega), gi_inF _ _ _ _ (by omega), if_pos (by omega), gDt_wo1 ds k h i (by omega)]
theorem ouK_hi (ds : List Dt) (F : List Int) (j : Int) (k : Nat) (h : k < ds.length) : ∀ i, k ≤ i → i + 1 ≤ ds.length → ouK ds (inF F k ds.length) j (i + 1) = ouK (woL ds k) F j i := by
  intro i
  induction i with
  | zero =>
    intro h1 h2
    obtain rfl : k = 0 := by omega
    have e := ouK_lo ds F j 0 h 0 (Nat.le_refl _)
    simp only [ouK] at e ⊢
    rw [gi_inF _ _ _ _ (by omega), if_neg (by omega), if_pos rfl, ouE_0]; rfl
  | succ i ih =>
    intro h1 h2
    by_cases e : k = i + 1
    · subst e
      have e := ouK_lo ds F j (i + 1) h (i + 1) (Nat.le_refl _)
      have : ouK ds (inF F (i + 1) ds.length) j (i + 1 + 1) = ouK ds (inF F (i + 1) ds.length) j (i + 1) + ouE (gDt ds (i + 1)) (gi (inF F (i + 1) ds.length) (i + 1)) j := rfl
      rw [this, e, gi_inF _ _ _ _ (by omega), if_neg (by omega), if_pos rfl, ouE_0, Int.add_zero]
    · have i1 := ih (by omega) (by omega)
      have : ouK ds (inF F k ds.length) j (i + 1 + 1) = ouK ds (inF F k ds.length) j (i + 1) + ouE (gDt ds (i + 1)) (gi (inF F k ds.length) (i + 1)) j := rfl
      rw [this, i1, gi_inF _ _ _ _ (by omega), if_neg (by omega), if_neg (by omega)]
      have : ouK (woL ds k) F j (i + 1) = ouK (woL ds k) F j i + ouE (gDt (woL ds k) i) (gi F i) j := rfl
      rw [this, gDt_wo2 ds k h i (by omega) (by omega), Nat.add_sub_cancel]
theorem ou_wo (n : Nt) (F : List Int) (j : Int) (k : Nat) (h : k < n.ds.length) : ou n (inF F k n.ds.length) j = ou (wo n k) F j := by
  unfold ou
  have hl := woL_len n.ds k h
  have e := ouK_hi n.ds F j k h (n.ds.length - 1) (by omega) (by omega)
  rw [show n.ds.length - 1 + 1 = n.ds.length by omega] at e
  rw [e]
  unfold wo
  rw [hl]
theorem cuK_lo (ds : List Dt) (S : Int → Bool) (k : Nat) (h : k < ds.length) : ∀ i, i ≤ k → cuK ds S i = cuK (woL ds k) S i
  | 0, _ => rfl
  | i + 1, hi => by
    simp only [cuK]
    rw [cuK_lo ds S k h i (by omega), gDt_wo1 ds k h i (by omega)]
def cuE (d : Dt) (S : Int → Bool) : Int := if S d.fr = true ∧ S d.tw = false then d.cp else 0
theorem cuK_hi (ds : List Dt) (S : Int → Bool) (k : Nat) (h : k < ds.length) : ∀ i, k ≤ i → i + 1 ≤ ds.length → cuK ds S (i + 1) = cuK (woL ds k) S i + cuE (gDt ds k) S := by
  intro i
  induction i with
  | zero =>
    intro h1 h2
    obtain rfl : k = 0 := by omega
    rfl
  | succ i ih =>
    intro h1 h2
    by_cases e : k = i + 1
    · subst e
      have e := cuK_lo ds S (i + 1) h (i + 1) (Nat.le_refl _)
      have : cuK ds S (i + 1 + 1) = cuK ds S (i + 1) + cuE (gDt ds (i + 1)) S := rfl
      rw [this, e]
    · have i1 := ih (by omega) (by omega)
      have : cuK ds S (i + 1 + 1) = cuK ds S (i + 1) + cuE (gDt ds (i + 1)) S := rfl
      rw [this, i1]
      have : cuK (woL ds k) S (i + 1) = cuK (woL ds k) S i + cuE (gDt (woL ds k) i) S := rfl
      rw [this, gDt_wo2 ds k h i (by omega) (by omega)]
      omega
theorem cu_wo (n : Nt) (S : Int → Bool) (k : Nat) (h : k < n.ds.length) : cuK n.ds S n.ds.length = cuK (wo n k).ds S (wo n k).ds.length + cuE (gDt n.ds k) S := by
  have hl := woL_len n.ds k h
  have e := cuK_hi n.ds S k h (n.ds.length - 1) (by omega) (by omega)
  rw [show n.ds.length - 1 + 1 = n.ds.length by omega] at e
  rw [e]
  unfold wo
  rw [hl]
theorem NtF.wo {n : Nt} (h : NtF n) (k : Nat) (hk : k < n.ds.length) : NtF (wo n k) := by
  have hl := woL_len n.ds k hk
  refine NtF.of h.j (by unfold Go.Proofs.YtikhligjhmldhaaDoor.wo; simp only [hl]; have := h.l; omega) (fun d hd => ?_)
  have : d ∈ n.ds := by
    unfold Go.Proofs.YtikhligjhmldhaaDoor.wo woL at hd
    rcases List.mem_append.1 hd with hd | hd
    · exact List.mem_of_mem_take hd
    · exact List.mem_of_mem_drop hd
  obtain ⟨i, hi, e⟩ := List.mem_iff_getElem.1 this
  rw [← e, ← gDt_lt _ _ hi]
  exact h.dt hi
theorem NtF.ad {n : Nt} (h : NtF n) (hl : n.ds.length < 20) {d : Dt} (hd : DtF n.j d) : NtF (adN9 n d) := by
  refine NtF.of h.j (by simp [adN9]; omega) (fun x hx => ?_)
  rcases List.mem_append.1 hx with hx | hx
  · obtain ⟨i, hi, e⟩ := List.mem_iff_getElem.1 hx
    rw [← e, ← gDt_lt _ _ hi]
    exact h.dt hi
  · rw [List.mem_singleton.1 hx]; exact hd
theorem Lf.wo {n : Nt} (hn : NtF n) {from_ : Int} {F : List Int} (k : Nat) (hk : k < n.ds.length) (h : Lf (wo n k) from_ F) : Lf n from_ (inF F k n.ds.length) := by
  have hl := woL_len n.ds k hk
  refine ⟨fun i hi => ?_, fun j h1 h2 => ?_⟩
  · rw [gi_inF _ _ _ _ hi]
    split
    · rename_i g
      have := h.f i (by unfold Go.Proofs.YtikhligjhmldhaaDoor.wo; simp only [hl]; omega)
      unfold Go.Proofs.YtikhligjhmldhaaDoor.wo at this
      rw [gDt_wo1 _ _ hk _ g] at this
      exact this
    · split
      · have := (hn.dt hi).c; omega
      · rename_i g1 g2
        have := h.f (i - 1) (by unfold Go.Proofs.YtikhligjhmldhaaDoor.wo; simp only [hl]; omega)
        unfold Go.Proofs.YtikhligjhmldhaaDoor.wo at this
        rw [gDt_wo2 _ _ hk _ (by omega) (by omega), show i - 1 + 1 = i by omega] at this
        exact this
  · rw [ou_wo _ _ _ _ hk]
    exact h.o j h1 h2
theorem Most.wo {n : Nt} (hn : NtF n) {from_ v w : Int} (hfr : 1 ≤ from_ ∧ from_ < n.j) {S T : Int → Bool} (k : Nat) (hk : k < n.ds.length) (h1 : Most (wo n k) from_ v S) (h2 : Most n from_ w T) : v ≤ w ∧ w ≤ v + (gDt n.ds k).cp := by
  constructor
  · obtain ⟨F, f1, f2⟩ := h1.F
    have := h2.le hn hfr (f1.wo hn k hk)
    rw [ou_wo _ _ _ _ hk, f2] at this
    exact this
  · obtain ⟨G, g1, g2⟩ := h2.F
    have a1 := ou_cut hn hfr g1 S h1.S1 h1.S0
    rw [cu_wo n S k hk, h1.c, g2] at a1
    have hc := (hn.dt hk).c
    unfold cuE at a1
    split at a1 <;> omega
theorem Most.nil {n : Nt} {from_ v : Int} {S : Int → Bool} (h : Most n from_ v S) (h0 : n.ds.length = 0) : v = 0 := by
  have := h.c
  rw [h0] at this
  exact this.symm
end Go.Proofs.YtikhligjhmldhaaDoor

/- the greatest averages: the plain law (no program in sight) -/
import Derived.Test.YtgkhkpmjgjdkhaaX5
import Derived.Test.YtgkhkpmjgjdkhaaAgR
set_option linter.unusedVariables false
set_option linter.unusedSimpArgs false
namespace Go.Proofs.Ytgkhkpmjgjdkhaa
open Go.AG

/-- the ones among the first j that no one of the first n goes before; R k i: i is at least as good as k -/
def bst (R : Nat → Nat → Bool) (n j : Nat) : List Nat := (List.range j).filter fun i => (List.range n).all fun k => R k i

theorem mem_bst {R : Nat → Nat → Bool} {n j i : Nat} : i ∈ bst R n j ↔ i < j ∧ ∀ k, k < n → R k i = true := by
  simp [bst]

theorem bst_succ_yes (R : Nat → Nat → Bool) (n j : Nat) (h : ∀ k, k < n → R k j = true) : bst R n (j + 1) = bst R n j ++ [j] := by
  unfold bst
  rw [List.range_succ, List.filter_append]
  congr 1
  rw [List.filter_cons, if_pos (by simpa using h)]
  rfl
theorem bst_succ_no (R : Nat → Nat → Bool) (n j : Nat) (h : ¬ ∀ k, k < n → R k j = true) : bst R n (j + 1) = bst R n j := by
  unfold bst
  rw [List.range_succ, List.filter_append]
  rw [show List.filter (fun i => (List.range n).all fun k => R k i) [j] = [] from by rw [List.filter_cons, if_neg (by simpa using h)]; rfl]
  simp

section
variable {R : Nat → Nat → Bool} {N : Nat} (tot : ∀ i k, i < N → k < N → R i k = true ∨ R k i = true) (tr : ∀ i k l, i < N → k < N → l < N → R i k = true → R k l = true → R i l = true)
include tot tr
/-- one more: it goes before all of the best so far -/
theorem bst_new {j t : Nat} (hj : j < N) (ht : t ∈ bst R j j) (h1 : R t j = true) (h2 : R j t = false) : bst R (j + 1) (j + 1) = [j] := by
  obtain ⟨htj, hb⟩ := mem_bst.1 ht
  have hjj : R j j = true := by have := tot j j hj hj; simpa using this
  rw [bst_succ_yes R (j + 1) j (fun k hk => by
    rcases Nat.lt_succ_iff_lt_or_eq.1 hk with h | h
    · exact tr k t j (by omega) (by omega) hj (hb k h) h1
    · rw [h]; exact hjj)]
  have : bst R (j + 1) j = [] := by
    apply List.eq_nil_iff_forall_not_mem.2
    intro i hi
    obtain ⟨hij, hi2⟩ := mem_bst.1 hi
    have : R j t = true := tr j i t hj (by omega) (by omega) (hi2 j (by omega)) (hb i hij)
    rw [h2] at this; cases this
  rw [this]; rfl
/-- one more: as good as the best so far -/
theorem bst_same {j t : Nat} (hj : j < N) (ht : t ∈ bst R j j) (h1 : R t j = true) (h2 : R j t = true) : bst R (j + 1) (j + 1) = bst R j j ++ [j] := by
  obtain ⟨htj, hb⟩ := mem_bst.1 ht
  have hjj : R j j = true := by have := tot j j hj hj; simpa using this
  rw [bst_succ_yes R (j + 1) j (fun k hk => by
    rcases Nat.lt_succ_iff_lt_or_eq.1 hk with h | h
    · exact tr k t j (by omega) (by omega) hj (hb k h) h1
    · rw [h]; exact hjj)]
  congr 1
  unfold bst
  apply List.filter_congr
  intro i hi
  have hi : i < j := by simpa using hi
  rw [List.range_succ, List.all_append]
  by_cases h : ((List.range j).all fun k => R k i) = true
  · have h3 : ∀ k, k < j → R k i = true := by simpa using h
    have : R j i = true := tr j t i hj (by omega) (by omega) h2 (h3 t htj)
    rw [h]; simp [this]
  · rw [Bool.not_eq_true] at h; rw [h]; rfl
/-- one more: not as good -/
theorem bst_old {j t : Nat} (hj : j < N) (ht : t ∈ bst R j j) (h1 : R t j = false) : bst R (j + 1) (j + 1) = bst R j j := by
  obtain ⟨htj, hb⟩ := mem_bst.1 ht
  have h2 : R j t = true := by have := tot j t hj (by omega); rw [h1] at this; simpa using this
  rw [bst_succ_no R (j + 1) j (fun h => by have := h t (by omega); rw [h1] at this; cases this)]
  unfold bst
  apply List.filter_congr
  intro i hi
  have hi : i < j := by simpa using hi
  rw [List.range_succ, List.all_append]
  by_cases h : ((List.range j).all fun k => R k i) = true
  · have h3 : ∀ k, k < j → R k i = true := by simpa using h
    have : R j i = true := tr j t i hj (by omega) (by omega) h2 (h3 t htj)
    rw [h]; simp [this]
  · rw [Bool.not_eq_true] at h; rw [h]; rfl
end
theorem bst_one {R : Nat → Nat → Bool} (h : R 0 0 = true) : bst R 1 1 = [0] := by
  simp [bst, List.range_succ, h]

/-- a party's votes by another's divisor, as Go reckons them -/
def pr (v h : List Int) (s : Int) (i k : Nat) : Int := IntKind.wrap .i64 (gi v i * IntKind.wrap .i64 (1 + IntKind.wrap .i64 (s * gi h k)))
def Rv (v h : List Int) (s : Int) (k i : Nat) : Bool := decide (pr v h s k i ≤ pr v h s i k)
def nx (v h : List Int) (s : Int) (n j : Nat) : List Int := (bst (Rv v h s) n j).map fun (i : Nat) => (i : Int)

structure AvOk (v h : List Int) (s : Int) : Prop where
  len : h.length = v.length
  le8 : v.length ≤ 8
  step : 1 ≤ s ∧ s ≤ 2
  votes : ∀ i, i < v.length → 0 ≤ gi v i ∧ gi v i ≤ 1000000
  has : ∀ i, i < v.length → 0 ≤ gi h i ∧ gi h i ≤ 60

def wt (h : List Int) (s : Int) (k : Nat) : Int := 1 + s * gi h k
theorem wt_ok {v h : List Int} {s : Int} (g : AvOk v h s) (k : Nat) (hk : k < v.length) : 1 ≤ wt h s k ∧ wt h s k ≤ 121 ∧ IntKind.wrap .i64 (1 + IntKind.wrap .i64 (s * gi h k)) = wt h s k := by
  have h1 := g.has k hk
  unfold wt
  rcases (show s = 1 ∨ s = 2 by have := g.step; omega) with rfl | rfl
  · rw [wrap_i64_id (1 * gi h k) (by omega), wrap_i64_id _ (by omega)]; omega
  · rw [wrap_i64_id (2 * gi h k) (by omega), wrap_i64_id _ (by omega)]; omega
theorem pr_eq {v h : List Int} {s : Int} (g : AvOk v h s) (i k : Nat) (hi : i < v.length) (hk : k < v.length) : pr v h s i k = gi v i * wt h s k := by
  obtain ⟨h1, h2, h3⟩ := wt_ok g k hk
  have h4 := g.votes i hi
  unfold pr
  rw [h3]
  apply wrap_i64_id
  have a1 : 0 ≤ gi v i * wt h s k := Int.mul_nonneg h4.1 (by omega)
  have a2 : gi v i * wt h s k ≤ 1000000 * 121 := Int.mul_le_mul h4.2 h2 (by omega) (by omega)
  omega
theorem Rv_tot {v h : List Int} {s : Int} (g : AvOk v h s) (i k : Nat) (hi : i < v.length) (hk : k < v.length) : Rv v h s i k = true ∨ Rv v h s k i = true := by
  unfold Rv; simp only [decide_eq_true_eq]; omega
theorem Rv_tr {v h : List Int} {s : Int} (g : AvOk v h s) (i k l : Nat) (hi : i < v.length) (hk : k < v.length) (hl : l < v.length) (h1 : Rv v h s i k = true) (h2 : Rv v h s k l = true) : Rv v h s i l = true := by
  unfold Rv at *
  simp only [decide_eq_true_eq] at *
  rw [pr_eq g _ _ hi hk, pr_eq g _ _ hk hi] at h1
  rw [pr_eq g _ _ hk hl, pr_eq g _ _ hl hk] at h2
  rw [pr_eq g _ _ hi hl, pr_eq g _ _ hl hi]
  obtain ⟨w1, _, _⟩ := wt_ok g i hi
  obtain ⟨w2, _, _⟩ := wt_ok g k hk
  obtain ⟨w3, _, _⟩ := wt_ok g l hl
  have a := Int.mul_le_mul_of_nonneg_right h1 (show 0 ≤ wt h s l by omega)
  have b := Int.mul_le_mul_of_nonneg_right h2 (show 0 ≤ wt h s i by omega)
  apply Int.le_of_mul_le_mul_right _ (show 0 < wt h s k by omega)
  calc gi v i * wt h s l * wt h s k = gi v i * wt h s k * wt h s l := by rw [Int.mul_assoc, Int.mul_comm (wt h s l), ← Int.mul_assoc]
    _ ≤ gi v k * wt h s i * wt h s l := a
    _ = gi v k * wt h s l * wt h s i := by rw [Int.mul_assoc, Int.mul_comm (wt h s i), ← Int.mul_assoc]
    _ ≤ gi v l * wt h s k * wt h s i := b
    _ = gi v l * wt h s i * wt h s k := by rw [Int.mul_assoc, Int.mul_comm (wt h s k), ← Int.mul_assoc]
theorem nx_len (v h : List Int) (s : Int) (n j : Nat) : (nx v h s n j).length ≤ j := by
  unfold nx bst
  rw [List.length_map]
  exact Nat.le_trans (List.length_filter_le _ _) (by simp)
theorem nx_zero (v h : List Int) (s : Int) (n : Nat) : nx v h s n 0 = [] := by simp [nx, bst]
theorem nx_mem {v h : List Int} {s : Int} {n j : Nat} {x : Int} (hx : x ∈ nx v h s n j) : ∃ i : Nat, x = i ∧ i ∈ bst (Rv v h s) n j := by
  unfold nx at hx
  obtain ⟨i, h1, h2⟩ := List.mem_map.1 hx
  exact ⟨i, h2.symm, h1⟩
theorem nx_snoc {v h : List Int} {s : Int} {n n' j j' k : Nat} (e : bst (Rv v h s) n j = bst (Rv v h s) n' j' ++ [k]) : nx v h s n j = nx v h s n' j' ++ [(k : Int)] := by
  unfold nx; rw [e, List.map_append]; rfl
theorem nx_one {v h : List Int} {s : Int} {n j k : Nat} (e : bst (Rv v h s) n j = [k]) : nx v h s n j = [(k : Int)] := by
  unfold nx; rw [e]; rfl
theorem nx_eq {v h : List Int} {s : Int} {n n' j j' : Nat} (e : bst (Rv v h s) n j = bst (Rv v h s) n' j') : nx v h s n j = nx v h s n' j' := by
  unfold nx; rw [e]
theorem nx_first {v h : List Int} {s : Int} : nx v h s 1 1 = [0] := by
  unfold nx; rw [bst_one (by simp [Rv])]; rfl
/-- the first of the best -/
theorem nx_top {v h : List Int} {s : Int} {n j : Nat} (hne : nx v h s n j ≠ []) : ∃ t : Nat, gi (nx v h s n j) 0 = t ∧ t < j ∧ t ∈ bst (Rv v h s) n j := by
  have h0 : 0 < (nx v h s n j).length := List.length_pos_iff.2 hne
  obtain ⟨t, h1, h2⟩ := nx_mem (gi_mem _ 0 h0)
  exact ⟨t, h1, (mem_bst.1 h2).1, h2⟩
end Go.Proofs.Ytgkhkpmjgjdkhaa

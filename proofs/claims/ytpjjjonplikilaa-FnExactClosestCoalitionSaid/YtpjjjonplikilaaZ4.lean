/- how many sets need each party: the walks -/
import Derived.Test.YtpjjjonplikilaaZ3
import Derived.Test.YtpjjjonplikilaaX9
set_option linter.unusedVariables false
set_option linter.unusedSimpArgs false
namespace Go.Proofs.Ytpjjjonplikilaa
open Go.AG

theorem maskS_first (n : Nat) : maskS n 0 = [] := by simp [maskS]
/-- the counts after the sets of the first m masks -/
def swm (xs : List Int) (m : Nat) : List Int := ((List.range m).map (maskS xs.length)).foldl (sw xs) (List.replicate xs.length 0)
theorem swm_one (xs : List Int) : swm xs 1 = List.replicate xs.length 0 := by
  unfold swm
  rw [swings_succ, maskS_first]; rfl
theorem swm_succ (xs : List Int) (m : Nat) : swm xs (m + 1) = sw xs (swm xs m) (maskS xs.length m) := swings_succ xs m
theorem swm_len (xs : List Int) (m : Nat) : (swm xs m).length = xs.length := by unfold swm; rw [sw_len]; simp
theorem swp_snoc (xs : List Int) (s : List Nat) (acc : List Int) (j : Nat) (h : j < s.length) : swp xs s acc (s.take (j + 1)) = sw1 xs s (swp xs s acc (s.take j)) s[j] := by
  rw [List.take_succ_eq_append_getElem h]; unfold swp; rw [List.foldl_append]; rfl
def swC (xs : List Int) : Int := if okV xs 60 = true then 0 else 1
def swR (xs : List Int) : List Int := if okV xs 60 = true then swings xs else []
theorem pow2_le (n : Nat) (h : n ≤ 8) : 2 ^ n ≤ 256 ∧ ((2 : Int) ^ n) = ((2 ^ n : Nat) : Int) ∧ 1 ≤ 2 ^ n := by
  refine ⟨Nat.le_trans (Nat.pow_le_pow_right (by omega) h) (by decide), by simp, Nat.one_le_two_pow⟩

theorem swI (xs : List Int) (h : xs.length ≤ 8) : (subs xs.length (2 ^ xs.length)).foldl (sw xs) (List.replicate xs.length 0) = swings xs := sw_perm xs (subs_ok xs.length h).2.2 _
/-- the counts after the first k sets of a list -/
def swk (xs : List Int) (L : List (List Nat)) (k : Nat) : List Int := (L.take k).foldl (sw xs) (List.replicate xs.length 0)
theorem swk_len (xs : List Int) (L : List (List Nat)) (k : Nat) : (swk xs L k).length = xs.length := by unfold swk; rw [sw_len]; simp
theorem swk_succ (xs : List Int) (L : List (List Nat)) (k : Nat) (h : k < L.length) : swk xs L (k + 1) = sw xs (swk xs L k) L[k] := by
  unfold swk
  rw [List.take_succ_eq_append_getElem h, List.foldl_append]; rfl
theorem subs_mem {n : Nat} (h : n ≤ 8) {s : List Nat} (hs : s ∈ subs n (2 ^ n)) : s.length ≤ 8 ∧ ∀ i ∈ s, i < n := by
  have h2 := (subs_ok n h).2.2.subset hs
  obtain ⟨m, _, rfl⟩ := List.mem_map.1 h2
  exact ⟨Nat.le_trans (maskS_len _ _) h, fun i hi => (mem_maskS.1 hi).1⟩

theorem swR_len (xs : List Int) (hl : xs.length ≤ 10000000) : (swR xs).length ≤ 10000000 := by
  unfold swR; split
  · unfold swings; rw [sw_len]; simpa using hl
  · simp
end Go.Proofs.Ytpjjjonplikilaa

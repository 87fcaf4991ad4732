/- how many sets need each party: the walks -/
import Derived.Test.YtkgfpephkinocaaZ3
import Derived.Test.YtkgfpephkinocaaX9
set_option linter.unusedVariables false
set_option linter.unusedSimpArgs false
namespace Go.Proofs.Ytkgfpephkinocaa
open Go.AG

theorem maskS_first (n : Nat) : maskS n 0 = [] := by simp [maskS]
/-- the counts after the sets of the first m masks -/
def swm (xs : List Int) (m : Nat) : List Int := ((List.range m).map (maskS xs.length)).foldl (sw xs) (List.replicate xs.length 0)
theorem swm_one (xs : List Int) : swm xs 1 = List.replicate xs.length 0 := by
  unfold swm
  rw [swings_succ, maskS_first]; rfl
theorem swm_succ (xs : List Int) (m : Nat) : swm xs (m + 1) = sw xs (swm xs m) (maskS xs.length m) := swings_succ xs m
theorem swm_len (xs : List Int) (m : Nat) : (swm xs m).length = xs.length := by unfold swm; rw [sw_len]; simp
theorem swp_snoc (xs : List Int) (s : List Nat) (acc : List Int) (j : Nat) (h : j < s.length) : swp xs s acc (s.take (j + 1)) = sw1 xs s (swp xs s acc (s.take j)) s[j] := by
  rw [List.take_succ_eq_append_getElem h]; unfold swp; rw [List.foldl_append]; rfl
def swC (xs : List Int) : Int := if okV xs 60 = true then 0 else 1
def swR (xs : List Int) : List Int := if okV xs 60 = true then swings xs else []
theorem pow2_le (n : Nat) (h : n ≤ 8) : 2 ^ n ≤ 256 ∧ ((2 : Int) ^ n) = ((2 ^ n : Nat) : Int) ∧ 1 ≤ 2 ^ n := by
  refine ⟨Nat.le_trans (Nat.pow_le_pow_right (by omega) h) (by decide), by simp, Nat.one_le_two_pow⟩

theorem swI (xs : List Int) (h : xs.length ≤ 8) : (subs xs.length (2 ^ xs.length)).foldl (sw xs) (List.replicate xs.length 0) = swings xs := sw_perm xs (subs_ok xs.length h).2.2 _
/-- the counts after the first k sets of a list -/
def swk (xs : List Int) (L : List (List Nat)) (k : Nat) : List Int := (L.take k).foldl (sw xs) (List.replicate xs.length 0)
theorem swk_len (xs : List Int) (L : List (List Nat)) (k : Nat) : (swk xs L k).length = xs.length := by unfold swk; rw [sw_len]; simp
theorem swk_succ (xs : List Int) (L : List (List Nat)) (k : Nat) (h : k < L.length) : swk xs L (k + 1) = sw xs (swk xs L k) L[k] := by
  unfold swk
  rw [List.take_succ_eq_append_getElem h, List.foldl_append]; rfl
theorem subs_mem {n : Nat} (h : n ≤ 8) {s : List Nat} (hs : s ∈ subs n (2 ^ n)) : s.length ≤ 8 ∧ ∀ i ∈ s, i < n := by
  have h2 := (subs_ok n h).2.2.subset hs
  obtain ⟨m, _, rfl⟩ := List.mem_map.1 h2
  exact ⟨Nat.le_trans (maskS_len _ _) h, fun i hi => (mem_maskS.1 hi).1⟩

set_option maxRecDepth 100000 in
set_option maxHeartbeats 4000000 in
theorem swing_ok (xs : List Int) (hx : xs.length ≤ 10000000) : ACalls Try.prog 12 [iS xs] [] (fun r o => r = .tup [.ref 0 0 (swR xs).length, I (swC xs)] ∧ o = [oI (swR xs)]) := by
  refine ACalls.of_vc Try.func12 rfl (by decide) 56 rfl [.tmp 2, .tmp 3] rfl (by simp) ?_
  (simp (maxSteps := 2000000) (disch := omega) only [go_sem, Nat.reduceEqDiff, Nat.reduceAdd, Nat.reduceMul, Nat.reduceSub, Int.reduceToNat, Int.reduceAdd, Int.reduceSub, Int.reduceMul, Int.reduceNeg]; repeat ((first | refine vIf_t ?_ | refine vIf_f ?_); simp (maxSteps := 2000000) (disch := omega) only [go_sem, Nat.reduceEqDiff, Nat.reduceAdd, Nat.reduceMul, Nat.reduceSub, Int.reduceToNat, Int.reduceAdd, Int.reduceSub, Int.reduceMul, Int.reduceNeg]))
  (refine vCallX_of ?_; (simp (maxSteps := 2000000) (disch := omega) only [go_sem, Nat.reduceEqDiff, Nat.reduceAdd, Nat.reduceMul, Nat.reduceSub, Int.reduceToNat, Int.reduceAdd, Int.reduceSub, Int.reduceMul, Int.reduceNeg]; repeat ((first | refine vIf_t ?_ | refine vIf_f ?_); simp (maxSteps := 2000000) (disch := omega) only [go_sem, Nat.reduceEqDiff, Nat.reduceAdd, Nat.reduceMul, Nat.reduceSub, Int.reduceToNat, Int.reduceAdd, Int.reduceSub, Int.reduceMul, Int.reduceNeg])); refine vCall_eq (am_ok xs hx) (by simp (disch := omega) only [go_sem, Nat.reduceAdd]) rfl (by first | exact Or.inl rfl | exact Or.inr ⟨rfl, rfl⟩ | (apply Or.inr; simp only [go_sem])) ?_; (simp (maxSteps := 2000000) (disch := omega) only [go_sem, Nat.reduceEqDiff, Nat.reduceAdd, Nat.reduceMul, Nat.reduceSub, Int.reduceToNat, Int.reduceAdd, Int.reduceSub, Int.reduceMul, Int.reduceNeg]; repeat ((first | refine vIf_t ?_ | refine vIf_f ?_); simp (maxSteps := 2000000) (disch := omega) only [go_sem, Nat.reduceEqDiff, Nat.reduceAdd, Nat.reduceMul, Nat.reduceSub, Int.reduceToNat, Int.reduceAdd, Int.reduceSub, Int.reduceMul, Int.reduceNeg])))
  refine vIf_not (fun hok => ?_) (fun hok => ?_)
  · (simp (maxSteps := 2000000) (disch := omega) only [go_sem, Nat.reduceEqDiff, Nat.reduceAdd, Nat.reduceMul, Nat.reduceSub, Int.reduceToNat, Int.reduceAdd, Int.reduceSub, Int.reduceMul, Int.reduceNeg]; repeat ((first | refine vIf_t ?_ | refine vIf_f ?_); simp (maxSteps := 2000000) (disch := omega) only [go_sem, Nat.reduceEqDiff, Nat.reduceAdd, Nat.reduceMul, Nat.reduceSub, Int.reduceToNat, Int.reduceAdd, Int.reduceSub, Int.reduceMul, Int.reduceNeg]))
    (refine retK_of ?_; (simp (maxSteps := 2000000) (disch := omega) only [go_sem, Nat.reduceEqDiff, Nat.reduceAdd, Nat.reduceMul, Nat.reduceSub, Int.reduceToNat, Int.reduceAdd, Int.reduceSub, Int.reduceMul, Int.reduceNeg]; repeat ((first | refine vIf_t ?_ | refine vIf_f ?_); simp (maxSteps := 2000000) (disch := omega) only [go_sem, Nat.reduceEqDiff, Nat.reduceAdd, Nat.reduceMul, Nat.reduceSub, Int.reduceToNat, Int.reduceAdd, Int.reduceSub, Int.reduceMul, Int.reduceNeg])))
    simp [swR, swC, hok, oI, ints]
  obtain ⟨g1, g2, g3, g4, g5⟩ := okV_sum (by omega) hok
  obtain ⟨p1, p2, p3⟩ := pow2_le xs.length g3
  (simp (maxSteps := 2000000) (disch := omega) only [go_sem, Nat.reduceEqDiff, Nat.reduceAdd, Nat.reduceMul, Nat.reduceSub, Int.reduceToNat, Int.reduceAdd, Int.reduceSub, Int.reduceMul, Int.reduceNeg]; repeat ((first | refine vIf_t ?_ | refine vIf_f ?_); simp (maxSteps := 2000000) (disch := omega) only [go_sem, Nat.reduceEqDiff, Nat.reduceAdd, Nat.reduceMul, Nat.reduceSub, Int.reduceToNat, Int.reduceAdd, Int.reduceSub, Int.reduceMul, Int.reduceNeg]))
  (refine vCallX_of ?_; (simp (maxSteps := 2000000) (disch := omega) only [go_sem, Nat.reduceEqDiff, Nat.reduceAdd, Nat.reduceMul, Nat.reduceSub, Int.reduceToNat, Int.reduceAdd, Int.reduceSub, Int.reduceMul, Int.reduceNeg]; repeat ((first | refine vIf_t ?_ | refine vIf_f ?_); simp (maxSteps := 2000000) (disch := omega) only [go_sem, Nat.reduceEqDiff, Nat.reduceAdd, Nat.reduceMul, Nat.reduceSub, Int.reduceToNat, Int.reduceAdd, Int.reduceSub, Int.reduceMul, Int.reduceNeg])); refine vCall_eq (size_ok (ints xs) xs.length) (by simp (disch := omega) only [go_sem, Nat.reduceAdd]) rfl (by first | exact Or.inl rfl | exact Or.inr ⟨rfl, rfl⟩ | (apply Or.inr; simp only [go_sem])) ?_; (simp (maxSteps := 2000000) (disch := omega) only [go_sem, Nat.reduceEqDiff, Nat.reduceAdd, Nat.reduceMul, Nat.reduceSub, Int.reduceToNat, Int.reduceAdd, Int.reduceSub, Int.reduceMul, Int.reduceNeg]; repeat ((first | refine vIf_t ?_ | refine vIf_f ?_); simp (maxSteps := 2000000) (disch := omega) only [go_sem, Nat.reduceEqDiff, Nat.reduceAdd, Nat.reduceMul, Nat.reduceSub, Int.reduceToNat, Int.reduceAdd, Int.reduceSub, Int.reduceMul, Int.reduceNeg])))
  (refine vCallX_of ?_; (simp (maxSteps := 2000000) (disch := omega) only [go_sem, Nat.reduceEqDiff, Nat.reduceAdd, Nat.reduceMul, Nat.reduceSub, Int.reduceToNat, Int.reduceAdd, Int.reduceSub, Int.reduceMul, Int.reduceNeg]; repeat ((first | refine vIf_t ?_ | refine vIf_f ?_); simp (maxSteps := 2000000) (disch := omega) only [go_sem, Nat.reduceEqDiff, Nat.reduceAdd, Nat.reduceMul, Nat.reduceSub, Int.reduceToNat, Int.reduceAdd, Int.reduceSub, Int.reduceMul, Int.reduceNeg])); refine vCall_eq (subsets_ok xs.length g3) (by simp (disch := omega) only [go_sem, Nat.reduceAdd]) rfl (by first | exact Or.inl rfl | exact Or.inr ⟨rfl, rfl⟩ | (apply Or.inr; simp only [go_sem])) ?_; (simp (maxSteps := 2000000) (disch := omega) only [go_sem, Nat.reduceEqDiff, Nat.reduceAdd, Nat.reduceMul, Nat.reduceSub, Int.reduceToNat, Int.reduceAdd, Int.reduceSub, Int.reduceMul, Int.reduceNeg]; repeat ((first | refine vIf_t ?_ | refine vIf_f ?_); simp (maxSteps := 2000000) (disch := omega) only [go_sem, Nat.reduceEqDiff, Nat.reduceAdd, Nat.reduceMul, Nat.reduceSub, Int.reduceToNat, Int.reduceAdd, Int.reduceSub, Int.reduceMul, Int.reduceNeg])))
  have hll := (subs_ok xs.length g3).2.1
  have hmem : ∀ k, (h : k < (subs xs.length (2 ^ xs.length)).length) → (subs xs.length (2 ^ xs.length))[k].length ≤ 8 ∧ ∀ i ∈ (subs xs.length (2 ^ xs.length))[k], i < xs.length := fun k h => subs_mem g3 (List.getElem_mem h)
  have hsw := swI xs g3
  generalize subs xs.length (2 ^ xs.length) = L at hll hmem hsw ⊢
  have hlq : (sI L).length = L.length := by simp [sI]
  refine vcLoop_inv (fun k : Nat => k ≤ 2 ^ xs.length) (fun k => ⟨56, 0, [(0, iS xs), (4, .ref 0 0 xs.length), (18, .ref 1 0 (2 ^ xs.length)), (19, I ((2 ^ xs.length : Nat) : Int)), (20, I k)], [oI (swk xs L k), some ⟨1, rws (sI L)⟩]⟩) (fun k => 2 ^ xs.length - k) 0 (by omega) (by (simp (maxSteps := 2000000) (disch := omega) only [go_sem, Nat.reduceEqDiff, Nat.reduceAdd, Nat.reduceMul, Nat.reduceSub, Int.reduceToNat, Int.reduceAdd, Int.reduceSub, Int.reduceMul, Int.reduceNeg]; repeat ((first | refine vIf_t ?_ | refine vIf_f ?_); simp (maxSteps := 2000000) (disch := omega) only [go_sem, Nat.reduceEqDiff, Nat.reduceAdd, Nat.reduceMul, Nat.reduceSub, Int.reduceToNat, Int.reduceAdd, Int.reduceSub, Int.reduceMul, Int.reduceNeg])); simp [swk]) ?_
  intro k hk
  have hl := swk_len xs L k
  unfold oI iS
  (simp (maxSteps := 2000000) (disch := omega) only [go_sem, Nat.reduceEqDiff, Nat.reduceAdd, Nat.reduceMul, Nat.reduceSub, Int.reduceToNat, Int.reduceAdd, Int.reduceSub, Int.reduceMul, Int.reduceNeg]; repeat ((first | refine vIf_t ?_ | refine vIf_f ?_); simp (maxSteps := 2000000) (disch := omega) only [go_sem, Nat.reduceEqDiff, Nat.reduceAdd, Nat.reduceMul, Nat.reduceSub, Int.reduceToNat, Int.reduceAdd, Int.reduceSub, Int.reduceMul, Int.reduceNeg]))
  refine vIf_dec (fun hc => ?_) (fun hc => ?_)
  · have hkl : k < L.length := by omega
    have hgr : gr (sI L) k = nI L[k] := by simp [gr, sI, hkl]
    obtain ⟨m1, m2⟩ := hmem k hkl
    have hss := swk_succ xs L k hkl
    generalize L[k] = s at m1 m2 hss hgr
    have hnl := nI_len s
    (simp (maxSteps := 2000000) (disch := omega) only [go_sem, Nat.reduceEqDiff, Nat.reduceAdd, Nat.reduceMul, Nat.reduceSub, Int.reduceToNat, Int.reduceAdd, Int.reduceSub, Int.reduceMul, Int.reduceNeg, hgr, hnl]; repeat ((first | refine vIf_t ?_ | refine vIf_f ?_); simp (maxSteps := 2000000) (disch := omega) only [go_sem, Nat.reduceEqDiff, Nat.reduceAdd, Nat.reduceMul, Nat.reduceSub, Int.reduceToNat, Int.reduceAdd, Int.reduceSub, Int.reduceMul, Int.reduceNeg, hgr, hnl]))
    refine vcLoop_inv (fun j : Nat => j ≤ s.length) (fun j => ⟨56, 0, [(0, iS xs), (4, .ref 0 0 xs.length), (18, .ref 1 0 (2 ^ xs.length)), (19, I ((2 ^ xs.length : Nat) : Int)), (20, I k), (6, .sl s.length (ints (nI s))), (24, .sl s.length (ints (nI s))), (25, I s.length), (26, I j)],
      [oI (swp xs s (swk xs L k) (s.take j)), some ⟨1, rws (sI L)⟩]⟩) (fun j => s.length - j) 0 (by omega) (by (simp (maxSteps := 2000000) (disch := omega) only [go_sem, Nat.reduceEqDiff, Nat.reduceAdd, Nat.reduceMul, Nat.reduceSub, Int.reduceToNat, Int.reduceAdd, Int.reduceSub, Int.reduceMul, Int.reduceNeg]; repeat ((first | refine vIf_t ?_ | refine vIf_f ?_); simp (maxSteps := 2000000) (disch := omega) only [go_sem, Nat.reduceEqDiff, Nat.reduceAdd, Nat.reduceMul, Nat.reduceSub, Int.reduceToNat, Int.reduceAdd, Int.reduceSub, Int.reduceMul, Int.reduceNeg])); simp [swp]) ?_
    intro j hj
    have hl3 : (swp xs s (swk xs L k) (s.take j)).length = xs.length := by rw [swp_len, hl]
    unfold oI iS
    (simp (maxSteps := 2000000) (disch := omega) only [go_sem, Nat.reduceEqDiff, Nat.reduceAdd, Nat.reduceMul, Nat.reduceSub, Int.reduceToNat, Int.reduceAdd, Int.reduceSub, Int.reduceMul, Int.reduceNeg]; repeat ((first | refine vIf_t ?_ | refine vIf_f ?_); simp (maxSteps := 2000000) (disch := omega) only [go_sem, Nat.reduceEqDiff, Nat.reduceAdd, Nat.reduceMul, Nat.reduceSub, Int.reduceToNat, Int.reduceAdd, Int.reduceSub, Int.reduceMul, Int.reduceNeg]))
    refine vIf_dec (fun hj2 => ?_) (fun hj2 => ?_)
    · have hj4 : j < s.length := by omega
      have hg := nI_get s j hj4
      have hb : s[j] < xs.length := m2 _ (List.getElem_mem hj4)
      have hr : ∀ k, k < (nI s).length → 0 ≤ gi (nI s) k ∧ gi (nI s) k < xs.length := fun k hk => by
        rw [nI_len] at hk
        rw [nI_get s k hk]
        have := m2 _ (List.getElem_mem hk)
        omega
      have hwn := wins_ok xs (nI s) (by omega) (by omega) hr
      have hmn := mand_ok xs (nI s) (by omega) (by omega) hr
      unfold iS at hwn hmn
      rw [hnl] at hwn hmn
      have e : swp xs s (swk xs L k) (s.take (j + 1)) = sw1 xs s (swp xs s (swk xs L k) (s.take j)) s[j] := swp_snoc _ _ _ _ hj4
      (simp (maxSteps := 2000000) (disch := omega) only [go_sem, Nat.reduceEqDiff, Nat.reduceAdd, Nat.reduceMul, Nat.reduceSub, Int.reduceToNat, Int.reduceAdd, Int.reduceSub, Int.reduceMul, Int.reduceNeg, hg]; repeat ((first | refine vIf_t ?_ | refine vIf_f ?_); simp (maxSteps := 2000000) (disch := omega) only [go_sem, Nat.reduceEqDiff, Nat.reduceAdd, Nat.reduceMul, Nat.reduceSub, Int.reduceToNat, Int.reduceAdd, Int.reduceSub, Int.reduceMul, Int.reduceNeg, hg]))
      (refine vDraw_of mixed (by kernel_rfl) ?_; (simp (maxSteps := 2000000) (disch := omega) only [go_sem, Nat.reduceEqDiff, Nat.reduceAdd, Nat.reduceMul, Nat.reduceSub, Int.reduceToNat, Int.reduceAdd, Int.reduceSub, Int.reduceMul, Int.reduceNeg]; repeat ((first | refine vIf_t ?_ | refine vIf_f ?_); simp (maxSteps := 2000000) (disch := omega) only [go_sem, Nat.reduceEqDiff, Nat.reduceAdd, Nat.reduceMul, Nat.reduceSub, Int.reduceToNat, Int.reduceAdd, Int.reduceSub, Int.reduceMul, Int.reduceNeg])))
      (refine vqCall_eq (hwn) (by simp (disch := omega) only [go_sem, Nat.reduceAdd]) rfl ?_; (simp (maxSteps := 2000000) (disch := omega) only [go_sem, Nat.reduceEqDiff, Nat.reduceAdd, Nat.reduceMul, Nat.reduceSub, Int.reduceToNat, Int.reduceAdd, Int.reduceSub, Int.reduceMul, Int.reduceNeg]; repeat ((first | refine vIf_t ?_ | refine vIf_f ?_); simp (maxSteps := 2000000) (disch := omega) only [go_sem, Nat.reduceEqDiff, Nat.reduceAdd, Nat.reduceMul, Nat.reduceSub, Int.reduceToNat, Int.reduceAdd, Int.reduceSub, Int.reduceMul, Int.reduceNeg])))
      have hsm := sum_ok xs hx
      unfold iS at hsm
      refine vqGuard_any (fun hw => ?_) (fun hw => ?_)
      · have hw2 := of_decide_eq_true hw
        (simp (maxSteps := 2000000) (disch := omega) only [go_sem, Nat.reduceEqDiff, Nat.reduceAdd, Nat.reduceMul, Nat.reduceSub, Int.reduceToNat, Int.reduceAdd, Int.reduceSub, Int.reduceMul, Int.reduceNeg, hw]; repeat ((first | refine vIf_t ?_ | refine vIf_f ?_); simp (maxSteps := 2000000) (disch := omega) only [go_sem, Nat.reduceEqDiff, Nat.reduceAdd, Nat.reduceMul, Nat.reduceSub, Int.reduceToNat, Int.reduceAdd, Int.reduceSub, Int.reduceMul, Int.reduceNeg, hw]))
        (refine vqCall_eq (hmn) (by simp (disch := omega) only [go_sem, Nat.reduceAdd]) rfl ?_; (simp (maxSteps := 2000000) (disch := omega) only [go_sem, Nat.reduceEqDiff, Nat.reduceAdd, Nat.reduceMul, Nat.reduceSub, Int.reduceToNat, Int.reduceAdd, Int.reduceSub, Int.reduceMul, Int.reduceNeg]; repeat ((first | refine vIf_t ?_ | refine vIf_f ?_); simp (maxSteps := 2000000) (disch := omega) only [go_sem, Nat.reduceEqDiff, Nat.reduceAdd, Nat.reduceMul, Nat.reduceSub, Int.reduceToNat, Int.reduceAdd, Int.reduceSub, Int.reduceMul, Int.reduceNeg])))
        try (simp (maxSteps := 2000000) (disch := omega) only [go_sem, Nat.reduceEqDiff, Nat.reduceAdd, Nat.reduceMul, Nat.reduceSub, Int.reduceToNat, Int.reduceAdd, Int.reduceSub, Int.reduceMul, Int.reduceNeg, hg, hw]; repeat ((first | refine vIf_t ?_ | refine vIf_f ?_); simp (maxSteps := 2000000) (disch := omega) only [go_sem, Nat.reduceEqDiff, Nat.reduceAdd, Nat.reduceMul, Nat.reduceSub, Int.reduceToNat, Int.reduceAdd, Int.reduceSub, Int.reduceMul, Int.reduceNeg, hg, hw]))
        (refine vqCall_eq (hsm) (by simp (disch := omega) only [go_sem, Nat.reduceAdd]) rfl ?_; (simp (maxSteps := 2000000) (disch := omega) only [go_sem, Nat.reduceEqDiff, Nat.reduceAdd, Nat.reduceMul, Nat.reduceSub, Int.reduceToNat, Int.reduceAdd, Int.reduceSub, Int.reduceMul, Int.reduceNeg]; repeat ((first | refine vIf_t ?_ | refine vIf_f ?_); simp (maxSteps := 2000000) (disch := omega) only [go_sem, Nat.reduceEqDiff, Nat.reduceAdd, Nat.reduceMul, Nat.reduceSub, Int.reduceToNat, Int.reduceAdd, Int.reduceSub, Int.reduceMul, Int.reduceNeg])))
        try (simp (maxSteps := 2000000) (disch := omega) only [go_sem, Nat.reduceEqDiff, Nat.reduceAdd, Nat.reduceMul, Nat.reduceSub, Int.reduceToNat, Int.reduceAdd, Int.reduceSub, Int.reduceMul, Int.reduceNeg, hg, hw]; repeat ((first | refine vIf_t ?_ | refine vIf_f ?_); simp (maxSteps := 2000000) (disch := omega) only [go_sem, Nat.reduceEqDiff, Nat.reduceAdd, Nat.reduceMul, Nat.reduceSub, Int.reduceToNat, Int.reduceAdd, Int.reduceSub, Int.reduceMul, Int.reduceNeg, hg, hw]))
        refine vIf_dec (fun hn => ?_) (fun hn => ?_)
        · rw [sw1, if_pos (by simp [need, hw2, hn])] at e
          (simp (maxSteps := 2000000) (disch := omega) only [go_sem, Nat.reduceEqDiff, Nat.reduceAdd, Nat.reduceMul, Nat.reduceSub, Int.reduceToNat, Int.reduceAdd, Int.reduceSub, Int.reduceMul, Int.reduceNeg, hg]; repeat ((first | refine vIf_t ?_ | refine vIf_f ?_); simp (maxSteps := 2000000) (disch := omega) only [go_sem, Nat.reduceEqDiff, Nat.reduceAdd, Nat.reduceMul, Nat.reduceSub, Int.reduceToNat, Int.reduceAdd, Int.reduceSub, Int.reduceMul, Int.reduceNeg, hg]))
          refine again (j + 1) (by omega) (by omega) ?_
          (simp (maxSteps := 2000000) (disch := omega) only [go_sem, Nat.reduceEqDiff, Nat.reduceAdd, Nat.reduceMul, Nat.reduceSub, Int.reduceToNat, Int.reduceAdd, Int.reduceSub, Int.reduceMul, Int.reduceNeg, e, inc]; repeat ((first | refine vIf_t ?_ | refine vIf_f ?_); simp (maxSteps := 2000000) (disch := omega) only [go_sem, Nat.reduceEqDiff, Nat.reduceAdd, Nat.reduceMul, Nat.reduceSub, Int.reduceToNat, Int.reduceAdd, Int.reduceSub, Int.reduceMul, Int.reduceNeg, e, inc]))
        · rw [sw1, if_neg (by simp [need, hw2, hn])] at e
          (simp (maxSteps := 2000000) (disch := omega) only [go_sem, Nat.reduceEqDiff, Nat.reduceAdd, Nat.reduceMul, Nat.reduceSub, Int.reduceToNat, Int.reduceAdd, Int.reduceSub, Int.reduceMul, Int.reduceNeg]; repeat ((first | refine vIf_t ?_ | refine vIf_f ?_); simp (maxSteps := 2000000) (disch := omega) only [go_sem, Nat.reduceEqDiff, Nat.reduceAdd, Nat.reduceMul, Nat.reduceSub, Int.reduceToNat, Int.reduceAdd, Int.reduceSub, Int.reduceMul, Int.reduceNeg]))
          refine again (j + 1) (by omega) (by omega) ?_
          (simp (maxSteps := 2000000) (disch := omega) only [go_sem, Nat.reduceEqDiff, Nat.reduceAdd, Nat.reduceMul, Nat.reduceSub, Int.reduceToNat, Int.reduceAdd, Int.reduceSub, Int.reduceMul, Int.reduceNeg, e]; repeat ((first | refine vIf_t ?_ | refine vIf_f ?_); simp (maxSteps := 2000000) (disch := omega) only [go_sem, Nat.reduceEqDiff, Nat.reduceAdd, Nat.reduceMul, Nat.reduceSub, Int.reduceToNat, Int.reduceAdd, Int.reduceSub, Int.reduceMul, Int.reduceNeg, e]))
      · have hw2 : ¬ wsum xs < IntKind.wrap .i64 (2 * mand xs (nI s)) := by simpa using hw
        have hw3 : decide (wsum xs < IntKind.wrap .i64 (2 * mand xs (nI s))) = false := decide_eq_false hw2
        rw [sw1, if_neg (by simp [need, hw2])] at e
        (simp (maxSteps := 2000000) (disch := omega) only [go_sem, Nat.reduceEqDiff, Nat.reduceAdd, Nat.reduceMul, Nat.reduceSub, Int.reduceToNat, Int.reduceAdd, Int.reduceSub, Int.reduceMul, Int.reduceNeg, hw3]; repeat ((first | refine vIf_t ?_ | refine vIf_f ?_); simp (maxSteps := 2000000) (disch := omega) only [go_sem, Nat.reduceEqDiff, Nat.reduceAdd, Nat.reduceMul, Nat.reduceSub, Int.reduceToNat, Int.reduceAdd, Int.reduceSub, Int.reduceMul, Int.reduceNeg, hw3]))
        refine again (j + 1) (by omega) (by omega) ?_
        (simp (maxSteps := 2000000) (disch := omega) only [go_sem, Nat.reduceEqDiff, Nat.reduceAdd, Nat.reduceMul, Nat.reduceSub, Int.reduceToNat, Int.reduceAdd, Int.reduceSub, Int.reduceMul, Int.reduceNeg, e]; repeat ((first | refine vIf_t ?_ | refine vIf_f ?_); simp (maxSteps := 2000000) (disch := omega) only [go_sem, Nat.reduceEqDiff, Nat.reduceAdd, Nat.reduceMul, Nat.reduceSub, Int.reduceToNat, Int.reduceAdd, Int.reduceSub, Int.reduceMul, Int.reduceNeg, e]))
    · have e : swk xs L (k + 1) = swp xs s (swk xs L k) (s.take j) := by
        rw [hss, List.take_of_length_le (by omega)]; rfl
      (simp (maxSteps := 2000000) (disch := omega) only [go_sem, Nat.reduceEqDiff, Nat.reduceAdd, Nat.reduceMul, Nat.reduceSub, Int.reduceToNat, Int.reduceAdd, Int.reduceSub, Int.reduceMul, Int.reduceNeg]; repeat ((first | refine vIf_t ?_ | refine vIf_f ?_); simp (maxSteps := 2000000) (disch := omega) only [go_sem, Nat.reduceEqDiff, Nat.reduceAdd, Nat.reduceMul, Nat.reduceSub, Int.reduceToNat, Int.reduceAdd, Int.reduceSub, Int.reduceMul, Int.reduceNeg]))
      refine again (k + 1) (by omega) (by omega) ?_
      (simp (maxSteps := 2000000) (disch := omega) only [go_sem, Nat.reduceEqDiff, Nat.reduceAdd, Nat.reduceMul, Nat.reduceSub, Int.reduceToNat, Int.reduceAdd, Int.reduceSub, Int.reduceMul, Int.reduceNeg, e]; repeat ((first | refine vIf_t ?_ | refine vIf_f ?_); simp (maxSteps := 2000000) (disch := omega) only [go_sem, Nat.reduceEqDiff, Nat.reduceAdd, Nat.reduceMul, Nat.reduceSub, Int.reduceToNat, Int.reduceAdd, Int.reduceSub, Int.reduceMul, Int.reduceNeg, e]))
  · have e : k = L.length := by omega
    (simp (maxSteps := 2000000) (disch := omega) only [go_sem, Nat.reduceEqDiff, Nat.reduceAdd, Nat.reduceMul, Nat.reduceSub, Int.reduceToNat, Int.reduceAdd, Int.reduceSub, Int.reduceMul, Int.reduceNeg]; repeat ((first | refine vIf_t ?_ | refine vIf_f ?_); simp (maxSteps := 2000000) (disch := omega) only [go_sem, Nat.reduceEqDiff, Nat.reduceAdd, Nat.reduceMul, Nat.reduceSub, Int.reduceToNat, Int.reduceAdd, Int.reduceSub, Int.reduceMul, Int.reduceNeg]))
    (refine retK_of ?_; (simp (maxSteps := 2000000) (disch := omega) only [go_sem, Nat.reduceEqDiff, Nat.reduceAdd, Nat.reduceMul, Nat.reduceSub, Int.reduceToNat, Int.reduceAdd, Int.reduceSub, Int.reduceMul, Int.reduceNeg]; repeat ((first | refine vIf_t ?_ | refine vIf_f ?_); simp (maxSteps := 2000000) (disch := omega) only [go_sem, Nat.reduceEqDiff, Nat.reduceAdd, Nat.reduceMul, Nat.reduceSub, Int.reduceToNat, Int.reduceAdd, Int.reduceSub, Int.reduceMul, Int.reduceNeg])))
    have e2 : swR xs = swk xs L k := by rw [swR, if_pos hok, swk, e, List.take_length, hsw]
    rw [e2, hl, swC, if_pos hok]
    simp [oI]
theorem swR_len (xs : List Int) (hl : xs.length ≤ 10000000) : (swR xs).length ≤ 10000000 := by
  unfold swR; split
  · unfold swings; rw [sw_len]; simpa using hl
  · simp
end Go.Proofs.Ytkgfpephkinocaa

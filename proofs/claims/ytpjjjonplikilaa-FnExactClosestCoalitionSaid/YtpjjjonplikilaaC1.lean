/- the least coalitions: the program's walk -/
import Derived.Test.YtpjjjonplikilaaZ4
set_option linter.unusedVariables false
set_option linter.unusedSimpArgs false
namespace Go.Proofs.Ytpjjjonplikilaa
open Go.AG

/-- a party is needed -/
def crB (xs ys : List Int) (y : Int) : Bool := decide (IntKind.wrap .i64 (2 * IntKind.wrap .i64 (mand xs ys - gi xs y.toNat)) ≤ wsum xs)
def wnB (xs ys : List Int) : Bool := decide (wsum xs < IntKind.wrap .i64 (2 * mand xs ys))
def lsB (xs ys : List Int) : Bool := wnB xs ys && ys.all (crB xs ys)
def LC (xs : List Int) : List (List Int) := (sI (subs xs.length (2 ^ xs.length))).filter (lsB xs)
def inR (xs ys : List Int) : Prop := ∀ k, k < ys.length → 0 ≤ gi ys k ∧ gi ys k < xs.length
theorem gr_filter_mem {q : List Int → Bool} (L : List (List Int)) (k : Nat) (h : k < L.length) : (L.take (k + 1)).filter q = if q (gr L k) then (L.take k).filter q ++ [gr L k] else (L.take k).filter q := by
  have e : gr L k = L[k] := by simp [gr, h]
  rw [List.take_succ_eq_append_getElem h, List.filter_append, e]
  cases hq : q L[k] <;> simp [hq]
theorem subs_rows {n : Nat} (hn : n ≤ 8) {xs : List Int} (e : xs.length = n := by rfl) : ∀ k, k < (sI (subs n (2 ^ n))).length → (gr (sI (subs n (2 ^ n))) k).length ≤ 8 ∧ inR xs (gr (sI (subs n (2 ^ n))) k) := fun k h => by
  have h : k < (subs n (2 ^ n)).length := by simpa [sI] using h
  have hgr : gr (sI (subs n (2 ^ n))) k = nI (subs n (2 ^ n))[k] := by simp [gr, sI, h]
  obtain ⟨m1, m2⟩ := subs_mem hn (List.getElem_mem h)
  rw [hgr]
  refine ⟨by rw [nI_len]; exact m1, fun j hj => ?_⟩
  rw [nI_len] at hj
  rw [nI_get _ j hj]
  have := m2 _ (List.getElem_mem hj)
  omega
/-- the winning set with the fewest mandates, the first one -/
def clK (xs : List Int) (L : List (List Int)) : Nat → List Int × Int
  | 0 => ([], -1)
  | k + 1 => if wnB xs (gr L k) = true ∧ ((clK xs L k).2 < 0 ∨ mand xs (gr L k) < (clK xs L k).2) then (gr L k, mand xs (gr L k)) else clK xs L k
def CL (xs : List Int) : List Int × Int := clK xs (sI (subs xs.length (2 ^ xs.length))) (2 ^ xs.length)
set_option maxRecDepth 100000 in
set_option maxHeartbeats 8000000 in
theorem closest_ok (xs : List Int) (hok : okV xs 60 = true) : ACalls Try.prog 6 [iS xs] [] (fun r o => r = .tup [iS (CL xs).1, I (CL xs).2, I 0] ∧ o = []) := by
  refine ACalls.of_vc Try.func6 rfl (by decide) 43 rfl [.tmp 2, .tmp 3, .tmp 4] rfl (by simp) ?_
  obtain ⟨g1, g2, g3, g4, g5⟩ := okV_sum (by omega) hok
  obtain ⟨p1, p2, p3⟩ := pow2_le xs.length g3
  have ham := am_ok xs (by omega)
  have hsz := size_ok (ints xs) xs.length
  have hsub := subsets_ok xs.length g3
  unfold iS at ham ⊢
  (repeat (first | simp (maxSteps := 2000000) (disch := omega) only [go_sem, ↓reduceIte, Nat.reduceEqDiff, Nat.reduceAdd, Nat.reduceMul, Nat.reduceSub, Int.reduceToNat, Int.reduceAdd, Int.reduceSub, Int.reduceMul, Int.reduceNeg] | with_reducible refine vIf_t ?_ | with_reducible refine vIf_f ?_))
  (refine vCallX_of ?_; (repeat (first | simp (maxSteps := 2000000) (disch := omega) only [go_sem, ↓reduceIte, Nat.reduceEqDiff, Nat.reduceAdd, Nat.reduceMul, Nat.reduceSub, Int.reduceToNat, Int.reduceAdd, Int.reduceSub, Int.reduceMul, Int.reduceNeg] | with_reducible refine vIf_t ?_ | with_reducible refine vIf_f ?_)); refine vCall_eq (ham) (by simp (disch := omega) only [go_sem, Nat.reduceAdd]) rfl (by first | exact Or.inl rfl | exact Or.inr ⟨rfl, rfl⟩ | (apply Or.inr; simp only [go_sem])) ?_; (repeat (first | simp (maxSteps := 2000000) (disch := omega) only [go_sem, ↓reduceIte, Nat.reduceEqDiff, Nat.reduceAdd, Nat.reduceMul, Nat.reduceSub, Int.reduceToNat, Int.reduceAdd, Int.reduceSub, Int.reduceMul, Int.reduceNeg] | with_reducible refine vIf_t ?_ | with_reducible refine vIf_f ?_)))
  (repeat (first | simp (maxSteps := 2000000) (disch := omega) only [go_sem, ↓reduceIte, Nat.reduceEqDiff, Nat.reduceAdd, Nat.reduceMul, Nat.reduceSub, Int.reduceToNat, Int.reduceAdd, Int.reduceSub, Int.reduceMul, Int.reduceNeg, hok] | with_reducible refine vIf_t ?_ | with_reducible refine vIf_f ?_))
  (refine vCallX_of ?_; (repeat (first | simp (maxSteps := 2000000) (disch := omega) only [go_sem, ↓reduceIte, Nat.reduceEqDiff, Nat.reduceAdd, Nat.reduceMul, Nat.reduceSub, Int.reduceToNat, Int.reduceAdd, Int.reduceSub, Int.reduceMul, Int.reduceNeg] | with_reducible refine vIf_t ?_ | with_reducible refine vIf_f ?_)); refine vCall_eq (hsz) (by simp (disch := omega) only [go_sem, Nat.reduceAdd]) rfl (by first | exact Or.inl rfl | exact Or.inr ⟨rfl, rfl⟩ | (apply Or.inr; simp only [go_sem])) ?_; (repeat (first | simp (maxSteps := 2000000) (disch := omega) only [go_sem, ↓reduceIte, Nat.reduceEqDiff, Nat.reduceAdd, Nat.reduceMul, Nat.reduceSub, Int.reduceToNat, Int.reduceAdd, Int.reduceSub, Int.reduceMul, Int.reduceNeg] | with_reducible refine vIf_t ?_ | with_reducible refine vIf_f ?_)))
  (refine vCallX_of ?_; (repeat (first | simp (maxSteps := 2000000) (disch := omega) only [go_sem, ↓reduceIte, Nat.reduceEqDiff, Nat.reduceAdd, Nat.reduceMul, Nat.reduceSub, Int.reduceToNat, Int.reduceAdd, Int.reduceSub, Int.reduceMul, Int.reduceNeg] | with_reducible refine vIf_t ?_ | with_reducible refine vIf_f ?_)); refine vCall_eq (hsub) (by simp (disch := omega) only [go_sem, Nat.reduceAdd]) rfl (by first | exact Or.inl rfl | exact Or.inr ⟨rfl, rfl⟩ | (apply Or.inr; simp only [go_sem])) ?_; (repeat (first | simp (maxSteps := 2000000) (disch := omega) only [go_sem, ↓reduceIte, Nat.reduceEqDiff, Nat.reduceAdd, Nat.reduceMul, Nat.reduceSub, Int.reduceToNat, Int.reduceAdd, Int.reduceSub, Int.reduceMul, Int.reduceNeg] | with_reducible refine vIf_t ?_ | with_reducible refine vIf_f ?_)))
  have hmem := subs_rows g3 (xs := xs)
  have hCL : CL xs = clK xs (sI (subs xs.length (2 ^ xs.length))) (2 ^ xs.length) := rfl
  have hlq0 : (sI (subs xs.length (2 ^ xs.length))).length = 2 ^ xs.length := by simp [sI, (subs_ok xs.length g3).2.1]
  generalize sI (subs xs.length (2 ^ xs.length)) = L at hCL hmem hlq0 ⊢
  rw [← hlq0] at p1 hCL ⊢
  refine vcLoop_inv_frz (fun k : Nat => k ≤ L.length) (fun k => ⟨43, 0, [(19, I k), (18, I L.length), (17, .ref 1 0 L.length), (0, iS xs), (5, iS (clK xs L k).1), (6, I (clK xs L k).2)], [none, some ⟨1, rws L⟩]⟩) (fun k => L.length - k) 0 (.step 0 _ rfl (by (repeat (first | simp (maxSteps := 2000000) (disch := omega) only [go_sem, ↓reduceIte, Nat.reduceEqDiff, Nat.reduceAdd, Nat.reduceMul, Nat.reduceSub, Int.reduceToNat, Int.reduceAdd, Int.reduceSub, Int.reduceMul, Int.reduceNeg] | with_reducible refine vIf_t ?_ | with_reducible refine vIf_f ?_))) (.refl _)) (by omega) (by (repeat (first | simp (maxSteps := 2000000) (disch := omega) only [go_sem, ↓reduceIte, Nat.reduceEqDiff, Nat.reduceAdd, Nat.reduceMul, Nat.reduceSub, Int.reduceToNat, Int.reduceAdd, Int.reduceSub, Int.reduceMul, Int.reduceNeg, iS, clK] | with_reducible refine vIf_t ?_ | with_reducible refine vIf_f ?_)); all_goals (try simp)) ?_
  intro k hk
  unfold iS
  (repeat (first | simp (maxSteps := 2000000) (disch := omega) only [go_sem, ↓reduceIte, Nat.reduceEqDiff, Nat.reduceAdd, Nat.reduceMul, Nat.reduceSub, Int.reduceToNat, Int.reduceAdd, Int.reduceSub, Int.reduceMul, Int.reduceNeg] | with_reducible refine vIf_t ?_ | with_reducible refine vIf_f ?_))
  refine vIf_dec (fun hc => ?_) (fun hc => ?_)
  · have hkl : k < L.length := by omega
    obtain ⟨m1, m2⟩ := hmem k hkl
    have hss : clK xs L (k + 1) = if wnB xs (gr L k) = true ∧ ((clK xs L k).2 < 0 ∨ mand xs (gr L k) < (clK xs L k).2) then (gr L k, mand xs (gr L k)) else clK xs L k := rfl
    obtain ⟨s, hs⟩ : ∃ s, s = gr L k := ⟨_, rfl⟩
    rw [← hs] at m1 m2 hss
    have hwn := wins_ok xs s (by omega) (by omega) m2
    have hmn := mand_ok xs s (by omega) (by omega) m2
    unfold iS at hwn hmn
    (repeat (first | simp (maxSteps := 2000000) (disch := omega) only [go_sem, ↓reduceIte, Nat.reduceEqDiff, Nat.reduceAdd, Nat.reduceMul, Nat.reduceSub, Int.reduceToNat, Int.reduceAdd, Int.reduceSub, Int.reduceMul, Int.reduceNeg, ← hs] | with_reducible refine vIf_t ?_ | with_reducible refine vIf_f ?_))
    (refine vCallX_of ?_; (repeat (first | simp (maxSteps := 2000000) (disch := omega) only [go_sem, ↓reduceIte, Nat.reduceEqDiff, Nat.reduceAdd, Nat.reduceMul, Nat.reduceSub, Int.reduceToNat, Int.reduceAdd, Int.reduceSub, Int.reduceMul, Int.reduceNeg] | with_reducible refine vIf_t ?_ | with_reducible refine vIf_f ?_)); refine vCall_eq (hmn) (by simp (disch := omega) only [go_sem, Nat.reduceAdd]) rfl (by first | exact Or.inl rfl | exact Or.inr ⟨rfl, rfl⟩ | (apply Or.inr; simp only [go_sem])) ?_; (repeat (first | simp (maxSteps := 2000000) (disch := omega) only [go_sem, ↓reduceIte, Nat.reduceEqDiff, Nat.reduceAdd, Nat.reduceMul, Nat.reduceSub, Int.reduceToNat, Int.reduceAdd, Int.reduceSub, Int.reduceMul, Int.reduceNeg] | with_reducible refine vIf_t ?_ | with_reducible refine vIf_f ?_)))
    (refine vCallX_of ?_; (repeat (first | simp (maxSteps := 2000000) (disch := omega) only [go_sem, ↓reduceIte, Nat.reduceEqDiff, Nat.reduceAdd, Nat.reduceMul, Nat.reduceSub, Int.reduceToNat, Int.reduceAdd, Int.reduceSub, Int.reduceMul, Int.reduceNeg] | with_reducible refine vIf_t ?_ | with_reducible refine vIf_f ?_)); refine vCall_eq (hwn) (by simp (disch := omega) only [go_sem, Nat.reduceAdd]) rfl (by first | exact Or.inl rfl | exact Or.inr ⟨rfl, rfl⟩ | (apply Or.inr; simp only [go_sem])) ?_; (repeat (first | simp (maxSteps := 2000000) (disch := omega) only [go_sem, ↓reduceIte, Nat.reduceEqDiff, Nat.reduceAdd, Nat.reduceMul, Nat.reduceSub, Int.reduceToNat, Int.reduceAdd, Int.reduceSub, Int.reduceMul, Int.reduceNeg] | with_reducible refine vIf_t ?_ | with_reducible refine vIf_f ?_)))
    have hwd : wnB xs s = decide (wsum xs < IntKind.wrap .i64 (2 * mand xs s)) := rfl
    cases hw : decide (wsum xs < IntKind.wrap .i64 (2 * mand xs s)) with
    | false =>
      rw [if_neg (by rw [hwd, hw]; simp)] at hss
      (repeat (first | simp (maxSteps := 2000000) (disch := omega) only [go_sem, ↓reduceIte, Nat.reduceEqDiff, Nat.reduceAdd, Nat.reduceMul, Nat.reduceSub, Int.reduceToNat, Int.reduceAdd, Int.reduceSub, Int.reduceMul, Int.reduceNeg, hw] | with_reducible refine vIf_t ?_ | with_reducible refine vIf_f ?_))
      refine again (k + 1) (by omega) (by omega) ?_
      rw [hss]
      (repeat (first | simp (maxSteps := 2000000) (disch := omega) only [go_sem, ↓reduceIte, Nat.reduceEqDiff, Nat.reduceAdd, Nat.reduceMul, Nat.reduceSub, Int.reduceToNat, Int.reduceAdd, Int.reduceSub, Int.reduceMul, Int.reduceNeg, iS] | with_reducible refine vIf_t ?_ | with_reducible refine vIf_f ?_))
    | true =>
      rw [hw] at hwd
      (repeat (first | simp (maxSteps := 2000000) (disch := omega) only [go_sem, ↓reduceIte, Nat.reduceEqDiff, Nat.reduceAdd, Nat.reduceMul, Nat.reduceSub, Int.reduceToNat, Int.reduceAdd, Int.reduceSub, Int.reduceMul, Int.reduceNeg, hw] | with_reducible refine vIf_t ?_ | with_reducible refine vIf_f ?_))
      by_cases hf : (clK xs L k).2 < 0
      · have hfb : decide ((clK xs L k).2 < 0) = true := decide_eq_true hf
        rw [if_pos ⟨hwd, .inl hf⟩] at hss
        (repeat (first | simp (maxSteps := 2000000) (disch := omega) only [go_sem, ↓reduceIte, Nat.reduceEqDiff, Nat.reduceAdd, Nat.reduceMul, Nat.reduceSub, Int.reduceToNat, Int.reduceAdd, Int.reduceSub, Int.reduceMul, Int.reduceNeg, hfb] | with_reducible refine vIf_t ?_ | with_reducible refine vIf_f ?_))
        refine again (k + 1) (by omega) (by omega) ?_
        rw [hss]
        (repeat (first | simp (maxSteps := 2000000) (disch := omega) only [go_sem, ↓reduceIte, Nat.reduceEqDiff, Nat.reduceAdd, Nat.reduceMul, Nat.reduceSub, Int.reduceToNat, Int.reduceAdd, Int.reduceSub, Int.reduceMul, Int.reduceNeg, iS] | with_reducible refine vIf_t ?_ | with_reducible refine vIf_f ?_))
      · have hfb : decide ((clK xs L k).2 < 0) = false := decide_eq_false hf
        by_cases hg : mand xs s < (clK xs L k).2
        · have hgb : decide (mand xs s < (clK xs L k).2) = true := decide_eq_true hg
          rw [if_pos ⟨hwd, .inr hg⟩] at hss
          (repeat (first | simp (maxSteps := 2000000) (disch := omega) only [go_sem, ↓reduceIte, Nat.reduceEqDiff, Nat.reduceAdd, Nat.reduceMul, Nat.reduceSub, Int.reduceToNat, Int.reduceAdd, Int.reduceSub, Int.reduceMul, Int.reduceNeg, hfb, hgb] | with_reducible refine vIf_t ?_ | with_reducible refine vIf_f ?_))
          refine again (k + 1) (by omega) (by omega) ?_
          rw [hss]
          (repeat (first | simp (maxSteps := 2000000) (disch := omega) only [go_sem, ↓reduceIte, Nat.reduceEqDiff, Nat.reduceAdd, Nat.reduceMul, Nat.reduceSub, Int.reduceToNat, Int.reduceAdd, Int.reduceSub, Int.reduceMul, Int.reduceNeg, iS] | with_reducible refine vIf_t ?_ | with_reducible refine vIf_f ?_))
        · have hgb : decide (mand xs s < (clK xs L k).2) = false := decide_eq_false hg
          rw [if_neg (by rintro ⟨_, h | h⟩; exact hf h; exact hg h)] at hss
          (repeat (first | simp (maxSteps := 2000000) (disch := omega) only [go_sem, ↓reduceIte, Nat.reduceEqDiff, Nat.reduceAdd, Nat.reduceMul, Nat.reduceSub, Int.reduceToNat, Int.reduceAdd, Int.reduceSub, Int.reduceMul, Int.reduceNeg, hfb, hgb] | with_reducible refine vIf_t ?_ | with_reducible refine vIf_f ?_))
          refine again (k + 1) (by omega) (by omega) ?_
          rw [hss]
          (repeat (first | simp (maxSteps := 2000000) (disch := omega) only [go_sem, ↓reduceIte, Nat.reduceEqDiff, Nat.reduceAdd, Nat.reduceMul, Nat.reduceSub, Int.reduceToNat, Int.reduceAdd, Int.reduceSub, Int.reduceMul, Int.reduceNeg, iS] | with_reducible refine vIf_t ?_ | with_reducible refine vIf_f ?_))
  · have e : k = L.length := by omega
    subst e
    (repeat (first | simp (maxSteps := 2000000) (disch := omega) only [go_sem, ↓reduceIte, Nat.reduceEqDiff, Nat.reduceAdd, Nat.reduceMul, Nat.reduceSub, Int.reduceToNat, Int.reduceAdd, Int.reduceSub, Int.reduceMul, Int.reduceNeg] | with_reducible refine vIf_t ?_ | with_reducible refine vIf_f ?_))
    (refine retK_of ?_; (repeat (first | simp (maxSteps := 2000000) (disch := omega) only [go_sem, ↓reduceIte, Nat.reduceEqDiff, Nat.reduceAdd, Nat.reduceMul, Nat.reduceSub, Int.reduceToNat, Int.reduceAdd, Int.reduceSub, Int.reduceMul, Int.reduceNeg] | with_reducible refine vIf_t ?_ | with_reducible refine vIf_f ?_)))
    rw [hCL]
    all_goals (try simp)
end Go.Proofs.Ytpjjjonplikilaa

/- the least coalitions: the program's walk -/
import Derived.Test.YtkgfpephkinocaaZ4
set_option linter.unusedVariables false
set_option linter.unusedSimpArgs false
namespace Go.Proofs.Ytkgfpephkinocaa
open Go.AG

/-- a party is needed -/
def crB (xs ys : List Int) (y : Int) : Bool := decide (IntKind.wrap .i64 (2 * IntKind.wrap .i64 (mand xs ys - gi xs y.toNat)) ≤ wsum xs)
def wnB (xs ys : List Int) : Bool := decide (wsum xs < IntKind.wrap .i64 (2 * mand xs ys))
def lsB (xs ys : List Int) : Bool := wnB xs ys && ys.all (crB xs ys)
def LC (xs : List Int) : List (List Int) := (sI (subs xs.length (2 ^ xs.length))).filter (lsB xs)
def inR (xs ys : List Int) : Prop := ∀ k, k < ys.length → 0 ≤ gi ys k ∧ gi ys k < xs.length
set_option maxHeartbeats 4000000 in
theorem lc1_ok (xs ys : List Int) (y : Int) (hx : xs.length ≤ 10000000) (hy : ys.length ≤ 10000000) (hr : inR xs ys) (h : 0 ≤ y ∧ y < xs.length) :
    ACalls Try.prog 60 [I y, .ip [iS xs] 0, .ip [iS ys] 0] [] (fun r o => r = B (crB xs ys y) ∧ o = []) := by
  refine ACalls.of_vc Try.func60 rfl (by decide) 17 rfl [.tmp 4] rfl (by simp) ?_
  have hm := mand_ok xs ys hx hy hr
  have hs := sum_ok xs hx
  unfold iS at hm hs ⊢
  (simp (maxSteps := 2000000) (disch := omega) only [go_sem, Nat.reduceEqDiff, Nat.reduceAdd, Nat.reduceMul, Nat.reduceSub, Int.reduceToNat, Int.reduceAdd, Int.reduceSub, Int.reduceMul, Int.reduceNeg]; repeat ((first | refine vIf_t ?_ | refine vIf_f ?_); simp (maxSteps := 2000000) (disch := omega) only [go_sem, Nat.reduceEqDiff, Nat.reduceAdd, Nat.reduceMul, Nat.reduceSub, Int.reduceToNat, Int.reduceAdd, Int.reduceSub, Int.reduceMul, Int.reduceNeg]))
  (refine vDraw_sch 11 [0, 1, 3, 4, 5, 6, 9, 2, 7, 8, 10] mixed (by kernel_rfl) ?_; simp only [List.map_cons, List.map_nil, nthO_zero, nthO_succ, List.drop_succ_cons, List.drop_zero, List.drop_nil]; (simp (maxSteps := 2000000) (disch := omega) only [go_sem, Nat.reduceEqDiff, Nat.reduceAdd, Nat.reduceMul, Nat.reduceSub, Int.reduceToNat, Int.reduceAdd, Int.reduceSub, Int.reduceMul, Int.reduceNeg]; repeat ((first | refine vIf_t ?_ | refine vIf_f ?_); simp (maxSteps := 2000000) (disch := omega) only [go_sem, Nat.reduceEqDiff, Nat.reduceAdd, Nat.reduceMul, Nat.reduceSub, Int.reduceToNat, Int.reduceAdd, Int.reduceSub, Int.reduceMul, Int.reduceNeg])))
  (refine vsCallX_of ?_; (try (simp (maxSteps := 2000000) (disch := omega) only [go_sem, Nat.reduceEqDiff, Nat.reduceAdd, Nat.reduceMul, Nat.reduceSub, Int.reduceToNat, Int.reduceAdd, Int.reduceSub, Int.reduceMul, Int.reduceNeg]; repeat ((first | refine vIf_t ?_ | refine vIf_f ?_); simp (maxSteps := 2000000) (disch := omega) only [go_sem, Nat.reduceEqDiff, Nat.reduceAdd, Nat.reduceMul, Nat.reduceSub, Int.reduceToNat, Int.reduceAdd, Int.reduceSub, Int.reduceMul, Int.reduceNeg]))); refine vCall_eq (hm) (by simp (disch := omega) only [go_sem, Nat.reduceAdd]) rfl (by first | exact Or.inl rfl | exact Or.inr ⟨rfl, rfl⟩ | (apply Or.inr; simp only [go_sem])) ?_; (try (simp (maxSteps := 2000000) (disch := omega) only [go_sem, Nat.reduceEqDiff, Nat.reduceAdd, Nat.reduceMul, Nat.reduceSub, Int.reduceToNat, Int.reduceAdd, Int.reduceSub, Int.reduceMul, Int.reduceNeg]; repeat ((first | refine vIf_t ?_ | refine vIf_f ?_); simp (maxSteps := 2000000) (disch := omega) only [go_sem, Nat.reduceEqDiff, Nat.reduceAdd, Nat.reduceMul, Nat.reduceSub, Int.reduceToNat, Int.reduceAdd, Int.reduceSub, Int.reduceMul, Int.reduceNeg]))))
  (try (simp (maxSteps := 2000000) (disch := omega) only [go_sem, Nat.reduceEqDiff, Nat.reduceAdd, Nat.reduceMul, Nat.reduceSub, Int.reduceToNat, Int.reduceAdd, Int.reduceSub, Int.reduceMul, Int.reduceNeg]; repeat ((first | refine vIf_t ?_ | refine vIf_f ?_); simp (maxSteps := 2000000) (disch := omega) only [go_sem, Nat.reduceEqDiff, Nat.reduceAdd, Nat.reduceMul, Nat.reduceSub, Int.reduceToNat, Int.reduceAdd, Int.reduceSub, Int.reduceMul, Int.reduceNeg])))
  (refine vsCallX_of ?_; (try (simp (maxSteps := 2000000) (disch := omega) only [go_sem, Nat.reduceEqDiff, Nat.reduceAdd, Nat.reduceMul, Nat.reduceSub, Int.reduceToNat, Int.reduceAdd, Int.reduceSub, Int.reduceMul, Int.reduceNeg]; repeat ((first | refine vIf_t ?_ | refine vIf_f ?_); simp (maxSteps := 2000000) (disch := omega) only [go_sem, Nat.reduceEqDiff, Nat.reduceAdd, Nat.reduceMul, Nat.reduceSub, Int.reduceToNat, Int.reduceAdd, Int.reduceSub, Int.reduceMul, Int.reduceNeg]))); refine vCall_eq (hs) (by simp (disch := omega) only [go_sem, Nat.reduceAdd]) rfl (by first | exact Or.inl rfl | exact Or.inr ⟨rfl, rfl⟩ | (apply Or.inr; simp only [go_sem])) ?_; (try (simp (maxSteps := 2000000) (disch := omega) only [go_sem, Nat.reduceEqDiff, Nat.reduceAdd, Nat.reduceMul, Nat.reduceSub, Int.reduceToNat, Int.reduceAdd, Int.reduceSub, Int.reduceMul, Int.reduceNeg]; repeat ((first | refine vIf_t ?_ | refine vIf_f ?_); simp (maxSteps := 2000000) (disch := omega) only [go_sem, Nat.reduceEqDiff, Nat.reduceAdd, Nat.reduceMul, Nat.reduceSub, Int.reduceToNat, Int.reduceAdd, Int.reduceSub, Int.reduceMul, Int.reduceNeg]))))
  (try (simp (maxSteps := 2000000) (disch := omega) only [go_sem, Nat.reduceEqDiff, Nat.reduceAdd, Nat.reduceMul, Nat.reduceSub, Int.reduceToNat, Int.reduceAdd, Int.reduceSub, Int.reduceMul, Int.reduceNeg]; repeat ((first | refine vIf_t ?_ | refine vIf_f ?_); simp (maxSteps := 2000000) (disch := omega) only [go_sem, Nat.reduceEqDiff, Nat.reduceAdd, Nat.reduceMul, Nat.reduceSub, Int.reduceToNat, Int.reduceAdd, Int.reduceSub, Int.reduceMul, Int.reduceNeg])))
  (refine retK_of ?_; (simp (maxSteps := 2000000) (disch := omega) only [go_sem, Nat.reduceEqDiff, Nat.reduceAdd, Nat.reduceMul, Nat.reduceSub, Int.reduceToNat, Int.reduceAdd, Int.reduceSub, Int.reduceMul, Int.reduceNeg]; repeat ((first | refine vIf_t ?_ | refine vIf_f ?_); simp (maxSteps := 2000000) (disch := omega) only [go_sem, Nat.reduceEqDiff, Nat.reduceAdd, Nat.reduceMul, Nat.reduceSub, Int.reduceToNat, Int.reduceAdd, Int.reduceSub, Int.reduceMul, Int.reduceNeg])))
  rfl
theorem gr_filter_mem {q : List Int → Bool} (L : List (List Int)) (k : Nat) (h : k < L.length) : (L.take (k + 1)).filter q = if q (gr L k) then (L.take k).filter q ++ [gr L k] else (L.take k).filter q := by
  have e : gr L k = L[k] := by simp [gr, h]
  rw [List.take_succ_eq_append_getElem h, List.filter_append, e]
  cases hq : q L[k] <;> simp [hq]
theorem subs_rows {n : Nat} (hn : n ≤ 8) {xs : List Int} (e : xs.length = n := by rfl) : ∀ k, k < (sI (subs n (2 ^ n))).length → (gr (sI (subs n (2 ^ n))) k).length ≤ 8 ∧ inR xs (gr (sI (subs n (2 ^ n))) k) := fun k h => by
  have h : k < (subs n (2 ^ n)).length := by simpa [sI] using h
  have hgr : gr (sI (subs n (2 ^ n))) k = nI (subs n (2 ^ n))[k] := by simp [gr, sI, h]
  obtain ⟨m1, m2⟩ := subs_mem hn (List.getElem_mem h)
  rw [hgr]
  refine ⟨by rw [nI_len]; exact m1, fun j hj => ?_⟩
  rw [nI_len] at hj
  rw [nI_get _ j hj]
  have := m2 _ (List.getElem_mem hj)
  omega
set_option maxRecDepth 100000 in
set_option maxHeartbeats 8000000 in
theorem least_ok (xs : List Int) (hok : okV xs 60 = true) : ACalls Try.prog 11 [iS xs] [] (fun r o => r = .tup [.ref 0 0 (LC xs).length, I 0] ∧ o = [some ⟨1, rws (LC xs)⟩]) := by
  refine ACalls.of_vc Try.func11 rfl (by decide) 36 rfl [.tmp 2, .tmp 3] rfl (by simp) ?_
  obtain ⟨g1, g2, g3, g4, g5⟩ := okV_sum (by omega) hok
  obtain ⟨p1, p2, p3⟩ := pow2_le xs.length g3
  have ham := am_ok xs (by omega)
  have hsz := size_ok (ints xs) xs.length
  have hsub := subsets_ok xs.length g3
  unfold iS at ham ⊢
  (simp (maxSteps := 2000000) (disch := omega) only [go_sem, Nat.reduceEqDiff, Nat.reduceAdd, Nat.reduceMul, Nat.reduceSub, Int.reduceToNat, Int.reduceAdd, Int.reduceSub, Int.reduceMul, Int.reduceNeg]; repeat ((first | refine vIf_t ?_ | refine vIf_f ?_); simp (maxSteps := 2000000) (disch := omega) only [go_sem, Nat.reduceEqDiff, Nat.reduceAdd, Nat.reduceMul, Nat.reduceSub, Int.reduceToNat, Int.reduceAdd, Int.reduceSub, Int.reduceMul, Int.reduceNeg]))
  (refine vCallX_of ?_; (simp (maxSteps := 2000000) (disch := omega) only [go_sem, Nat.reduceEqDiff, Nat.reduceAdd, Nat.reduceMul, Nat.reduceSub, Int.reduceToNat, Int.reduceAdd, Int.reduceSub, Int.reduceMul, Int.reduceNeg]; repeat ((first | refine vIf_t ?_ | refine vIf_f ?_); simp (maxSteps := 2000000) (disch := omega) only [go_sem, Nat.reduceEqDiff, Nat.reduceAdd, Nat.reduceMul, Nat.reduceSub, Int.reduceToNat, Int.reduceAdd, Int.reduceSub, Int.reduceMul, Int.reduceNeg])); refine vCall_eq (ham) (by simp (disch := omega) only [go_sem, Nat.reduceAdd]) rfl (by first | exact Or.inl rfl | exact Or.inr ⟨rfl, rfl⟩ | (apply Or.inr; simp only [go_sem])) ?_; (simp (maxSteps := 2000000) (disch := omega) only [go_sem, Nat.reduceEqDiff, Nat.reduceAdd, Nat.reduceMul, Nat.reduceSub, Int.reduceToNat, Int.reduceAdd, Int.reduceSub, Int.reduceMul, Int.reduceNeg]; repeat ((first | refine vIf_t ?_ | refine vIf_f ?_); simp (maxSteps := 2000000) (disch := omega) only [go_sem, Nat.reduceEqDiff, Nat.reduceAdd, Nat.reduceMul, Nat.reduceSub, Int.reduceToNat, Int.reduceAdd, Int.reduceSub, Int.reduceMul, Int.reduceNeg])))
  (simp (maxSteps := 2000000) (disch := omega) only [go_sem, Nat.reduceEqDiff, Nat.reduceAdd, Nat.reduceMul, Nat.reduceSub, Int.reduceToNat, Int.reduceAdd, Int.reduceSub, Int.reduceMul, Int.reduceNeg, hok]; repeat ((first | refine vIf_t ?_ | refine vIf_f ?_); simp (maxSteps := 2000000) (disch := omega) only [go_sem, Nat.reduceEqDiff, Nat.reduceAdd, Nat.reduceMul, Nat.reduceSub, Int.reduceToNat, Int.reduceAdd, Int.reduceSub, Int.reduceMul, Int.reduceNeg, hok]))
  (refine vCallX_of ?_; (simp (maxSteps := 2000000) (disch := omega) only [go_sem, Nat.reduceEqDiff, Nat.reduceAdd, Nat.reduceMul, Nat.reduceSub, Int.reduceToNat, Int.reduceAdd, Int.reduceSub, Int.reduceMul, Int.reduceNeg]; repeat ((first | refine vIf_t ?_ | refine vIf_f ?_); simp (maxSteps := 2000000) (disch := omega) only [go_sem, Nat.reduceEqDiff, Nat.reduceAdd, Nat.reduceMul, Nat.reduceSub, Int.reduceToNat, Int.reduceAdd, Int.reduceSub, Int.reduceMul, Int.reduceNeg])); refine vCall_eq (hsz) (by simp (disch := omega) only [go_sem, Nat.reduceAdd]) rfl (by first | exact Or.inl rfl | exact Or.inr ⟨rfl, rfl⟩ | (apply Or.inr; simp only [go_sem])) ?_; (simp (maxSteps := 2000000) (disch := omega) only [go_sem, Nat.reduceEqDiff, Nat.reduceAdd, Nat.reduceMul, Nat.reduceSub, Int.reduceToNat, Int.reduceAdd, Int.reduceSub, Int.reduceMul, Int.reduceNeg]; repeat ((first | refine vIf_t ?_ | refine vIf_f ?_); simp (maxSteps := 2000000) (disch := omega) only [go_sem, Nat.reduceEqDiff, Nat.reduceAdd, Nat.reduceMul, Nat.reduceSub, Int.reduceToNat, Int.reduceAdd, Int.reduceSub, Int.reduceMul, Int.reduceNeg])))
  (refine vCallX_of ?_; (simp (maxSteps := 2000000) (disch := omega) only [go_sem, Nat.reduceEqDiff, Nat.reduceAdd, Nat.reduceMul, Nat.reduceSub, Int.reduceToNat, Int.reduceAdd, Int.reduceSub, Int.reduceMul, Int.reduceNeg]; repeat ((first | refine vIf_t ?_ | refine vIf_f ?_); simp (maxSteps := 2000000) (disch := omega) only [go_sem, Nat.reduceEqDiff, Nat.reduceAdd, Nat.reduceMul, Nat.reduceSub, Int.reduceToNat, Int.reduceAdd, Int.reduceSub, Int.reduceMul, Int.reduceNeg])); refine vCall_eq (hsub) (by simp (disch := omega) only [go_sem, Nat.reduceAdd]) rfl (by first | exact Or.inl rfl | exact Or.inr ⟨rfl, rfl⟩ | (apply Or.inr; simp only [go_sem])) ?_; (simp (maxSteps := 2000000) (disch := omega) only [go_sem, Nat.reduceEqDiff, Nat.reduceAdd, Nat.reduceMul, Nat.reduceSub, Int.reduceToNat, Int.reduceAdd, Int.reduceSub, Int.reduceMul, Int.reduceNeg]; repeat ((first | refine vIf_t ?_ | refine vIf_f ?_); simp (maxSteps := 2000000) (disch := omega) only [go_sem, Nat.reduceEqDiff, Nat.reduceAdd, Nat.reduceMul, Nat.reduceSub, Int.reduceToNat, Int.reduceAdd, Int.reduceSub, Int.reduceMul, Int.reduceNeg])))
  have hmem := subs_rows g3 (xs := xs)
  have hLC : LC xs = (sI (subs xs.length (2 ^ xs.length))).filter (lsB xs) := rfl
  have hlq0 : (sI (subs xs.length (2 ^ xs.length))).length = 2 ^ xs.length := by simp [sI, (subs_ok xs.length g3).2.1]
  generalize sI (subs xs.length (2 ^ xs.length)) = L at hLC hmem hlq0 ⊢
  rw [← hlq0] at p1 ⊢
  refine vcLoop_inv (fun k : Nat => k ≤ L.length) (fun k => ⟨36, 0, [(17, I k), (16, I L.length), (15, .ref 2 0 L.length), (4, .ref 1 0 ((L.take k).filter (lsB xs)).length), (1, .ptr 0 0)], [some ⟨1, [iS xs]⟩, some ⟨1, rws ((L.take k).filter (lsB xs))⟩, some ⟨1, rws L⟩]⟩) (fun k => L.length - k) 0 (by omega) (by (simp (maxSteps := 2000000) (disch := omega) only [go_sem, Nat.reduceEqDiff, Nat.reduceAdd, Nat.reduceMul, Nat.reduceSub, Int.reduceToNat, Int.reduceAdd, Int.reduceSub, Int.reduceMul, Int.reduceNeg, iS]; repeat ((first | refine vIf_t ?_ | refine vIf_f ?_); simp (maxSteps := 2000000) (disch := omega) only [go_sem, Nat.reduceEqDiff, Nat.reduceAdd, Nat.reduceMul, Nat.reduceSub, Int.reduceToNat, Int.reduceAdd, Int.reduceSub, Int.reduceMul, Int.reduceNeg, iS])); simp [rws]) ?_
  intro k hk
  have hfl : ((L.take k).filter (lsB xs)).length ≤ 256 := by
    have := List.length_filter_le (lsB xs) (L.take k)
    simp at this; omega
  obtain ⟨M, hM⟩ : ∃ M, M = (L.take k).filter (lsB xs) := ⟨_, rfl⟩
  simp only [← hM] at hfl ⊢
  unfold iS
  (simp (maxSteps := 2000000) (disch := omega) only [go_sem, Nat.reduceEqDiff, Nat.reduceAdd, Nat.reduceMul, Nat.reduceSub, Int.reduceToNat, Int.reduceAdd, Int.reduceSub, Int.reduceMul, Int.reduceNeg]; repeat ((first | refine vIf_t ?_ | refine vIf_f ?_); simp (maxSteps := 2000000) (disch := omega) only [go_sem, Nat.reduceEqDiff, Nat.reduceAdd, Nat.reduceMul, Nat.reduceSub, Int.reduceToNat, Int.reduceAdd, Int.reduceSub, Int.reduceMul, Int.reduceNeg]))
  refine vIf_dec (fun hc => ?_) (fun hc => ?_)
  · have hkl : k < L.length := by omega
    obtain ⟨m1, m2⟩ := hmem k hkl
    have hss := gr_filter_mem (q := lsB xs) L k hkl
    rw [← hM] at hss
    obtain ⟨s, hs⟩ : ∃ s, s = gr L k := ⟨_, rfl⟩
    rw [← hs] at m1 m2 hss
    have hall := all_ok 60 [.ip [iS xs] 0, .ip [iS s] 0] (crB xs s) s (fun y hy => by
      obtain ⟨j, hj, e⟩ := List.mem_iff_getElem.1 hy
      have := m2 j hj
      rw [gi_lt _ _ hj, e] at this
      exact lc1_ok xs s y (by omega) (by omega) m2 this) rfl (by omega)
    have hwn := wins_ok xs s (by omega) (by omega) m2
    unfold iS at hall hwn
    (simp (maxSteps := 2000000) (disch := omega) only [go_sem, Nat.reduceEqDiff, Nat.reduceAdd, Nat.reduceMul, Nat.reduceSub, Int.reduceToNat, Int.reduceAdd, Int.reduceSub, Int.reduceMul, Int.reduceNeg, ← hs]; repeat ((first | refine vIf_t ?_ | refine vIf_f ?_); simp (maxSteps := 2000000) (disch := omega) only [go_sem, Nat.reduceEqDiff, Nat.reduceAdd, Nat.reduceMul, Nat.reduceSub, Int.reduceToNat, Int.reduceAdd, Int.reduceSub, Int.reduceMul, Int.reduceNeg, ← hs]))
    (refine vCallX_of ?_; (simp (maxSteps := 2000000) (disch := omega) only [go_sem, Nat.reduceEqDiff, Nat.reduceAdd, Nat.reduceMul, Nat.reduceSub, Int.reduceToNat, Int.reduceAdd, Int.reduceSub, Int.reduceMul, Int.reduceNeg]; repeat ((first | refine vIf_t ?_ | refine vIf_f ?_); simp (maxSteps := 2000000) (disch := omega) only [go_sem, Nat.reduceEqDiff, Nat.reduceAdd, Nat.reduceMul, Nat.reduceSub, Int.reduceToNat, Int.reduceAdd, Int.reduceSub, Int.reduceMul, Int.reduceNeg])); refine vCall_eq (hall) (by simp (disch := omega) only [go_sem, Nat.reduceAdd]) rfl (by first | exact Or.inl rfl | exact Or.inr ⟨rfl, rfl⟩ | (apply Or.inr; simp only [go_sem])) ?_; (simp (maxSteps := 2000000) (disch := omega) only [go_sem, Nat.reduceEqDiff, Nat.reduceAdd, Nat.reduceMul, Nat.reduceSub, Int.reduceToNat, Int.reduceAdd, Int.reduceSub, Int.reduceMul, Int.reduceNeg]; repeat ((first | refine vIf_t ?_ | refine vIf_f ?_); simp (maxSteps := 2000000) (disch := omega) only [go_sem, Nat.reduceEqDiff, Nat.reduceAdd, Nat.reduceMul, Nat.reduceSub, Int.reduceToNat, Int.reduceAdd, Int.reduceSub, Int.reduceMul, Int.reduceNeg])))
    (refine vCallX_of ?_; (simp (maxSteps := 2000000) (disch := omega) only [go_sem, Nat.reduceEqDiff, Nat.reduceAdd, Nat.reduceMul, Nat.reduceSub, Int.reduceToNat, Int.reduceAdd, Int.reduceSub, Int.reduceMul, Int.reduceNeg]; repeat ((first | refine vIf_t ?_ | refine vIf_f ?_); simp (maxSteps := 2000000) (disch := omega) only [go_sem, Nat.reduceEqDiff, Nat.reduceAdd, Nat.reduceMul, Nat.reduceSub, Int.reduceToNat, Int.reduceAdd, Int.reduceSub, Int.reduceMul, Int.reduceNeg])); refine vCall_eq (hwn) (by simp (disch := omega) only [go_sem, Nat.reduceAdd]) rfl (by first | exact Or.inl rfl | exact Or.inr ⟨rfl, rfl⟩ | (apply Or.inr; simp only [go_sem])) ?_; (simp (maxSteps := 2000000) (disch := omega) only [go_sem, Nat.reduceEqDiff, Nat.reduceAdd, Nat.reduceMul, Nat.reduceSub, Int.reduceToNat, Int.reduceAdd, Int.reduceSub, Int.reduceMul, Int.reduceNeg]; repeat ((first | refine vIf_t ?_ | refine vIf_f ?_); simp (maxSteps := 2000000) (disch := omega) only [go_sem, Nat.reduceEqDiff, Nat.reduceAdd, Nat.reduceMul, Nat.reduceSub, Int.reduceToNat, Int.reduceAdd, Int.reduceSub, Int.reduceMul, Int.reduceNeg])))
    have hls : lsB xs s = (decide (wsum xs < IntKind.wrap .i64 (2 * mand xs s)) && s.all (crB xs s)) := rfl
    cases hw : decide (wsum xs < IntKind.wrap .i64 (2 * mand xs s)) with
    | false =>
      rw [hw, Bool.false_and] at hls
      rw [hls, if_neg (by simp)] at hss
      (simp (maxSteps := 2000000) (disch := omega) only [go_sem, Nat.reduceEqDiff, Nat.reduceAdd, Nat.reduceMul, Nat.reduceSub, Int.reduceToNat, Int.reduceAdd, Int.reduceSub, Int.reduceMul, Int.reduceNeg, hw]; repeat ((first | refine vIf_t ?_ | refine vIf_f ?_); simp (maxSteps := 2000000) (disch := omega) only [go_sem, Nat.reduceEqDiff, Nat.reduceAdd, Nat.reduceMul, Nat.reduceSub, Int.reduceToNat, Int.reduceAdd, Int.reduceSub, Int.reduceMul, Int.reduceNeg, hw]))
      refine again (k + 1) (by omega) (by omega) ?_
      rw [hss]
      (simp (maxSteps := 2000000) (disch := omega) only [go_sem, Nat.reduceEqDiff, Nat.reduceAdd, Nat.reduceMul, Nat.reduceSub, Int.reduceToNat, Int.reduceAdd, Int.reduceSub, Int.reduceMul, Int.reduceNeg, iS]; repeat ((first | refine vIf_t ?_ | refine vIf_f ?_); simp (maxSteps := 2000000) (disch := omega) only [go_sem, Nat.reduceEqDiff, Nat.reduceAdd, Nat.reduceMul, Nat.reduceSub, Int.reduceToNat, Int.reduceAdd, Int.reduceSub, Int.reduceMul, Int.reduceNeg, iS]))
    | true =>
      cases ha : s.all (crB xs s) with
      | false =>
        rw [hw, ha] at hls
        rw [hls, if_neg (by simp)] at hss
        (simp (maxSteps := 2000000) (disch := omega) only [go_sem, Nat.reduceEqDiff, Nat.reduceAdd, Nat.reduceMul, Nat.reduceSub, Int.reduceToNat, Int.reduceAdd, Int.reduceSub, Int.reduceMul, Int.reduceNeg, hw, ha]; repeat ((first | refine vIf_t ?_ | refine vIf_f ?_); simp (maxSteps := 2000000) (disch := omega) only [go_sem, Nat.reduceEqDiff, Nat.reduceAdd, Nat.reduceMul, Nat.reduceSub, Int.reduceToNat, Int.reduceAdd, Int.reduceSub, Int.reduceMul, Int.reduceNeg, hw, ha]))
        refine again (k + 1) (by omega) (by omega) ?_
        rw [hss]
        (simp (maxSteps := 2000000) (disch := omega) only [go_sem, Nat.reduceEqDiff, Nat.reduceAdd, Nat.reduceMul, Nat.reduceSub, Int.reduceToNat, Int.reduceAdd, Int.reduceSub, Int.reduceMul, Int.reduceNeg, iS]; repeat ((first | refine vIf_t ?_ | refine vIf_f ?_); simp (maxSteps := 2000000) (disch := omega) only [go_sem, Nat.reduceEqDiff, Nat.reduceAdd, Nat.reduceMul, Nat.reduceSub, Int.reduceToNat, Int.reduceAdd, Int.reduceSub, Int.reduceMul, Int.reduceNeg, iS]))
      | true =>
        rw [hw, ha] at hls
        rw [hls, if_pos (by simp)] at hss
        (simp (maxSteps := 2000000) (disch := omega) only [go_sem, Nat.reduceEqDiff, Nat.reduceAdd, Nat.reduceMul, Nat.reduceSub, Int.reduceToNat, Int.reduceAdd, Int.reduceSub, Int.reduceMul, Int.reduceNeg, hw, ha]; repeat ((first | refine vIf_t ?_ | refine vIf_f ?_); simp (maxSteps := 2000000) (disch := omega) only [go_sem, Nat.reduceEqDiff, Nat.reduceAdd, Nat.reduceMul, Nat.reduceSub, Int.reduceToNat, Int.reduceAdd, Int.reduceSub, Int.reduceMul, Int.reduceNeg, hw, ha]))
        refine again (k + 1) (by omega) (by omega) ?_
        rw [hss]
        (simp (maxSteps := 2000000) (disch := omega) only [go_sem, Nat.reduceEqDiff, Nat.reduceAdd, Nat.reduceMul, Nat.reduceSub, Int.reduceToNat, Int.reduceAdd, Int.reduceSub, Int.reduceMul, Int.reduceNeg, iS]; repeat ((first | refine vIf_t ?_ | refine vIf_f ?_); simp (maxSteps := 2000000) (disch := omega) only [go_sem, Nat.reduceEqDiff, Nat.reduceAdd, Nat.reduceMul, Nat.reduceSub, Int.reduceToNat, Int.reduceAdd, Int.reduceSub, Int.reduceMul, Int.reduceNeg, iS]))
  · have e : k = L.length := by omega
    subst e
    rw [List.take_length, ← hLC] at hM
    rw [hM]
    (simp (maxSteps := 2000000) (disch := omega) only [go_sem, Nat.reduceEqDiff, Nat.reduceAdd, Nat.reduceMul, Nat.reduceSub, Int.reduceToNat, Int.reduceAdd, Int.reduceSub, Int.reduceMul, Int.reduceNeg]; repeat ((first | refine vIf_t ?_ | refine vIf_f ?_); simp (maxSteps := 2000000) (disch := omega) only [go_sem, Nat.reduceEqDiff, Nat.reduceAdd, Nat.reduceMul, Nat.reduceSub, Int.reduceToNat, Int.reduceAdd, Int.reduceSub, Int.reduceMul, Int.reduceNeg]))
    (refine retK_of ?_; (simp (maxSteps := 2000000) (disch := omega) only [go_sem, Nat.reduceEqDiff, Nat.reduceAdd, Nat.reduceMul, Nat.reduceSub, Int.reduceToNat, Int.reduceAdd, Int.reduceSub, Int.reduceMul, Int.reduceNeg]; repeat ((first | refine vIf_t ?_ | refine vIf_f ?_); simp (maxSteps := 2000000) (disch := omega) only [go_sem, Nat.reduceEqDiff, Nat.reduceAdd, Nat.reduceMul, Nat.reduceSub, Int.reduceToNat, Int.reduceAdd, Int.reduceSub, Int.reduceMul, Int.reduceNeg])))
/-- the winning set with the fewest mandates, the first one -/
def clK (xs : List Int) (L : List (List Int)) : Nat → List Int × Int
  | 0 => ([], -1)
  | k + 1 => if wnB xs (gr L k) = true ∧ ((clK xs L k).2 < 0 ∨ mand xs (gr L k) < (clK xs L k).2) then (gr L k, mand xs (gr L k)) else clK xs L k
def CL (xs : List Int) : List Int × Int := clK xs (sI (subs xs.length (2 ^ xs.length))) (2 ^ xs.length)
set_option maxRecDepth 100000 in
set_option maxHeartbeats 8000000 in
theorem closest_ok (xs : List Int) (hok : okV xs 60 = true) : ACalls Try.prog 13 [iS xs] [] (fun r o => r = .tup [iS (CL xs).1, I (CL xs).2, I 0] ∧ o = []) := by
  refine ACalls.of_vc Try.func13 rfl (by decide) 43 rfl [.tmp 2, .tmp 3, .tmp 4] rfl (by simp) ?_
  obtain ⟨g1, g2, g3, g4, g5⟩ := okV_sum (by omega) hok
  obtain ⟨p1, p2, p3⟩ := pow2_le xs.length g3
  have ham := am_ok xs (by omega)
  have hsz := size_ok (ints xs) xs.length
  have hsub := subsets_ok xs.length g3
  unfold iS at ham ⊢
  (simp (maxSteps := 2000000) (disch := omega) only [go_sem, Nat.reduceEqDiff, Nat.reduceAdd, Nat.reduceMul, Nat.reduceSub, Int.reduceToNat, Int.reduceAdd, Int.reduceSub, Int.reduceMul, Int.reduceNeg]; repeat ((first | refine vIf_t ?_ | refine vIf_f ?_); simp (maxSteps := 2000000) (disch := omega) only [go_sem, Nat.reduceEqDiff, Nat.reduceAdd, Nat.reduceMul, Nat.reduceSub, Int.reduceToNat, Int.reduceAdd, Int.reduceSub, Int.reduceMul, Int.reduceNeg]))
  (refine vCallX_of ?_; (simp (maxSteps := 2000000) (disch := omega) only [go_sem, Nat.reduceEqDiff, Nat.reduceAdd, Nat.reduceMul, Nat.reduceSub, Int.reduceToNat, Int.reduceAdd, Int.reduceSub, Int.reduceMul, Int.reduceNeg]; repeat ((first | refine vIf_t ?_ | refine vIf_f ?_); simp (maxSteps := 2000000) (disch := omega) only [go_sem, Nat.reduceEqDiff, Nat.reduceAdd, Nat.reduceMul, Nat.reduceSub, Int.reduceToNat, Int.reduceAdd, Int.reduceSub, Int.reduceMul, Int.reduceNeg])); refine vCall_eq (ham) (by simp (disch := omega) only [go_sem, Nat.reduceAdd]) rfl (by first | exact Or.inl rfl | exact Or.inr ⟨rfl, rfl⟩ | (apply Or.inr; simp only [go_sem])) ?_; (simp (maxSteps := 2000000) (disch := omega) only [go_sem, Nat.reduceEqDiff, Nat.reduceAdd, Nat.reduceMul, Nat.reduceSub, Int.reduceToNat, Int.reduceAdd, Int.reduceSub, Int.reduceMul, Int.reduceNeg]; repeat ((first | refine vIf_t ?_ | refine vIf_f ?_); simp (maxSteps := 2000000) (disch := omega) only [go_sem, Nat.reduceEqDiff, Nat.reduceAdd, Nat.reduceMul, Nat.reduceSub, Int.reduceToNat, Int.reduceAdd, Int.reduceSub, Int.reduceMul, Int.reduceNeg])))
  (simp (maxSteps := 2000000) (disch := omega) only [go_sem, Nat.reduceEqDiff, Nat.reduceAdd, Nat.reduceMul, Nat.reduceSub, Int.reduceToNat, Int.reduceAdd, Int.reduceSub, Int.reduceMul, Int.reduceNeg, hok]; repeat ((first | refine vIf_t ?_ | refine vIf_f ?_); simp (maxSteps := 2000000) (disch := omega) only [go_sem, Nat.reduceEqDiff, Nat.reduceAdd, Nat.reduceMul, Nat.reduceSub, Int.reduceToNat, Int.reduceAdd, Int.reduceSub, Int.reduceMul, Int.reduceNeg, hok]))
  (refine vCallX_of ?_; (simp (maxSteps := 2000000) (disch := omega) only [go_sem, Nat.reduceEqDiff, Nat.reduceAdd, Nat.reduceMul, Nat.reduceSub, Int.reduceToNat, Int.reduceAdd, Int.reduceSub, Int.reduceMul, Int.reduceNeg]; repeat ((first | refine vIf_t ?_ | refine vIf_f ?_); simp (maxSteps := 2000000) (disch := omega) only [go_sem, Nat.reduceEqDiff, Nat.reduceAdd, Nat.reduceMul, Nat.reduceSub, Int.reduceToNat, Int.reduceAdd, Int.reduceSub, Int.reduceMul, Int.reduceNeg])); refine vCall_eq (hsz) (by simp (disch := omega) only [go_sem, Nat.reduceAdd]) rfl (by first | exact Or.inl rfl | exact Or.inr ⟨rfl, rfl⟩ | (apply Or.inr; simp only [go_sem])) ?_; (simp (maxSteps := 2000000) (disch := omega) only [go_sem, Nat.reduceEqDiff, Nat.reduceAdd, Nat.reduceMul, Nat.reduceSub, Int.reduceToNat, Int.reduceAdd, Int.reduceSub, Int.reduceMul, Int.reduceNeg]; repeat ((first | refine vIf_t ?_ | refine vIf_f ?_); simp (maxSteps := 2000000) (disch := omega) only [go_sem, Nat.reduceEqDiff, Nat.reduceAdd, Nat.reduceMul, Nat.reduceSub, Int.reduceToNat, Int.reduceAdd, Int.reduceSub, Int.reduceMul, Int.reduceNeg])))
  (refine vCallX_of ?_; (simp (maxSteps := 2000000) (disch := omega) only [go_sem, Nat.reduceEqDiff, Nat.reduceAdd, Nat.reduceMul, Nat.reduceSub, Int.reduceToNat, Int.reduceAdd, Int.reduceSub, Int.reduceMul, Int.reduceNeg]; repeat ((first | refine vIf_t ?_ | refine vIf_f ?_); simp (maxSteps := 2000000) (disch := omega) only [go_sem, Nat.reduceEqDiff, Nat.reduceAdd, Nat.reduceMul, Nat.reduceSub, Int.reduceToNat, Int.reduceAdd, Int.reduceSub, Int.reduceMul, Int.reduceNeg])); refine vCall_eq (hsub) (by simp (disch := omega) only [go_sem, Nat.reduceAdd]) rfl (by first | exact Or.inl rfl | exact Or.inr ⟨rfl, rfl⟩ | (apply Or.inr; simp only [go_sem])) ?_; (simp (maxSteps := 2000000) (disch := omega) only [go_sem, Nat.reduceEqDiff, Nat.reduceAdd, Nat.reduceMul, Nat.reduceSub, Int.reduceToNat, Int.reduceAdd, Int.reduceSub, Int.reduceMul, Int.reduceNeg]; repeat ((first | refine vIf_t ?_ | refine vIf_f ?_); simp (maxSteps := 2000000) (disch := omega) only [go_sem, Nat.reduceEqDiff, Nat.reduceAdd, Nat.reduceMul, Nat.reduceSub, Int.reduceToNat, Int.reduceAdd, Int.reduceSub, Int.reduceMul, Int.reduceNeg])))
  have hmem := subs_rows g3 (xs := xs)
  have hCL : CL xs = clK xs (sI (subs xs.length (2 ^ xs.length))) (2 ^ xs.length) := rfl
  have hlq0 : (sI (subs xs.length (2 ^ xs.length))).length = 2 ^ xs.length := by simp [sI, (subs_ok xs.length g3).2.1]
  generalize sI (subs xs.length (2 ^ xs.length)) = L at hCL hmem hlq0 ⊢
  rw [← hlq0] at p1 hCL ⊢
  refine vcLoop_inv_frz (fun k : Nat => k ≤ L.length) (fun k => ⟨43, 0, [(19, I k), (18, I L.length), (17, .ref 1 0 L.length), (0, iS xs), (5, iS (clK xs L k).1), (6, I (clK xs L k).2)], [none, some ⟨1, rws L⟩]⟩) (fun k => L.length - k) 0 (.step 0 _ rfl (by (simp (maxSteps := 2000000) (disch := omega) only [go_sem, Nat.reduceEqDiff, Nat.reduceAdd, Nat.reduceMul, Nat.reduceSub, Int.reduceToNat, Int.reduceAdd, Int.reduceSub, Int.reduceMul, Int.reduceNeg]; repeat ((first | refine vIf_t ?_ | refine vIf_f ?_); simp (maxSteps := 2000000) (disch := omega) only [go_sem, Nat.reduceEqDiff, Nat.reduceAdd, Nat.reduceMul, Nat.reduceSub, Int.reduceToNat, Int.reduceAdd, Int.reduceSub, Int.reduceMul, Int.reduceNeg]))) (.refl _)) (by omega) (by (simp (maxSteps := 2000000) (disch := omega) only [go_sem, Nat.reduceEqDiff, Nat.reduceAdd, Nat.reduceMul, Nat.reduceSub, Int.reduceToNat, Int.reduceAdd, Int.reduceSub, Int.reduceMul, Int.reduceNeg, iS, clK]; repeat ((first | refine vIf_t ?_ | refine vIf_f ?_); simp (maxSteps := 2000000) (disch := omega) only [go_sem, Nat.reduceEqDiff, Nat.reduceAdd, Nat.reduceMul, Nat.reduceSub, Int.reduceToNat, Int.reduceAdd, Int.reduceSub, Int.reduceMul, Int.reduceNeg, iS, clK])); all_goals (try simp)) ?_
  intro k hk
  unfold iS
  (simp (maxSteps := 2000000) (disch := omega) only [go_sem, Nat.reduceEqDiff, Nat.reduceAdd, Nat.reduceMul, Nat.reduceSub, Int.reduceToNat, Int.reduceAdd, Int.reduceSub, Int.reduceMul, Int.reduceNeg]; repeat ((first | refine vIf_t ?_ | refine vIf_f ?_); simp (maxSteps := 2000000) (disch := omega) only [go_sem, Nat.reduceEqDiff, Nat.reduceAdd, Nat.reduceMul, Nat.reduceSub, Int.reduceToNat, Int.reduceAdd, Int.reduceSub, Int.reduceMul, Int.reduceNeg]))
  refine vIf_dec (fun hc => ?_) (fun hc => ?_)
  · have hkl : k < L.length := by omega
    obtain ⟨m1, m2⟩ := hmem k hkl
    have hss : clK xs L (k + 1) = if wnB xs (gr L k) = true ∧ ((clK xs L k).2 < 0 ∨ mand xs (gr L k) < (clK xs L k).2) then (gr L k, mand xs (gr L k)) else clK xs L k := rfl
    obtain ⟨s, hs⟩ : ∃ s, s = gr L k := ⟨_, rfl⟩
    rw [← hs] at m1 m2 hss
    have hwn := wins_ok xs s (by omega) (by omega) m2
    have hmn := mand_ok xs s (by omega) (by omega) m2
    unfold iS at hwn hmn
    (simp (maxSteps := 2000000) (disch := omega) only [go_sem, Nat.reduceEqDiff, Nat.reduceAdd, Nat.reduceMul, Nat.reduceSub, Int.reduceToNat, Int.reduceAdd, Int.reduceSub, Int.reduceMul, Int.reduceNeg, ← hs]; repeat ((first | refine vIf_t ?_ | refine vIf_f ?_); simp (maxSteps := 2000000) (disch := omega) only [go_sem, Nat.reduceEqDiff, Nat.reduceAdd, Nat.reduceMul, Nat.reduceSub, Int.reduceToNat, Int.reduceAdd, Int.reduceSub, Int.reduceMul, Int.reduceNeg, ← hs]))
    (refine vCallX_of ?_; (simp (maxSteps := 2000000) (disch := omega) only [go_sem, Nat.reduceEqDiff, Nat.reduceAdd, Nat.reduceMul, Nat.reduceSub, Int.reduceToNat, Int.reduceAdd, Int.reduceSub, Int.reduceMul, Int.reduceNeg]; repeat ((first | refine vIf_t ?_ | refine vIf_f ?_); simp (maxSteps := 2000000) (disch := omega) only [go_sem, Nat.reduceEqDiff, Nat.reduceAdd, Nat.reduceMul, Nat.reduceSub, Int.reduceToNat, Int.reduceAdd, Int.reduceSub, Int.reduceMul, Int.reduceNeg])); refine vCall_eq (hmn) (by simp (disch := omega) only [go_sem, Nat.reduceAdd]) rfl (by first | exact Or.inl rfl | exact Or.inr ⟨rfl, rfl⟩ | (apply Or.inr; simp only [go_sem])) ?_; (simp (maxSteps := 2000000) (disch := omega) only [go_sem, Nat.reduceEqDiff, Nat.reduceAdd, Nat.reduceMul, Nat.reduceSub, Int.reduceToNat, Int.reduceAdd, Int.reduceSub, Int.reduceMul, Int.reduceNeg]; repeat ((first | refine vIf_t ?_ | refine vIf_f ?_); simp (maxSteps := 2000000) (disch := omega) only [go_sem, Nat.reduceEqDiff, Nat.reduceAdd, Nat.reduceMul, Nat.reduceSub, Int.reduceToNat, Int.reduceAdd, Int.reduceSub, Int.reduceMul, Int.reduceNeg])))
    (refine vCallX_of ?_; (simp (maxSteps := 2000000) (disch := omega) only [go_sem, Nat.reduceEqDiff, Nat.reduceAdd, Nat.reduceMul, Nat.reduceSub, Int.reduceToNat, Int.reduceAdd, Int.reduceSub, Int.reduceMul, Int.reduceNeg]; repeat ((first | refine vIf_t ?_ | refine vIf_f ?_); simp (maxSteps := 2000000) (disch := omega) only [go_sem, Nat.reduceEqDiff, Nat.reduceAdd, Nat.reduceMul, Nat.reduceSub, Int.reduceToNat, Int.reduceAdd, Int.reduceSub, Int.reduceMul, Int.reduceNeg])); refine vCall_eq (hwn) (by simp (disch := omega) only [go_sem, Nat.reduceAdd]) rfl (by first | exact Or.inl rfl | exact Or.inr ⟨rfl, rfl⟩ | (apply Or.inr; simp only [go_sem])) ?_; (simp (maxSteps := 2000000) (disch := omega) only [go_sem, Nat.reduceEqDiff, Nat.reduceAdd, Nat.reduceMul, Nat.reduceSub, Int.reduceToNat, Int.reduceAdd, Int.reduceSub, Int.reduceMul, Int.reduceNeg]; repeat ((first | refine vIf_t ?_ | refine vIf_f ?_); simp (maxSteps := 2000000) (disch := omega) only [go_sem, Nat.reduceEqDiff, Nat.reduceAdd, Nat.reduceMul, Nat.reduceSub, Int.reduceToNat, Int.reduceAdd, Int.reduceSub, Int.reduceMul, Int.reduceNeg])))
    have hwd : wnB xs s = decide (wsum xs < IntKind.wrap .i64 (2 * mand xs s)) := rfl
    cases hw : decide (wsum xs < IntKind.wrap .i64 (2 * mand xs s)) with
    | false =>
      rw [if_neg (by rw [hwd, hw]; simp)] at hss
      (simp (maxSteps := 2000000) (disch := omega) only [go_sem, Nat.reduceEqDiff, Nat.reduceAdd, Nat.reduceMul, Nat.reduceSub, Int.reduceToNat, Int.reduceAdd, Int.reduceSub, Int.reduceMul, Int.reduceNeg, hw]; repeat ((first | refine vIf_t ?_ | refine vIf_f ?_); simp (maxSteps := 2000000) (disch := omega) only [go_sem, Nat.reduceEqDiff, Nat.reduceAdd, Nat.reduceMul, Nat.reduceSub, Int.reduceToNat, Int.reduceAdd, Int.reduceSub, Int.reduceMul, Int.reduceNeg, hw]))
      refine again (k + 1) (by omega) (by omega) ?_
      rw [hss]
      (simp (maxSteps := 2000000) (disch := omega) only [go_sem, Nat.reduceEqDiff, Nat.reduceAdd, Nat.reduceMul, Nat.reduceSub, Int.reduceToNat, Int.reduceAdd, Int.reduceSub, Int.reduceMul, Int.reduceNeg, iS]; repeat ((first | refine vIf_t ?_ | refine vIf_f ?_); simp (maxSteps := 2000000) (disch := omega) only [go_sem, Nat.reduceEqDiff, Nat.reduceAdd, Nat.reduceMul, Nat.reduceSub, Int.reduceToNat, Int.reduceAdd, Int.reduceSub, Int.reduceMul, Int.reduceNeg, iS]))
    | true =>
      rw [hw] at hwd
      (simp (maxSteps := 2000000) (disch := omega) only [go_sem, Nat.reduceEqDiff, Nat.reduceAdd, Nat.reduceMul, Nat.reduceSub, Int.reduceToNat, Int.reduceAdd, Int.reduceSub, Int.reduceMul, Int.reduceNeg, hw]; repeat ((first | refine vIf_t ?_ | refine vIf_f ?_); simp (maxSteps := 2000000) (disch := omega) only [go_sem, Nat.reduceEqDiff, Nat.reduceAdd, Nat.reduceMul, Nat.reduceSub, Int.reduceToNat, Int.reduceAdd, Int.reduceSub, Int.reduceMul, Int.reduceNeg, hw]))
      by_cases hf : (clK xs L k).2 < 0
      · have hfb : decide ((clK xs L k).2 < 0) = true := decide_eq_true hf
        rw [if_pos ⟨hwd, .inl hf⟩] at hss
        (simp (maxSteps := 2000000) (disch := omega) only [go_sem, Nat.reduceEqDiff, Nat.reduceAdd, Nat.reduceMul, Nat.reduceSub, Int.reduceToNat, Int.reduceAdd, Int.reduceSub, Int.reduceMul, Int.reduceNeg, hfb]; repeat ((first | refine vIf_t ?_ | refine vIf_f ?_); simp (maxSteps := 2000000) (disch := omega) only [go_sem, Nat.reduceEqDiff, Nat.reduceAdd, Nat.reduceMul, Nat.reduceSub, Int.reduceToNat, Int.reduceAdd, Int.reduceSub, Int.reduceMul, Int.reduceNeg, hfb]))
        refine again (k + 1) (by omega) (by omega) ?_
        rw [hss]
        (simp (maxSteps := 2000000) (disch := omega) only [go_sem, Nat.reduceEqDiff, Nat.reduceAdd, Nat.reduceMul, Nat.reduceSub, Int.reduceToNat, Int.reduceAdd, Int.reduceSub, Int.reduceMul, Int.reduceNeg, iS]; repeat ((first | refine vIf_t ?_ | refine vIf_f ?_); simp (maxSteps := 2000000) (disch := omega) only [go_sem, Nat.reduceEqDiff, Nat.reduceAdd, Nat.reduceMul, Nat.reduceSub, Int.reduceToNat, Int.reduceAdd, Int.reduceSub, Int.reduceMul, Int.reduceNeg, iS]))
      · have hfb : decide ((clK xs L k).2 < 0) = false := decide_eq_false hf
        by_cases hg : mand xs s < (clK xs L k).2
        · have hgb : decide (mand xs s < (clK xs L k).2) = true := decide_eq_true hg
          rw [if_pos ⟨hwd, .inr hg⟩] at hss
          (simp (maxSteps := 2000000) (disch := omega) only [go_sem, Nat.reduceEqDiff, Nat.reduceAdd, Nat.reduceMul, Nat.reduceSub, Int.reduceToNat, Int.reduceAdd, Int.reduceSub, Int.reduceMul, Int.reduceNeg, hfb, hgb]; repeat ((first | refine vIf_t ?_ | refine vIf_f ?_); simp (maxSteps := 2000000) (disch := omega) only [go_sem, Nat.reduceEqDiff, Nat.reduceAdd, Nat.reduceMul, Nat.reduceSub, Int.reduceToNat, Int.reduceAdd, Int.reduceSub, Int.reduceMul, Int.reduceNeg, hfb, hgb]))
          refine again (k + 1) (by omega) (by omega) ?_
          rw [hss]
          (simp (maxSteps := 2000000) (disch := omega) only [go_sem, Nat.reduceEqDiff, Nat.reduceAdd, Nat.reduceMul, Nat.reduceSub, Int.reduceToNat, Int.reduceAdd, Int.reduceSub, Int.reduceMul, Int.reduceNeg, iS]; repeat ((first | refine vIf_t ?_ | refine vIf_f ?_); simp (maxSteps := 2000000) (disch := omega) only [go_sem, Nat.reduceEqDiff, Nat.reduceAdd, Nat.reduceMul, Nat.reduceSub, Int.reduceToNat, Int.reduceAdd, Int.reduceSub, Int.reduceMul, Int.reduceNeg, iS]))
        · have hgb : decide (mand xs s < (clK xs L k).2) = false := decide_eq_false hg
          rw [if_neg (by rintro ⟨_, h | h⟩; exact hf h; exact hg h)] at hss
          (simp (maxSteps := 2000000) (disch := omega) only [go_sem, Nat.reduceEqDiff, Nat.reduceAdd, Nat.reduceMul, Nat.reduceSub, Int.reduceToNat, Int.reduceAdd, Int.reduceSub, Int.reduceMul, Int.reduceNeg, hfb, hgb]; repeat ((first | refine vIf_t ?_ | refine vIf_f ?_); simp (maxSteps := 2000000) (disch := omega) only [go_sem, Nat.reduceEqDiff, Nat.reduceAdd, Nat.reduceMul, Nat.reduceSub, Int.reduceToNat, Int.reduceAdd, Int.reduceSub, Int.reduceMul, Int.reduceNeg, hfb, hgb]))
          refine again (k + 1) (by omega) (by omega) ?_
          rw [hss]
          (simp (maxSteps := 2000000) (disch := omega) only [go_sem, Nat.reduceEqDiff, Nat.reduceAdd, Nat.reduceMul, Nat.reduceSub, Int.reduceToNat, Int.reduceAdd, Int.reduceSub, Int.reduceMul, Int.reduceNeg, iS]; repeat ((first | refine vIf_t ?_ | refine vIf_f ?_); simp (maxSteps := 2000000) (disch := omega) only [go_sem, Nat.reduceEqDiff, Nat.reduceAdd, Nat.reduceMul, Nat.reduceSub, Int.reduceToNat, Int.reduceAdd, Int.reduceSub, Int.reduceMul, Int.reduceNeg, iS]))
  · have e : k = L.length := by omega
    subst e
    (simp (maxSteps := 2000000) (disch := omega) only [go_sem, Nat.reduceEqDiff, Nat.reduceAdd, Nat.reduceMul, Nat.reduceSub, Int.reduceToNat, Int.reduceAdd, Int.reduceSub, Int.reduceMul, Int.reduceNeg]; repeat ((first | refine vIf_t ?_ | refine vIf_f ?_); simp (maxSteps := 2000000) (disch := omega) only [go_sem, Nat.reduceEqDiff, Nat.reduceAdd, Nat.reduceMul, Nat.reduceSub, Int.reduceToNat, Int.reduceAdd, Int.reduceSub, Int.reduceMul, Int.reduceNeg]))
    (refine retK_of ?_; (simp (maxSteps := 2000000) (disch := omega) only [go_sem, Nat.reduceEqDiff, Nat.reduceAdd, Nat.reduceMul, Nat.reduceSub, Int.reduceToNat, Int.reduceAdd, Int.reduceSub, Int.reduceMul, Int.reduceNeg]; repeat ((first | refine vIf_t ?_ | refine vIf_f ?_); simp (maxSteps := 2000000) (disch := omega) only [go_sem, Nat.reduceEqDiff, Nat.reduceAdd, Nat.reduceMul, Nat.reduceSub, Int.reduceToNat, Int.reduceAdd, Int.reduceSub, Int.reduceMul, Int.reduceNeg])))
    rw [hCL]
    all_goals (try simp)
end Go.Proofs.Ytkgfpephkinocaa
